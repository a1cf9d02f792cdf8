import PyProof.Rows.All
import Wide.All
import OpenK.AllK
import Wide.FinOn
import HandS.ForMost
import HandS.ForExc
import HandS.EndBits
import HandS.IsInst
import HandS.TupMul
import HandS.TupAny
import HandS.Style
import HandS.Flow
import HandS.Conv
import HandS.WideBits
import HandS.TupLe
import HandS.Defaults
import PyProof.ReprReads
import PyProof.ReprRoads
import HandS.CallSlots
import HandS.Head0
import HandS.Head1
import HandS.Head2
import HandS.HeadEnd
import HandS.HeadHook1
import HandS.HeadHook2
import KE.KStateDown
import HandS.Base
import HandS.Call
import HandS.Ends
import HandS.More
import HandS.Words
import HandS.WordsExc
import Lean
import PySem.Challenge.RW_staybars_k01_nets_judged
set_option Elab.async false
set_option linter.all false
set_option maxRecDepth 100000
set_option maxHeartbeats 4000000

/-! MP: a small interpreter. Values are PyData; lists that the program changes are cells of a store. -/
namespace MP
open PySem
abbrev D := PyData
inductive T where
  | d (v : D)
  | ref (n : Nat)
inductive Cell where
  | lst (xs : List D)
  | dead
abbrev Store := List Cell
abbrev Env := List (Option T)
inductive RV where
  | t (v : T)
  | new (xs : List D)
inductive Res (α : Type) where
  | ok (a : α) (st : Store)
  | exc (c : Nat) (v : T) (st : Store)
  | stuck
def Res.bind {α β : Type} (r : Res α) (f : α → Store → Res β) : Res β :=
  match r with
  | .ok a st => f a st
  | .exc c v st => .exc c v st
  | .stuck => .stuck
inductive Op where
  | add | sub | mul | fdiv | mod | pow
inductive Cm where
  | eq | ne | lt | le | gt | ge | isin | notin | is | isnot
inductive Ty where
  | int | bool | tuple | list | str | dict
inductive Prim where
  | len | int | max | min | all | any | tuple | list | repr | sum | sorted | abs
inductive Meth where
  | append | pop | insert | extend
inductive Pat where
  | nm (i : Nat)
  | tp (ps : List Pat)
inductive E where
  | hole
  | var (i : Nat)
  | con (v : D)
  | glo (x : Str) (v : D)
  | op (o : Op) (a b : E)
  | neg (a : E)
  | cmp (c : Cm) (a b : E)
  | chain (c c' : Cm) (a b e : E)
  | and (a b : E)
  | or (a b : E)
  | not (a : E)
  | ite (c a b : E)
  | tup (es : List E)
  | lst (es : List E)
  | dct (ks : List D) (es : List E)
  | call (f : Nat) (es : List E)
  | prim (p : Prim) (es : List E)
  | isi (a : E) (t : Ty)
  | ix (a i : E)
  | sl (a lo hi : E)
  | comp (own : List Nat) (p : Pat) (it : E) (conds : List E) (elt : E)
  | meth (m : Meth) (o : E) (es : List E)
  | rng (es : List E)
  | enm (a : E)
  | zp (a b : E)
inductive S where
  | set (p : Pat) (e : E)
  | setM (i : Nat) (e : E)
  | par (i j : Nat) (mi mj : Bool) (a b : E)
  | setI (o i e : E)
  | aug (i : Nat) (o : Op) (e : E)
  | expr (e : E)
  | ret (e : E)
  | retN
  | ife (c : E) (a b : List S)
  | for (p : Pat) (it : E) (body : List S)
  | whl (c : E) (body : List S)
  | pass
  | brk
  | cont
  | rais (c : Nat) (e : E)
/-! ### what is read -/
def rd (st : Store) : T → Option D
  | .d v => some v
  | .ref n => match st[n]? with
    | some (.lst xs) => some (.list xs)
    | _ => none
def RV.settle : RV → T
  | .t v => v
  | .new xs => .d (.list xs)
def truthD : D → Bool
  | .none => false
  | .bool b => b
  | .int i => i != 0
  | .str x => x.length != 0
  | .list xs => !xs.isEmpty
  | .tuple xs => !xs.isEmpty
  | .dict kvs => !kvs.isEmpty
abbrev big : Nat := 16777216
/-! ### operators -/
def mulOk (i j : Int) : Bool := decide (Builtin.Int.intBits i + Builtin.Int.intBits j ≤ 134217728)
def powOk (i j : Int) : Bool := decide (0 ≤ j) && decide ((Builtin.Int.intBits i : Int) * j ≤ 2 ^ 27)
def repD (xs : List D) (k : Int) : List D := (List.replicate k.toNat xs).flatten
def binD : Op → D → D → Option RV
  | .add, .int i, .int j => some (.t (.d (.int (i + j))))
  | .add, .list xs, .list ys => if xs.length + ys.length ≤ big then some (.new (xs ++ ys)) else none
  | .add, .tuple xs, .tuple ys => if xs.length + ys.length ≤ big then some (.t (.d (.tuple (xs ++ ys)))) else none
  | .add, .str x, .str y => if x.length + y.length ≤ big then some (.t (.d (.str (x ++ y)))) else none
  | .sub, .int i, .int j => some (.t (.d (.int (i - j))))
  | .mul, .int i, .int j => if mulOk i j then some (.t (.d (.int (i * j)))) else none
  | .mul, .tuple xs, .int k => if 1 ≤ k ∧ k ≤ 1000 ∧ xs.length ≤ 1000 then some (.t (.d (.tuple (repD xs k)))) else none
  | .mul, .list xs, .int k => if 0 ≤ k ∧ k ≤ 1000 ∧ xs.length ≤ 1000 then some (.new (repD xs k)) else none
  | .fdiv, .int i, .int j => if 0 < j ∧ j < 1073741824 then some (.t (.d (.int (i / j)))) else none
  | .mod, .int i, .int j => if 0 < j then some (.t (.d (.int (i % j)))) else none
  | .pow, .int i, .int j => if powOk i j then some (.t (.d (.int (i ^ j.toNat)))) else none
  | _, _, _ => none
def flatD : D → Bool
  | .none => true
  | .bool _ => true
  | .int _ => true
  | .str _ => true
  | _ => false
def b2i (b : Bool) : Int := if b then 1 else 0
def eqF : D → D → Bool
  | .none, .none => true
  | .bool a, .bool b => a == b
  | .bool a, .int b => b2i a == b
  | .int a, .bool b => a == b2i b
  | .int a, .int b => a == b
  | .str a, .str b => decide (a = b)
  | _, _ => false
def isStr : D → Bool
  | .str _ => true
  | _ => false
def eqD (x y : D) : Option Bool := if isStr x && isStr y then some (eqF x y) else if SeqAt.shaped x && SeqAt.shaped y then some (PyData.eqv x y) else none
def cmpD : Cm → D → D → Option Bool
  | .eq, x, y => eqD x y
  | .ne, x, y => (eqD x y).map (!·)
  | .lt, .int i, .int j => some (decide (i < j))
  | .le, .int i, .int j => some (decide (i ≤ j))
  | .gt, .int i, .int j => some (decide (j < i))
  | .ge, .int i, .int j => some (decide (j ≤ i))
  | .isin, x, .list xs => if flatD x && xs.all flatD then some (xs.any fun y => eqF y x) else none
  | .isin, x, .tuple xs => if flatD x && xs.all flatD then some (xs.any fun y => eqF y x) else none
  | .notin, x, .list xs => if flatD x && xs.all flatD then some (!xs.any fun y => eqF y x) else none
  | .notin, x, .tuple xs => if flatD x && xs.all flatD then some (!xs.any fun y => eqF y x) else none
  | .is, .none, .none => some true
  | .is, .bool a, .bool b => some (a == b)
  | .is, _, .none => some false
  | .isnot, .none, .none => some false
  | .isnot, .bool a, .bool b => some (!(a == b))
  | .isnot, _, .none => some true
  | _, _, _ => none
def isiD : Ty → D → Bool
  | .int, .int _ => true
  | .int, .bool _ => true
  | .bool, .bool _ => true
  | .tuple, .tuple _ => true
  | .list, .list _ => true
  | .str, .str _ => true
  | .dict, .dict _ => true
  | _, _ => false
def ixN (n : Nat) (i : Int) : Option Nat := if 0 ≤ i then (if i < n then some i.toNat else none) else if -(n : Int) ≤ i then some (i + n).toNat else none
def atD (xs : List D) (i : Int) : Option D := (ixN xs.length i).bind fun j => xs[j]?
def ixD : D → D → Option D
  | .list xs, .int i => atD xs i
  | .tuple xs, .int i => atD xs i
  | _, _ => none
def sIx (n d : Nat) : Option Int → Nat
  | none => d
  | some v => if v < 0 then (max (v + n) 0).toNat else (min v n).toNat
def cutD (xs : List D) (lo hi : Option Int) : List D := (xs.drop (sIx xs.length 0 lo)).take (sIx xs.length xs.length hi - sIx xs.length 0 lo)
def slD : D → Option Int → Option Int → Option RV
  | .list xs, lo, hi => some (.new (cutD xs lo hi))
  | .tuple xs, lo, hi => some (.t (.d (.tuple (cutD xs lo hi))))
  | _, _, _ => none
/-! ### built-in functions -/
def ints? : List D → Option (List Int)
  | [] => some []
  | .int i :: r => (ints? r).map (i :: ·)
  | _ => none
def bools? : List D → Option (List Bool)
  | [] => some []
  | .bool b :: r => (bools? r).map (b :: ·)
  | _ => none
def maxI : List Int → Int
  | [] => 0
  | [x] => x
  | x :: y :: r => let m := maxI (y :: r); if x < m then m else x
def minI : List Int → Int
  | [] => 0
  | [x] => x
  | x :: y :: r => let m := minI (y :: r); if m < x then m else x
def insI (x : Int) : List Int → List Int
  | [] => [x]
  | y :: r => if x ≤ y then x :: y :: r else y :: insI x r
def sortI : List Int → List Int
  | [] => []
  | x :: r => insI x (sortI r)
mutual
def noList : D → Bool
  | .list _ => false
  | .tuple xs => noLists xs
  | .dict kvs => noListK kvs
  | _ => true
def noLists : List D → Bool
  | [] => true
  | x :: xs => noList x && noLists xs
def noListK : List (D × D) → Bool
  | [] => true
  | (k, x) :: xs => noList x && noListK xs
end
def reprOk (x : D) : Bool := x.showable && decide (x.depth ≤ 60) && decide (x.shown.length ≤ big) && (!x.hasDict || noList x)
def primD : Prim → List D → Option RV
  | .len, [.list xs] => some (.t (.d (.int xs.length)))
  | .len, [.tuple xs] => some (.t (.d (.int xs.length)))
  | .len, [.str x] => some (.t (.d (.int x.length)))
  | .int, [.int i] => some (.t (.d (.int i)))
  | .int, [.bool b] => some (.t (.d (.int (b2i b))))
  | .max, [.int i, .int j] => some (.t (.d (.int (if j > i then j else i))))
  | .min, [.int i, .int j] => some (.t (.d (.int (if j < i then j else i))))
  | .max, [.list xs] => (ints? xs).bind fun ns => if ns.isEmpty then none else some (.t (.d (.int (maxI ns))))
  | .min, [.list xs] => (ints? xs).bind fun ns => if ns.isEmpty then none else some (.t (.d (.int (minI ns))))
  | .all, [.list xs] => (bools? xs).map fun bs => .t (.d (.bool (bs.all id)))
  | .any, [.list xs] => (bools? xs).map fun bs => .t (.d (.bool (bs.any id)))
  | .tuple, [.list xs] => some (.t (.d (.tuple xs)))
  | .tuple, [.tuple xs] => some (.t (.d (.tuple xs)))
  | .list, [.list xs] => some (.new xs)
  | .list, [.tuple xs] => some (.new xs)
  | .repr, [x] => if reprOk x then some (.t (.d (.str x.shown))) else none
  | .sum, [.list xs] => (ints? xs).map fun ns => .t (.d (.int ns.sum))
  | .sorted, [.list xs] => (ints? xs).bind fun ns => if ns.length < 64 then some (.new ((sortI ns).map .int)) else none
  | .abs, [.int i] => some (.t (.d (.int (if i < 0 then -i else i))))
  | _, _ => none
/-! ### changes of a cell -/
def methD : Meth → List D → List D → Option (D × List D)
  | .append, xs, [y] => if xs.length < big then some (.none, xs ++ [y]) else none
  | .pop, xs, [] => if xs.isEmpty then none else (xs[xs.length - 1]?).map fun y => (y, xs.dropLast)
  | .pop, xs, [.int i] => (ixN xs.length i).bind fun k => (xs[k]?).map fun y => (y, xs.eraseIdx k)
  | .extend, xs, [.list ys] => if xs.length + ys.length ≤ big then some (.none, xs ++ ys) else none
  | _, _, _ => none
/-- keys of a written dict: ints and texts, none twice, at most fifteen -/
def keyD : D → Option L2.Key
  | .int i => some (.inl i)
  | .str x => some (.inr x)
  | _ => none
def keysOk (ks : List D) : Bool := decide (ks.length ≤ 15) && match ks.mapM keyD with
  | some l => decide l.Nodup
  | none => false
/-! ### targets -/
mutual
def bindP (st : Store) : Pat → T → Env → Option Env
  | .nm i, v, env => some (env.set i (some v))
  | .tp ps, .d (.tuple xs), env => bindPs st ps xs env
  | .tp _, _, _ => none
def bindPs (st : Store) : List Pat → List D → Env → Option Env
  | [], [], env => some env
  | p :: ps, x :: xs, env => (bindP st p (.d x) env).bind fun env' => bindPs st ps xs env'
  | _, _, _ => none
end
def wipe (env : Env) : List Nat → Env
  | [] => env
  | v :: vs => (wipe env vs).set v none
inductive Src where
  | fz (xs : List D)
  | cell (n : Nat)
def intsFrom (lo : Int) (n : Nat) : List D := (List.range n).map fun i => .int (lo + (i : Nat))
def enumD (xs : List D) : List D := xs.zipIdx.map fun p => .tuple [.int (p.2 : Nat), p.1]
def zipD (xs ys : List D) : List D := (xs.zip ys).map fun p => .tuple [p.1, p.2]
def seqOf : D → Option (List D)
  | .list xs => some xs
  | .tuple xs => some xs
  | _ => none
def consO : Option D → List D → List D
  | some y, r => y :: r
  | none, r => r
def compL (g : D → Store → Res (Option D)) : List D → Store → Res (List D)
  | [], st => .ok [] st
  | x :: xs, st => (g x st).bind fun o st' => (compL g xs st').bind fun r st'' => .ok (consO o r) st''
def compC (g : D → Store → Res (Option D)) (n : Nat) : Nat → Nat → Store → Res (List D)
  | 0, _, _ => .stuck
  | k + 1, i, st => match st[n]? with
    | some (.lst xs) => match xs[i]? with
      | none => .ok [] st
      | some x => (g x st).bind fun o st' => (compC g n k (i + 1) st').bind fun r st'' => .ok (consO o r) st''
    | _ => .stuck
/-- what may leave a comprehension: no exception -/
def Res.noexc {α : Type} : Res α → Res α
  | .ok a st => .ok a st
  | _ => .stuck
inductive Flow where
  | next | brk | cont
  | ret (v : RV)
/-- a statement's end -/
inductive RS where
  | ok (f : Flow) (env : Env) (st : Store)
  | exc (c : Nat) (v : T) (env : Env) (st : Store)
  | stuck
/-- an expression, then the rest of a statement -/
def Res.then {α : Type} (r : Res α) (env : Env) (f : α → Store → RS) : RS := match r with
  | .ok a st => f a st
  | .exc c v st => .exc c v env st
  | .stuck => .stuck
/-- a statement in a loop's body, then the next turn -/
def RS.turn (r : RS) (f : Env → Store → RS) : RS := match r with
  | .ok .next env st => f env st
  | .ok .cont env st => f env st
  | .ok .brk env st => .ok .next env st
  | .ok (.ret v) env st => .ok (.ret v) env st
  | .exc c v env st => .exc c v env st
  | .stuck => .stuck
def RS.seq (r : RS) (f : Env → Store → RS) : RS := match r with
  | .ok .next env st => f env st
  | .ok fl env st => .ok fl env st
  | .exc c v env st => .exc c v env st
  | .stuck => .stuck
/-- a target bound, then the rest -/
def bindThen (o : Option Env) (k : Env → RS) : RS := match o with
  | some e => k e
  | none => .stuck
def forL (f : D → Env → Store → RS) : List D → Env → Store → RS
  | [], env, st => .ok .next env st
  | x :: xs, env, st => (f x env st).turn fun env' st' => forL f xs env' st'
def forC (f : D → Env → Store → RS) (n : Nat) : Nat → Nat → Env → Store → RS
  | 0, _, _, _ => .stuck
  | k + 1, i, env, st => match st[n]? with
    | some (.lst xs) => match xs[i]? with
      | none => .ok .next env st
      | some x => (f x env st).turn fun env' st' => forC f n k (i + 1) env' st'
    | _ => .stuck
def whileL (c : Env → Store → Res Bool) (f : Env → Store → RS) : Nat → Env → Store → RS
  | 0, _, _ => .stuck
  | k + 1, env, st => (c env st).then env fun b st1 => if b then (f env st1).turn fun env' st' => whileL c f k env' st' else .ok .next env st1
def lift {α : Type} (o : Option α) (st : Store) : Res α := match o with
  | some a => .ok a st
  | none => .stuck
def settled (r : Res RV) : Res T := r.bind fun v st => .ok v.settle st
/-- the value at a name that is to be changed: a new list becomes a cell -/
def alloc (r : Res RV) : Res T := r.bind fun v st => match v with
  | .t v => .ok v st
  | .new xs => .ok (.ref st.length) (st ++ [.lst xs])
def readD (r : Res RV) : Res D := r.bind fun v st => lift (rd st v.settle) st
def evalF (m : Bool) (r : Res RV) : Res T := if m then alloc r else settled r
abbrev CF := Nat → List T → Store → Res RV
def loopSrc (g : D → Store → Res (Option D)) : Src → Store → Res (List D)
  | .fz xs, st => compL g xs st
  | .cell n, st => match st[n]? with
    | some (.lst xs) => compC g n (xs.length + 1) 0 st
    | _ => .stuck
def forSrc (f : D → Env → Store → RS) : Src → Env → Store → RS
  | .fz xs, env, st => forL f xs env st
  | .cell n, env, st => match st[n]? with
    | some (.lst xs) => forC f n (xs.length + 1) 0 env st
    | _ => .stuck
def srcOf (st : Store) : RV → Option Src
  | .t (.d v) => (seqOf v).map .fz
  | .t (.ref n) => match st[n]? with
    | some (.lst _) => some (.cell n)
    | _ => none
  | .new xs => some (.fz xs)
def seqRV : RV → Option (List D)
  | .t (.d v) => seqOf v
  | .new xs => some xs
  | _ => none
def pureT : T → Option D
  | .d v => some v
  | .ref _ => none
def tB (b : Bool) : RV := .t (.d (.bool b))
def optI : Option D → Option (Option Int)
  | none => some none
  | some (.int i) => some (some i)
  | _ => none
mutual
def evalE (cf : CF) : E → Env → Store → Res RV
  | .hole, _, _ => .stuck
  | .var i, env, st => match env[i]? with
    | some (some v) => .ok (.t v) st
    | _ => .stuck
  | .con v, _, st => .ok (.t (.d v)) st
  | .glo _ v, _, st => .ok (.t (.d v)) st
  | .op o a b, env, st => (settled (evalE cf a env st)).bind fun x st1 => (settled (evalE cf b env st1)).bind fun y st2 => lift ((rd st2 x).bind fun x => (rd st2 y).bind fun y => binD o x y) st2
  | .neg a, env, st => (readD (evalE cf a env st)).bind fun x st1 => match x with
    | .int i => .ok (.t (.d (.int (-i)))) st1
    | _ => .stuck
  | .cmp c a b, env, st => (settled (evalE cf a env st)).bind fun x st1 => (settled (evalE cf b env st1)).bind fun y st2 => lift (((rd st2 x).bind fun x => (rd st2 y).bind fun y => cmpD c x y).map tB) st2
  | .chain c c' a b e, env, st => (settled (evalE cf a env st)).bind fun x st1 => (settled (evalE cf b env st1)).bind fun y st2 =>
      (lift ((rd st2 x).bind fun x => (rd st2 y).bind fun y => cmpD c x y) st2).bind fun k st2 => if k then (settled (evalE cf e env st2)).bind fun z st3 => lift (((rd st3 y).bind fun y => (rd st3 z).bind fun z => cmpD c' y z).map tB) st3 else .ok (tB false) st2
  | .and a b, env, st => (readD (evalE cf a env st)).bind fun x st1 => match x with
    | .bool true => evalE cf b env st1
    | .bool false => .ok (tB false) st1
    | _ => .stuck
  | .or a b, env, st => (readD (evalE cf a env st)).bind fun x st1 => match x with
    | .bool false => evalE cf b env st1
    | .bool true => .ok (tB true) st1
    | _ => .stuck
  | .not a, env, st => (readD (evalE cf a env st)).bind fun x st1 => .ok (tB (!truthD x)) st1
  | .ite c a b, env, st => (readD (evalE cf c env st)).bind fun x st1 => if truthD x then evalE cf a env st1 else evalE cf b env st1
  | .tup es, env, st => (evalDs cf es env st).bind fun xs st1 => .ok (.t (.d (.tuple xs))) st1
  | .lst es, env, st => (evalDs cf es env st).bind fun xs st1 => .ok (.new xs) st1
  | .dct ks es, env, st => (evalDs cf es env st).bind fun xs st1 => if ks.length = xs.length ∧ keysOk ks then .ok (.t (.d (.dict (ks.zip xs)))) st1 else .stuck
  | .call f es, env, st => (evalTs cf es env st).bind fun xs st1 => cf f xs st1
  | .prim p es, env, st => (evalTs cf es env st).bind fun xs st1 => lift ((xs.mapM (rd st1)).bind (primD p)) st1
  | .isi a t, env, st => (readD (evalE cf a env st)).bind fun x st1 => .ok (tB (isiD t x)) st1
  | .ix a i, env, st => (settled (evalE cf a env st)).bind fun x st1 => (settled (evalE cf i env st1)).bind fun y st2 => lift (((rd st2 x).bind fun x => (rd st2 y).bind fun y => ixD x y).map fun v => .t (.d v)) st2
  | .sl a lo hi, env, st => (settled (evalE cf a env st)).bind fun x st1 => (evalO cf lo env st1).bind fun l st2 => (evalO cf hi env st2).bind fun h st3 => lift ((rd st3 x).bind fun x => slD x l h) st3
  | .comp own p it conds elt, env, st => (evalIt cf it env st).bind fun src st1 => ((loopSrc (fun x st => (lift (bindP st p (.d x) (wipe env own)) st).bind fun env' st2 => (evalCs cf conds env' st2).bind fun b st3 =>
      if b then (settled (evalE cf elt env' st3)).bind fun v st4 => lift ((pureT v).map some) st4 else .ok none st3) src st1).noexc).bind fun xs st5 => .ok (.new xs) st5
  | .meth m o es, env, st => (settled (evalE cf o env st)).bind fun x st1 => match x with
    | .ref n => match st1[n]? with
      | some (.lst _) => (evalDs cf es env st1).bind fun ys st2 => match st2[n]? with
        | some (.lst xs) => match methD m xs ys with
          | some (v, xs') => .ok (.t (.d v)) (st2.set n (.lst xs'))
          | none => .stuck
        | _ => .stuck
      | _ => .stuck
    | _ => .stuck
  | .rng _, _, _ => .stuck
  | .enm _, _, _ => .stuck
  | .zp _ _, _, _ => .stuck
/-- what a loop walks -/
def evalIt (cf : CF) : E → Env → Store → Res Src
  | .rng [a], env, st => (readD (evalE cf a env st)).bind fun x st1 => match x with
    | .int n => if -(big : Int) ≤ n ∧ n ≤ big then .ok (.fz (intsFrom 0 n.toNat)) st1 else .stuck
    | _ => .stuck
  | .rng [a, b], env, st => (readD (evalE cf a env st)).bind fun x st1 => (readD (evalE cf b env st1)).bind fun y st2 => match x, y with
    | .int i, .int j => if -(big : Int) ≤ i ∧ i ≤ big ∧ -(big : Int) ≤ j ∧ j - i ≤ big then .ok (.fz (intsFrom i (j - i).toNat)) st2 else .stuck
    | _, _ => .stuck
  | .enm a, env, st => (evalE cf a env st).bind fun v st1 => lift ((seqRV v).map fun xs => .fz (enumD xs)) st1
  | .zp a b, env, st => (evalE cf a env st).bind fun v st1 => (evalE cf b env st1).bind fun u st2 => lift ((seqRV v).bind fun xs => (seqRV u).map fun ys => .fz (zipD xs ys)) st2
  | e, env, st => (evalE cf e env st).bind fun v st1 => lift (srcOf st1 v) st1
def evalTs (cf : CF) : List E → Env → Store → Res (List T)
  | [], _, st => .ok [] st
  | e :: es, env, st => (settled (evalE cf e env st)).bind fun v st1 => (evalTs cf es env st1).bind fun vs st2 => .ok (v :: vs) st2
def evalDs (cf : CF) : List E → Env → Store → Res (List D)
  | [], _, st => .ok [] st
  | e :: es, env, st => (settled (evalE cf e env st)).bind fun v st1 => (lift (pureT v) st1).bind fun v st1 => (evalDs cf es env st1).bind fun vs st2 => .ok (v :: vs) st2
def evalCs (cf : CF) : List E → Env → Store → Res Bool
  | [], _, st => .ok true st
  | e :: es, env, st => (readD (evalE cf e env st)).bind fun x st1 => if truthD x then evalCs cf es env st1 else .ok false st1
def evalO (cf : CF) : E → Env → Store → Res (Option Int)
  | .hole, _, st => .ok none st
  | e, env, st => (readD (evalE cf e env st)).bind fun x st1 => match x with
    | .int i => .ok (some i) st1
    | _ => .stuck
end
mutual
def exec (cf : CF) (wf : Nat) : S → Env → Store → RS
  | .set p e, env, st => (settled (evalE cf e env st)).then env fun v st1 => bindThen (bindP st1 p v env) fun env' => .ok .next env' st1
  | .setM i e, env, st => (alloc (evalE cf e env st)).then env fun v st1 => .ok .next (env.set i (some v)) st1
  | .par i j mi mj a b, env, st => (evalF mi (evalE cf a env st)).then env fun x st1 => (evalF mj (evalE cf b env st1)).then env fun y st2 => .ok .next ((env.set i (some x)).set j (some y)) st2
  | .setI o i e, env, st => (settled (evalE cf e env st)).then env fun v st1 => (settled (evalE cf o env st1)).then env fun x st2 => (readD (evalE cf i env st2)).then env fun k st3 => match v, x, k with
    | .d v, .ref n, .int k => match st3[n]? with
      | some (.lst xs) => match ixN xs.length k with
        | some j => .ok .next env (st3.set n (.lst (xs.set j v)))
        | none => .stuck
      | _ => .stuck
    | _, _, _ => .stuck
  | .aug i o e, env, st => match env[i]? with
    | some (some (.d x)) => (settled (evalE cf e env st)).then env fun v st1 => match v with
      | .d y => match binD o x y with
        | some (.t z) => .ok .next (env.set i (some z)) st1
        | _ => .stuck
      | _ => .stuck
    | _ => .stuck
  | .expr e, env, st => (evalE cf e env st).then env fun _ st1 => .ok .next env st1
  | .ret e, env, st => (evalE cf e env st).then env fun v st1 => .ok (.ret v) env st1
  | .retN, env, st => .ok (.ret (.t (.d .none))) env st
  | .ife c a b, env, st => (readD (evalE cf c env st)).then env fun x st1 => if truthD x then execs cf wf a env st1 else execs cf wf b env st1
  | .for p it body, env, st => (evalIt cf it env st).then env fun src st1 => forSrc (fun x env st => bindThen (bindP st p (.d x) env) fun env' => execs cf wf body env' st) src env st1
  | .whl c body, env, st => whileL (fun env st => (readD (evalE cf c env st)).bind fun x st1 => .ok (truthD x) st1) (fun env st => execs cf wf body env st) wf env st
  | .pass, env, st => .ok .next env st
  | .brk, env, st => .ok .brk env st
  | .cont, env, st => .ok .cont env st
  | .rais c e, env, st => (settled (evalE cf e env st)).then env fun v st1 => .exc c v env st1
def execs (cf : CF) (wf : Nat) : List S → Env → Store → RS
  | [], env, st => .ok .next env st
  | s :: ss, env, st => (exec cf wf s env st).seq fun env' st1 => execs cf wf ss env' st1
end
structure Def where
  np : Nat
  n : Nat
  body : List S
def leave (n0 : Nat) (st : Store) : RV → Res RV
  | .t (.d v) => .ok (.t (.d v)) (st.take n0)
  | .t (.ref n) => if n < n0 then .ok (.t (.ref n)) (st.take n0) else match st[n]? with
    | some (.lst xs) => .ok (.new xs) (st.take n0)
    | _ => .stuck
  | .new xs => .ok (.new xs) (st.take n0)
def finish (n0 : Nat) : RS → Res RV
  | .ok (.ret v) _ st => leave n0 st v
  | .ok .next _ st => .ok (.t (.d .none)) (st.take n0)
  | .ok _ _ _ => .stuck
  | .exc c (.d v) _ st => .exc c (.d v) (st.take n0)
  | .exc c (.ref n) _ st => if n < n0 then .exc c (.ref n) (st.take n0) else .stuck
  | .stuck => .stuck
def startE (d : Def) (args : List T) : Env := args.map some ++ List.replicate (d.n - args.length) none
def callN (tbl : List Def) (wf : Nat) : Nat → CF
  | 0, _, _, _ => .stuck
  | n + 1, f, args, st => match tbl[f]? with
    | none => .stuck
    | some d => if args.length = d.np then finish st.length (execs (callN tbl wf n) wf d.body (startE d args) st) else .stuck
end MP


/-! MP, part b: how MP's values and stores lie in the abstract heap of the hand layer. -/
namespace MP
open PySem PySem.Spec PyProof.Rows L2
/-- f: what is read and stays; u: what stays and is not read (a list that a comprehension fills) -/
structure FS where
  f : Addr → Prop
  u : Addr → Prop
abbrev Fg := PySem.W.Frag
def KTp (K : Fg) (a : Addr) (vs : List V) : Prop :=
  ∃ (o : Obj) (its : Array Value) (n : Nat), K.lookup a = some o ∧ o.cls = .type "tuple" ∧ o.data = .seq its n ∧ its.size ≤ sizeLine ∧ Vals vs its.toList
def FzL (F : FS) (K : Fg) (H : Hp) (a : Addr) (vs : List V) : Prop := F.f a ∧ Rd H a (.lst vs)
def FzT (F : FS) (K : Fg) (H : Hp) (a : Addr) (vs : List V) : Prop := (F.f a ∧ Rd H a (.tup vs)) ∨ KTp K a vs
theorem FzL.sq {F : FS} {K : Fg} {H : Hp} {a : Addr} {vs : List V} (h : FzL F K H a vs) : SqL K H a vs := .inl h.2
theorem FzT.sq {F : FS} {K : Fg} {H : Hp} {a : Addr} {vs : List V} (h : FzT F K H a vs) : SqT K H a vs := h.imp And.right id
mutual
/-- a value of the program stands for PyData -/
def RD (F : FS) (K : Fg) (H : Hp) : D → V → Prop
  | .none, v => v = .non
  | .bool b, v => v = .bl b
  | .int i, v => v = .int i
  | .str x, v => v = .str x ∧ x.length ≤ big
  | .list xs, v => ∃ a vs, v = .ref a ∧ FzL F K H a vs ∧ xs.length ≤ big ∧ RDs F K H xs vs
  | .tuple xs, v => ∃ a vs, v = .ref a ∧ FzT F K H a vs ∧ xs.length ≤ big ∧ RDs F K H xs vs
  | .dict kvs, v => ∃ a us, v = .ref a ∧ F.f a ∧ H a = some (.dK us) ∧ kvs.length ≤ big ∧ RDk F K H kvs us
def RDs (F : FS) (K : Fg) (H : Hp) : List D → List V → Prop
  | [], vs => vs = []
  | x :: xs, vs => ∃ v r, vs = v :: r ∧ RD F K H x v ∧ RDs F K H xs r
def RDk (F : FS) (K : Fg) (H : Hp) : List (D × D) → List (Key × V) → Prop
  | [], us => us = []
  | (k, x) :: xs, us => ∃ k' v r, us = (k', v) :: r ∧ keyD k = some k' ∧ RD F K H x v ∧ RDk F K H xs r
end
def TR (F : FS) (ρ : List Addr) (K : Fg) (H : Hp) : T → V → Prop
  | .d x, v => RD F K H x v
  | .ref n, v => ∃ a, ρ[n]? = some a ∧ v = .ref a
def CRel (F : FS) (K : Fg) (H : Hp) : Cell → Addr → Prop
  | .lst xs, a => ∃ vs, H a = some (.lst vs) ∧ xs.length ≤ big ∧ RDs F K H xs vs
  | .dead, a => ∃ o, H a = some o
structure SR (F : FS) (ρ : List Addr) (K : Fg) (st : Store) (H : Hp) : Prop where
  len : ρ.length = st.length
  nd : ρ.Nodup
  nf : ∀ a ∈ ρ, ¬ F.f a
  fd : ∀ a, F.f a → ∃ o, H a = some o
  uf : ∀ a, F.u a → ¬ F.f a
  un : ∀ a ∈ ρ, ¬ F.u a
  ud : ∀ a, F.u a → ∃ o, H a = some o
  cells : ∀ (i : Nat) (c : Cell) (a : Addr), st[i]? = some c → ρ[i]? = some a → CRel F K H c a
def RVR (F : FS) (ρ : List Addr) (K : Fg) (H : Hp) : RV → V → Prop
  | .t v, u => TR F ρ K H v u
  | .new xs, u => ∃ a vs, u = .ref a ∧ (¬ F.f a ∧ ¬ F.u a) ∧ a ∉ ρ ∧ H a = some (.lst vs) ∧ xs.length ≤ big ∧ RDs F K H xs vs
/-- what stays -/
structure Stp (F : FS) (ρ : List Addr) (H : Hp) (F' : FS) (ρ' : List Addr) (H' : Hp) : Prop where
  f : ∀ a, F.f a → F'.f a
  h : ∀ a, F.f a → H' a = H a
  p : ρ <+: ρ'
  u : F'.u = F.u
  k : ∀ a, F.u a → H' a = H a
def ER (F : FS) (ρ : List Addr) (K : Fg) (H : Hp) (env : Env) (σ : L2.St) : Prop :=
  env.length = σ.length ∧ ∀ (i : Nat) (t : T), env[i]? = some (some t) → ∃ v, σ[i]? = some (some v) ∧ TR F ρ K H t v
section
variable {F F' F'' : FS} {ρ ρ' ρ'' : List Addr} {K : Fg} {H H' H'' : Hp} {st st' : Store}
theorem Stp.refl : Stp F ρ H F ρ H := ⟨fun _ h => h, fun _ _ => rfl, List.prefix_refl _, rfl, fun _ _ => rfl⟩
theorem Stp.trans (a : Stp F ρ H F' ρ' H') (b : Stp F' ρ' H' F'' ρ'' H'') : Stp F ρ H F'' ρ'' H'' :=
  ⟨fun x h => b.f x (a.f x h), fun x h => (b.h x (a.f x h)).trans (a.h x h), a.p.trans b.p, b.u.trans a.u, fun x h => (b.k x (by rw [a.u]; exact h)).trans (a.k x h)⟩
theorem Stp.get (s : Stp F ρ H F' ρ' H') {n : Nat} {a : Addr} (e : ρ[n]? = some a) : ρ'[n]? = some a := by
  obtain ⟨t, rfl⟩ := s.p
  rw [List.getElem?_append_left (List.getElem?_eq_some_iff.mp e).1]
  exact e
theorem FzL.mono (s : ∀ a, F.f a → F'.f a ∧ H' a = H a) {a : Addr} {vs : List V} (h : FzL F K H a vs) : FzL F' K H' a vs := by
  obtain ⟨h1, h2⟩ := h
  refine ⟨(s a h1).1, ?_⟩
  unfold Rd at h2 ⊢
  rw [(s a h1).2]
  exact h2
theorem FzT.mono (s : ∀ a, F.f a → F'.f a ∧ H' a = H a) {a : Addr} {vs : List V} (h : FzT F K H a vs) : FzT F' K H' a vs := by
  rcases h with ⟨h1, h2⟩ | h
  · refine .inl ⟨(s a h1).1, ?_⟩
    unfold Rd at h2 ⊢
    rw [(s a h1).2]
    exact h2
  · exact .inr h
mutual
theorem RD.mono (s : ∀ a, F.f a → F'.f a ∧ H' a = H a) : ∀ (x : D) (v : V), RD F K H x v → RD F' K H' x v
  | .none, v, h => by unfold RD at h ⊢; exact h
  | .bool b, v, h => by unfold RD at h ⊢; exact h
  | .int i, v, h => by unfold RD at h ⊢; exact h
  | .str y, v, h => by unfold RD at h ⊢; exact h
  | .list xs, v, h => by
    unfold RD at h ⊢
    obtain ⟨a, vs, e, h1, h2, h3⟩ := h
    exact ⟨a, vs, e, h1.mono s, h2, RDs.mono s xs vs h3⟩
  | .tuple xs, v, h => by
    unfold RD at h ⊢
    obtain ⟨a, vs, e, h1, h2, h3⟩ := h
    exact ⟨a, vs, e, h1.mono s, h2, RDs.mono s xs vs h3⟩
  | .dict kvs, v, h => by
    unfold RD at h ⊢
    obtain ⟨a, us, e, h1, h2, h3, h4⟩ := h
    exact ⟨a, us, e, (s a h1).1, by rw [(s a h1).2]; exact h2, h3, RDk.mono s kvs us h4⟩
theorem RDs.mono (s : ∀ a, F.f a → F'.f a ∧ H' a = H a) : ∀ (xs : List D) (vs : List V), RDs F K H xs vs → RDs F' K H' xs vs
  | [], vs, h => by unfold RDs at h ⊢; exact h
  | x :: xs, vs, h => by
    unfold RDs at h ⊢
    obtain ⟨v, r, e, h1, h2⟩ := h
    exact ⟨v, r, e, RD.mono s x v h1, RDs.mono s xs r h2⟩
theorem RDk.mono (s : ∀ a, F.f a → F'.f a ∧ H' a = H a) : ∀ (xs : List (D × D)) (us : List (Key × V)), RDk F K H xs us → RDk F' K H' xs us
  | [], us, h => by unfold RDk at h ⊢; exact h
  | (k, x) :: xs, us, h => by
    unfold RDk at h ⊢
    obtain ⟨k', v, r, e, h0, h1, h2⟩ := h
    exact ⟨k', v, r, e, h0, RD.mono s x v h1, RDk.mono s xs r h2⟩
end
theorem Stp.fh (s : Stp F ρ H F' ρ' H') : ∀ a, F.f a → F'.f a ∧ H' a = H a := fun a h => ⟨s.f a h, s.h a h⟩
theorem Stp.rd (s : Stp F ρ H F' ρ' H') {x : D} {v : V} (h : RD F K H x v) : RD F' K H' x v := RD.mono s.fh x v h
theorem Stp.rds (s : Stp F ρ H F' ρ' H') {x : List D} {v : List V} (h : RDs F K H x v) : RDs F' K H' x v := RDs.mono s.fh x v h
theorem Stp.tr (s : Stp F ρ H F' ρ' H') {x : T} {v : V} (h : TR F ρ K H x v) : TR F' ρ' K H' x v := by
  cases x with
  | d x => exact s.rd h
  | ref n =>
    obtain ⟨a, e, q⟩ := h
    exact ⟨a, s.get e, q⟩
theorem Stp.er (s : Stp F ρ H F' ρ' H') {env : Env} {σ : L2.St} (h : ER F ρ K H env σ) : ER F' ρ' K H' env σ :=
  ⟨h.1, fun i t e => let ⟨v, e1, e2⟩ := h.2 i t e; ⟨v, e1, s.tr e2⟩⟩
theorem RDs.length : ∀ {xs : List D} {vs : List V}, RDs F K H xs vs → xs.length = vs.length
  | [], vs, h => by unfold RDs at h; subst h; rfl
  | x :: xs, vs, h => by
    unfold RDs at h
    obtain ⟨v, r, e, _, h2⟩ := h
    subst e
    simp [RDs.length h2]
theorem RDs.get : ∀ {xs : List D} {vs : List V} {i : Nat} {x : D}, RDs F K H xs vs → xs[i]? = some x → ∃ v, vs[i]? = some v ∧ RD F K H x v
  | [], _, _, _, _, e => by simp at e
  | y :: xs, vs, 0, x, h, e => by
    unfold RDs at h
    obtain ⟨v, r, rfl, h1, _⟩ := h
    simp at e
    subst e
    exact ⟨v, rfl, h1⟩
  | y :: xs, vs, i + 1, x, h, e => by
    unfold RDs at h
    obtain ⟨v, r, rfl, _, h2⟩ := h
    obtain ⟨u, q1, q2⟩ := RDs.get (i := i) h2 (by simpa using e)
    exact ⟨u, by simpa using q1, q2⟩
theorem RDs.getV : ∀ {xs : List D} {vs : List V} {i : Nat} {v : V}, RDs F K H xs vs → vs[i]? = some v → ∃ x, xs[i]? = some x ∧ RD F K H x v
  | [], vs, _, _, h, e => by unfold RDs at h; subst h; simp at e
  | y :: xs, vs, 0, x, h, e => by
    unfold RDs at h
    obtain ⟨v, r, rfl, h1, _⟩ := h
    simp at e
    subst e
    exact ⟨y, rfl, h1⟩
  | y :: xs, vs, i + 1, x, h, e => by
    unfold RDs at h
    obtain ⟨v, r, rfl, _, h2⟩ := h
    obtain ⟨u, q1, q2⟩ := RDs.getV (i := i) h2 (by simpa using e)
    exact ⟨u, by simpa using q1, q2⟩
theorem RDs.nil : RDs F K H [] [] := by unfold RDs; rfl
theorem RDs.cons {x : D} {v : V} {xs : List D} {vs : List V} (h : RD F K H x v) (t : RDs F K H xs vs) : RDs F K H (x :: xs) (v :: vs) := by
  unfold RDs
  exact ⟨v, vs, rfl, h, t⟩
theorem RDs.append : ∀ {xs ys : List D} {vs ws : List V}, RDs F K H xs vs → RDs F K H ys ws → RDs F K H (xs ++ ys) (vs ++ ws)
  | [], _, vs, _, h, t => by unfold RDs at h; subst h; exact t
  | x :: xs, _, vs, _, h, t => by
    unfold RDs at h
    obtain ⟨v, r, rfl, h1, h2⟩ := h
    exact RDs.cons h1 (RDs.append h2 t)
theorem RDs.one {x : D} {v : V} (h : RD F K H x v) : RDs F K H [x] [v] := .cons h .nil
theorem RDs.take : ∀ {xs : List D} {vs : List V} (n : Nat), RDs F K H xs vs → RDs F K H (xs.take n) (vs.take n)
  | _, _, 0, _ => by simp only [List.take_zero]; exact .nil
  | [], vs, n + 1, h => by unfold RDs at h; subst h; exact .nil
  | x :: xs, vs, n + 1, h => by
    unfold RDs at h
    obtain ⟨v, r, rfl, h1, h2⟩ := h
    simp only [List.take_succ_cons]
    exact .cons h1 (RDs.take n h2)
theorem RDs.drop : ∀ {xs : List D} {vs : List V} (n : Nat), RDs F K H xs vs → RDs F K H (xs.drop n) (vs.drop n)
  | _, _, 0, h => h
  | [], vs, n + 1, h => by unfold RDs at h; subst h; exact .nil
  | x :: xs, vs, n + 1, h => by
    unfold RDs at h
    obtain ⟨v, r, rfl, h1, h2⟩ := h
    simp only [List.drop_succ_cons]
    exact RDs.drop n h2
theorem RDs.set : ∀ {xs : List D} {vs : List V} {x : D} {v : V} (i : Nat), RD F K H x v → RDs F K H xs vs → RDs F K H (xs.set i x) (vs.set i v)
  | [], vs, _, _, i, _, h => by unfold RDs at h; subst h; exact .nil
  | y :: xs, vs, x, v, 0, q, h => by
    unfold RDs at h
    obtain ⟨u, r, rfl, h1, h2⟩ := h
    exact .cons q h2
  | y :: xs, vs, x, v, i + 1, q, h => by
    unfold RDs at h
    obtain ⟨u, r, rfl, h1, h2⟩ := h
    exact .cons h1 (RDs.set i q h2)
theorem RDs.eraseIdx : ∀ {xs : List D} {vs : List V} (i : Nat), RDs F K H xs vs → RDs F K H (xs.eraseIdx i) (vs.eraseIdx i)
  | [], vs, i, h => by unfold RDs at h; subst h; exact .nil
  | y :: xs, vs, 0, h => by
    unfold RDs at h
    obtain ⟨u, r, rfl, h1, h2⟩ := h
    exact h2
  | y :: xs, vs, i + 1, h => by
    unfold RDs at h
    obtain ⟨u, r, rfl, h1, h2⟩ := h
    exact .cons h1 (RDs.eraseIdx i h2)
theorem RDs.dropLast {xs : List D} {vs : List V} (h : RDs F K H xs vs) : RDs F K H xs.dropLast vs.dropLast := by
  rw [List.dropLast_eq_take, List.dropLast_eq_take, h.length]
  exact h.take _
theorem RDs.rep {xs : List D} {vs : List V} (h : RDs F K H xs vs) : ∀ k : Nat, RDs F K H (List.replicate k xs).flatten (List.replicate k vs).flatten
  | 0 => .nil
  | k + 1 => by
    rw [List.replicate_succ, List.replicate_succ, List.flatten_cons, List.flatten_cons]
    exact h.append (RDs.rep h k)
theorem RDs.ints : ∀ {ns : List Int} {xs : List D} {vs : List V}, ints? xs = some ns → RDs F K H xs vs → vs = ns.map V.int
  | ns, [], vs, e, h => by
    unfold RDs at h
    subst h
    simp [ints?] at e
    subst e
    rfl
  | ns, x :: xs, vs, e, h => by
    unfold RDs at h
    obtain ⟨v, r, rfl, h1, h2⟩ := h
    cases x <;> simp [ints?] at e
    obtain ⟨ms, e1, rfl⟩ := e
    unfold RD at h1
    rw [RDs.ints e1 h2, h1]
    rfl
theorem RDs.bools : ∀ {bs : List Bool} {xs : List D} {vs : List V}, bools? xs = some bs → RDs F K H xs vs → vs = bs.map V.bl
  | ns, [], vs, e, h => by
    unfold RDs at h
    subst h
    simp [bools?] at e
    subst e
    rfl
  | ns, x :: xs, vs, e, h => by
    unfold RDs at h
    obtain ⟨v, r, rfl, h1, h2⟩ := h
    cases x <;> simp [bools?] at e
    obtain ⟨ms, e1, rfl⟩ := e
    unfold RD at h1
    rw [RDs.bools e1 h2, h1]
    rfl
theorem RDs.ofInts : ∀ ns : List Int, RDs F K H (ns.map .int) (ns.map V.int)
  | [] => .nil
  | n :: ns => .cons (by unfold RD; rfl) (RDs.ofInts ns)
/-! ### what may be read at the top: a frozen value or a cell's list -/
def RX (F : FS) (K : Fg) (H : Hp) : D → V → Prop
  | .list xs, v => ∃ a vs, v = .ref a ∧ Rd H a (.lst vs) ∧ xs.length ≤ big ∧ RDs F K H xs vs
  | x, v => RD F K H x v
theorem RD.rx {x : D} {v : V} (h : RD F K H x v) : RX F K H x v := by
  cases x with
  | list xs =>
    unfold RD at h
    obtain ⟨a, vs, e, h1, h2⟩ := h
    exact ⟨a, vs, e, h1.2, h2⟩
  | _ => exact h
theorem SR.read (s : SR F ρ K st H) {t : T} {v : V} {x : D} (h : TR F ρ K H t v) (e : rd st t = some x) : RX F K H x v := by
  cases t with
  | d y =>
    simp [rd] at e
    subst e
    exact RD.rx h
  | ref n =>
    obtain ⟨a, e1, rfl⟩ := h
    simp only [rd] at e
    split at e
    · rename_i xs hc
      cases e
      obtain ⟨vs, h1, h2, h3⟩ := s.cells n _ a hc e1
      exact ⟨a, vs, rfl, Rd.of h1, h2, h3⟩
    · cases e
/-! ### settling a new list -/
theorem SR.freeze (s : SR F ρ K st H) {a : Addr} {vs : List V} {xs : List D} (h1 : ¬ F.f a ∧ ¬ F.u a) (h2 : a ∉ ρ) (h3 : H a = some (.lst vs)) (h4 : xs.length ≤ big) (h5 : RDs F K H xs vs) :
    ∃ F', Stp F ρ H F' ρ H ∧ SR F' ρ K st H ∧ RD F' K H (.list xs) (.ref a) := by
  refine ⟨⟨fun b => F.f b ∨ b = a, F.u⟩, ⟨fun _ h => .inl h, fun _ _ => rfl, List.prefix_refl _, rfl, fun _ _ => rfl⟩, ?_, ?_⟩
  · have mono : ∀ b, F.f b → (F.f b ∨ b = a) ∧ H b = H b := fun b h => ⟨.inl h, rfl⟩
    refine ⟨s.len, s.nd, fun b hb z => ?_, fun b z => ?_, fun b hb z => ?_, s.un, s.ud, fun i c b e1 e2 => ?_⟩
    · rcases z with z | z
      · exact s.nf b hb z
      · exact h2 (z ▸ hb)
    · rcases z with z | z
      · exact s.fd b z
      · exact ⟨_, z ▸ h3⟩
    · rcases z with z | z
      · exact s.uf b hb z
      · exact h1.2 (z ▸ hb)
    · have q := s.cells i c b e1 e2
      cases c with
      | lst ys =>
        obtain ⟨ws, q1, q2, q3⟩ := q
        exact ⟨ws, q1, q2, RDs.mono mono _ _ q3⟩
      | dead => exact q
  · unfold RD
    exact ⟨a, vs, rfl, ⟨.inr rfl, .inl h3⟩, h4, RDs.mono (fun b h => ⟨Or.inl h, rfl⟩) _ _ h5⟩
theorem SR.settle (s : SR F ρ K st H) {r : RV} {v : V} (h : RVR F ρ K H r v) : ∃ F', Stp F ρ H F' ρ H ∧ SR F' ρ K st H ∧ TR F' ρ K H r.settle v := by
  cases r with
  | t x => exact ⟨F, .refl, s, h⟩
  | new xs =>
    obtain ⟨a, vs, rfl, h1, h2, h3, h4, h5⟩ := h
    exact s.freeze h1 h2 h3 h4 h5
/-- a new list becomes a cell -/
theorem SR.alloc (s : SR F ρ K st H) {xs : List D} {v : V} (h : RVR F ρ K H (.new xs) v) : ∃ ρ', Stp F ρ H F ρ' H ∧ SR F ρ' K (st ++ [.lst xs]) H ∧ TR F ρ' K H (.ref st.length) v := by
  obtain ⟨a, vs, rfl, h1, h2, h3, h4, h5⟩ := h
  refine ⟨ρ ++ [a], ⟨fun _ h => h, fun _ _ => rfl, List.prefix_append _ _, rfl, fun _ _ => rfl⟩, ⟨?_, ?_, ?_, s.fd, s.uf, ?_, s.ud, ?_⟩, a, ?_, rfl⟩
  · simp [s.len]
  · exact List.nodup_append.mpr ⟨s.nd, by simp, fun x hx y hy e => h2 (by simp at hy; subst hy; exact e ▸ hx)⟩
  · intro b hb
    rcases List.mem_append.mp hb with hb | hb
    · exact s.nf b hb
    · simp at hb
      subst hb
      exact h1.1
  · intro b hb
    rcases List.mem_append.mp hb with hb | hb
    · exact s.un b hb
    · simp at hb
      subst hb
      exact h1.2
  · intro i c b e1 e2
    by_cases hi : i < st.length
    · rw [List.getElem?_append_left hi] at e1
      rw [List.getElem?_append_left (by rw [s.len]; exact hi)] at e2
      exact s.cells i c b e1 e2
    · have hi' : i = st.length := by
        have := (List.getElem?_eq_some_iff.mp e1).1
        simp at this
        omega
      subst hi'
      rw [List.getElem?_append_right (Nat.le_refl _)] at e1
      rw [List.getElem?_append_right (by rw [s.len]; exact Nat.le_refl _)] at e2
      simp [s.len] at e1 e2
      subst e1 e2
      exact ⟨vs, h3, h4, h5⟩
  · rw [List.getElem?_append_right (by rw [s.len]; exact Nat.le_refl _)]
    simp [s.len]
/-! ### the heap grows by a new object -/
theorem SR.grow (s : SR F ρ K st H) {p : Addr} {o : HO} (hp : H p = none) : Stp F ρ H F ρ (upd H p o) ∧ SR F ρ K st (upd H p o) ∧ (¬ F.f p ∧ ¬ F.u p) ∧ p ∉ ρ := by
  have nF : ¬ F.f p := fun h => by
    obtain ⟨o, e⟩ := s.fd p h
    rw [hp] at e
    cases e
  have nU : ¬ F.u p := fun h => by
    obtain ⟨o, e⟩ := s.ud p h
    rw [hp] at e
    cases e
  have keep : ∀ a, F.f a → upd H p o a = H a := fun a h => upd_ne fun e => nF (e ▸ h)
  have keepU : ∀ a, F.u a → upd H p o a = H a := fun a h => upd_ne fun e => nU (e ▸ h)
  have nρ : p ∉ ρ := fun h => by
    obtain ⟨i, hi, e⟩ := List.mem_iff_getElem.mp h
    have hs : i < st.length := by rw [← s.len]; exact hi
    have q := s.cells i st[i] p (List.getElem?_eq_getElem hs) (by rw [List.getElem?_eq_getElem hi, e])
    cases hc : st[i] with
    | lst xs =>
      rw [hc] at q
      obtain ⟨vs, q1, _⟩ := q
      rw [hp] at q1
      cases q1
    | dead =>
      rw [hc] at q
      obtain ⟨o, q1⟩ := q
      rw [hp] at q1
      cases q1
  refine ⟨⟨fun _ h => h, keep, List.prefix_refl _, rfl, keepU⟩, ⟨s.len, s.nd, s.nf, fun a h => ?_, s.uf, s.un, fun a h => ?_, fun i c a e1 e2 => ?_⟩, ⟨nF, nU⟩, nρ⟩
  · rw [keep a h]
    exact s.fd a h
  · rw [keepU a h]
    exact s.ud a h
  · have ne : a ≠ p := fun z => nρ (z ▸ List.mem_of_getElem? e2)
    have q := s.cells i c a e1 e2
    cases c with
    | lst xs =>
      obtain ⟨vs, q1, q2, q3⟩ := q
      exact ⟨vs, by rw [upd_ne ne]; exact q1, q2, RDs.mono (fun b h => ⟨h, keep b h⟩) _ _ q3⟩
    | dead =>
      obtain ⟨o, q1⟩ := q
      exact ⟨o, by rw [upd_ne ne]; exact q1⟩
/-- a new list -/
theorem SR.newL (s : SR F ρ K st H) {p : Addr} {vs : List V} {xs : List D} (hp : H p = none) (hl : xs.length ≤ big) (h : RDs F K H xs vs) :
    Stp F ρ H F ρ (upd H p (.lst vs)) ∧ SR F ρ K st (upd H p (.lst vs)) ∧ RVR F ρ K (upd H p (.lst vs)) (.new xs) (.ref p) := by
  obtain ⟨a, b, c, d⟩ := s.grow (o := .lst vs) hp
  exact ⟨a, b, p, vs, rfl, c, d, upd_same, hl, a.rds h⟩
/-- a new object that stays as it is -/
theorem SR.newF (s : SR F ρ K st H) {p : Addr} {o : HO} (hp : H p = none) : ∃ F', Stp F ρ H F' ρ (upd H p o) ∧ SR F' ρ K st (upd H p o) ∧ F'.f p := by
  obtain ⟨a, b, c, d⟩ := s.grow (o := o) hp
  refine ⟨⟨fun b => F.f b ∨ b = p, F.u⟩, ⟨fun _ h => .inl h, a.h, List.prefix_refl _, rfl, a.k⟩, ⟨b.len, b.nd, fun x hx z => ?_, fun x z => ?_, fun x hx z => ?_, b.un, b.ud, fun i cl x e1 e2 => ?_⟩, .inr rfl⟩
  · rcases z with z | z
    · exact s.nf x hx z
    · exact d (z ▸ hx)
  · rcases z with z | z
    · exact b.fd x z
    · exact ⟨o, by rw [z, upd_same]⟩
  · rcases z with z | z
    · exact s.uf x hx z
    · exact c.2 (z ▸ hx)
  · have q := b.cells i cl x e1 e2
    cases cl with
    | lst ys =>
      obtain ⟨ws, q1, q2, q3⟩ := q
      exact ⟨ws, q1, q2, RDs.mono (fun b h => ⟨Or.inl h, rfl⟩) _ _ q3⟩
    | dead => exact q
theorem SR.newT (s : SR F ρ K st H) {p : Addr} {vs : List V} {xs : List D} (hp : H p = none) (hl : xs.length ≤ big) (h : RDs F K H xs vs) :
    ∃ F', Stp F ρ H F' ρ (upd H p (.tup vs)) ∧ SR F' ρ K st (upd H p (.tup vs)) ∧ RD F' K (upd H p (.tup vs)) (.tuple xs) (.ref p) := by
  obtain ⟨F', a, b, c⟩ := s.newF (o := .tup vs) hp
  refine ⟨F', a, b, ?_⟩
  unfold RD
  exact ⟨p, vs, rfl, .inl ⟨c, .inl upd_same⟩, hl, a.rds h⟩
/-- a cell is changed -/
theorem SR.write (s : SR F ρ K st H) {n : Nat} {a : Addr} {xs : List D} {vs : List V} {c0 : Cell} (hn : ρ[n]? = some a) (h0 : st[n]? = some c0) (hl : xs.length ≤ big) (h : RDs F K H xs vs) :
    Stp F ρ H F ρ (upd H a (.lst vs)) ∧ SR F ρ K (st.set n (.lst xs)) (upd H a (.lst vs)) := by
  have nF : ¬ F.f a := s.nf a (List.mem_of_getElem? hn)
  have nU : ¬ F.u a := s.un a (List.mem_of_getElem? hn)
  have keep : ∀ b, F.f b → upd H a (.lst vs) b = H b := fun b h => upd_ne fun e => nF (e ▸ h)
  have keepU : ∀ b, F.u b → upd H a (.lst vs) b = H b := fun b h => upd_ne fun e => nU (e ▸ h)
  have mono : ∀ b, F.f b → F.f b ∧ upd H a (.lst vs) b = H b := fun b h => ⟨h, keep b h⟩
  refine ⟨⟨fun _ h => h, keep, List.prefix_refl _, rfl, keepU⟩, ⟨by simp [s.len], s.nd, s.nf, fun b hb => by rw [keep b hb]; exact s.fd b hb, s.uf, s.un, fun b hb => by rw [keepU b hb]; exact s.ud b hb, fun i c b e1 e2 => ?_⟩⟩
  by_cases hi : n = i
  · subst hi
    rw [hn] at e2
    cases e2
    rw [List.getElem?_set_self (List.getElem?_eq_some_iff.mp h0).1] at e1
    cases e1
    exact ⟨vs, upd_same, hl, RDs.mono mono _ _ h⟩
  · rw [List.getElem?_set_ne hi] at e1
    have ne : b ≠ a := fun z => by
      subst z
      obtain ⟨l1, q1⟩ := List.getElem?_eq_some_iff.mp hn
      obtain ⟨l2, q2⟩ := List.getElem?_eq_some_iff.mp e2
      exact hi ((List.getElem_inj s.nd).mp (q1.trans q2.symm))
    have q := s.cells i c b e1 e2
    cases c with
    | lst ys =>
      obtain ⟨ws, q1, q2, q3⟩ := q
      exact ⟨ws, by rw [upd_ne ne]; exact q1, q2, RDs.mono mono _ _ q3⟩
    | dead =>
      obtain ⟨o, q1⟩ := q
      exact ⟨o, by rw [upd_ne ne]; exact q1⟩
end
end MP


/-! MP, part c: operators and built-in functions. -/
namespace MP
open PySem PySem.Spec L2
def Aft (F : FS) (ρ : List Addr) (K : Fg) (H : Hp) (st : Store) (r : RV) (Q : VK) : Prop :=
  ∀ (F' : FS) (ρ' : List Addr) (H' : Hp) (v : V), Stp F ρ H F' ρ' H' → SR F' ρ' K st H' → RVR F' ρ' K H' r v → Q v H'
section
variable {F : FS} {ρ : List Addr} {K : Fg} {H : Hp} {st : Store} {Q : VK}
theorem Aft.same {x : T} {v : V} (h : Aft F ρ K H st (.t x) Q) (s : SR F ρ K st H) (r : TR F ρ K H x v) : Q v H := h F ρ H v .refl s r
theorem Aft.int {i : Int} (h : Aft F ρ K H st (.t (.d (.int i))) Q) (s : SR F ρ K st H) : Q (.int i) H := h.same s (by unfold TR RD; rfl)
theorem Aft.bool {b : Bool} (h : Aft F ρ K H st (.t (.d (.bool b))) Q) (s : SR F ρ K st H) : Q (.bl b) H := h.same s (by unfold TR RD; rfl)
theorem Aft.none (h : Aft F ρ K H st (.t (.d .none)) Q) (s : SR F ρ K st H) : Q .non H := h.same s (by unfold TR RD; rfl)
theorem Aft.str {x : Str} (h : Aft F ρ K H st (.t (.d (.str x))) Q) (s : SR F ρ K st H) (l : x.length ≤ big) : Q (.str x) H := h.same s (by unfold TR RD; exact ⟨rfl, l⟩)
theorem Aft.lst {xs : List D} {vs : List V} (h : Aft F ρ K H st (.new xs) Q) (s : SR F ρ K st H) (l : xs.length ≤ big) (r : RDs F K H xs vs) : ∀ p, H p = .none → Q (.ref p) (upd H p (.lst vs)) := fun p hp => by
  obtain ⟨a, b, c⟩ := s.newL hp l r
  exact h _ _ _ _ a b c
theorem Aft.tup {xs : List D} {vs : List V} (h : Aft F ρ K H st (.t (.d (.tuple xs))) Q) (s : SR F ρ K st H) (l : xs.length ≤ big) (r : RDs F K H xs vs) : ∀ p, H p = .none → Q (.ref p) (upd H p (.tup vs)) := fun p hp => by
  obtain ⟨F', a, b, c⟩ := s.newT hp l r
  exact h _ _ _ _ a b c
theorem big_size : big = sizeLine := by rw [sizeLine_eq]
end
/-! ### two operands -/
def Op.py : Op → Operator
  | .add => .Add
  | .sub => .Sub
  | .mul => .Mult
  | .fdiv => .FloorDiv
  | .mod => .Mod
  | .pow => .Pow
def rBin (K : Fg) (o : Op) : R2 := fun x y H Q => ∃ F ρ st dx dy r, SR F ρ K st H ∧ RX F K H dx x ∧ RX F K H dy y ∧ binD o dx dy = some r ∧ Aft F ρ K H st r Q
section
variable {X : Cx}
theorem Inv.lstR {pins : List (Addr × Obj)} {σ : L2.St} {H : Hp} {s : Shared} {l : Addr} {xs : List V} (I : Inv X pins σ H s) (h : Rd H l (.lst xs)) :
    xs.length ≤ sizeLine ∧ ∃ (its : List Value) (n : Nat), Vals xs its ∧ s.heap.get? l = some { cls := .type "list", data := .seq its.toArray n } := h.ok I.hok
theorem op_catR : OpR X (binaryOp .Add) (fun x y H Q => ∃ l b xs zs, x = .ref l ∧ y = .ref b ∧ Rd H l (.lst xs) ∧ Rd H b (.lst zs) ∧ xs.length + zs.length ≤ sizeLine ∧ ∀ p, H p = none → Q (.ref p) (upd H p (.lst (xs ++ zs)))) := by
  intro pins s σ H x y v u Q I rx ry h
  obtain ⟨l, b, xs, zs, rfl, rfl, h1, h2, hz, q⟩ := h
  cases rx
  cases ry
  obtain ⟨_, i1, n1, r1, e1⟩ := Inv.lstR I h1
  obtain ⟨_, i2, n2, r2, e2⟩ := Inv.lstR I h2
  have l1 := r1.length
  have l2 := r2.length
  refine PySem.P.add_list e1 e2 ?_ (by rw [List.size_toArray, List.size_toArray]; omega)
  have ea : i1.toArray ++ i2.toArray = (i1 ++ i2).toArray := by simp
  rw [ea]
  exact ⟨.ref _, _, I.lnew (t' := s.toks) (r1.append r2) (by rw [List.length_append]; omega), rfl, q _ I.fresh⟩
theorem tuple_mul_same (l : Addr) (items : Array Value) (n : Nat) (dd : Option Addr) (sl : Array (Option Value)) (x : Int) (u : Tok) (c0 : (decide (x < -(2 ^ 63)) || decide (x ≥ 2 ^ 63)) = false) (c1 : (items.isEmpty || x == 1) = true) :
    Meets (Builtin.«tuple.__mul__» ⟨[.ref l, .int x u], []⟩) (fun _ R s => s.heap.get? l = some { cls := .type "tuple", dict := dd, data := .seq items n, slots := sl } ∧ R (.ok (.ret (Value.ref l))) s) :=
  .of_wp fun prog w A R s h => by
    obtain ⟨hp, g, d, tk, os⟩ := s
    obtain ⟨hl, h⟩ := h
    have f1 := AutoSeq1.idx_int
    wp_walk using wpAny_loadPart' hl
    repeat (first
      | (refine wpAny_ite_false (decide_eq_false (by rw [c0]; exact Bool.false_ne_true)) ?_; wp_walk using wpAny_loadPart' hl)
      | (refine wpAny_ite_true (decide_eq_true c1) ?_; wp_walk using wpAny_loadPart' hl))
    exact ⟨_, rfl, h⟩

theorem op_repS : OpR X (binaryOp .Mult) (fun x y H Q => ∃ l k xs, x = .ref l ∧ y = .int k ∧ SqT X.K H l xs ∧ 1 ≤ k ∧ k ≤ 1000 ∧ (xs = [] ∨ k = 1) ∧ Q (.ref l) H) := by
  intro pins s σ H x y v u Q I rx ry h
  obtain ⟨l, k, xs, rfl, rfl, hT, h1, h2, hw, q⟩ := h
  cases rx
  obtain ⟨t, rfl⟩ := ry
  obtain ⟨its, r, ⟨⟨cls, dd, data, sl⟩, ho, hc, n, hd⟩, hs⟩ := I.tuple hT
  simp only at hc hd
  subst hc hd
  have c0 : (decide (k < -(2 ^ 63)) || decide (k ≥ 2 ^ 63)) = false := by
    rw [decide_eq_false (by omega), decide_eq_false (by omega)] <;> rfl
  have c1 : (its.toArray.isEmpty || k == 1) = true := by
    rcases hw with rfl | rfl
    · cases r
      rfl
    · simp
  exact wpAny_binaryOp_repeat_ref (T := "tuple") (U := "int") (by decide) ⟨_, ho, rfl⟩ (fun s' => typeIs_int s' k t) noFill_tuple_mul PySem.F.fills_int_mul PySem.F.slot_int_rmul repeat_tuple PySem.F.slot_int_index.lookup
    (call_meets PySem.F.slot_int_rmul (typeIs_int s k t) PySem.F.entry_int_rmul (PySem.F.args_int_rmul_2 _ _) (int_rmul_tuple k t l its.toArray n dd sl)
      ⟨ho, rfl, ⟨_, ho, rfl⟩, call_meets PySem.F.slot_tuple_mul ⟨_, ho, rfl⟩ PySem.F.entry_tuple_mul (PySem.F.args_tuple_mul_2 _ _) (tuple_mul_same l its.toArray n dd sl k t c0 c1) ⟨ho, ⟨.ref l, H, I, rfl, q⟩⟩⟩)
theorem op_repR : OpR X (binaryOp .Mult) (fun x y H Q => ∃ l k xs, x = .ref l ∧ y = .int k ∧ Rd H l (.lst xs) ∧ 0 ≤ k ∧ k ≤ 1000 ∧ xs.length ≤ 1000 ∧ ∀ p, H p = none → Q (.ref p) (upd H p (.lst (List.replicate k.toNat xs).flatten))) := by
  intro pins s σ H x y v u Q I rx ry h
  obtain ⟨l, k, xs, rfl, rfl, hL, h1, h2, h3, q⟩ := h
  cases rx
  obtain ⟨t, rfl⟩ := ry
  obtain ⟨_, its, n, r, e⟩ := Inv.lstR I hL
  have hl := r.length
  have hz : its.toArray.size * k.toNat ≤ 1000 * 1000 := by
    rw [List.size_toArray, ← hl]
    exact Nat.mul_le_mul h3 (by omega)
  have hlen : its.toArray.size * k.toNat ≤ sizeLine := by rw [sizeLine_eq]; omega
  have hcap : ¬ its.toArray.size * k.toNat > (2 ^ 63 - 1) / 8 := by omega
  have hfit : ¬ (!Builtin.List.listFitsIndex k) = true := by
    rw [fitsIndex_both (by omega) (by omega)]
    exact Bool.false_ne_true
  have hlong : ¬ Builtin.List.listTooLong (its.toArray.size * k.toNat) = true := by
    rw [notLongL hlen]
    exact Bool.false_ne_true
  have hnew : List.foldl (fun x1 x2 => x1 ++ x2) #[] (List.replicate (if its.toArray.isEmpty = true then 0 else k.toNat) its.toArray) = (List.replicate k.toNat its).flatten.toArray := by
    rw [size_rep]
    cases its with
    | nil => simp
    | cons a r' => rw [if_neg (by simp)]
  refine wpAny_binaryOp_repeat_ref (T := "list") (U := "int") (by decide) ⟨_, e, rfl⟩ (fun s' => typeIs_int s' k t) noFill_list_mul PySem.F.fills_int_mul PySem.F.slot_int_rmul repeat_list PySem.F.slot_int_index.lookup
    (call_meets PySem.F.slot_int_rmul (typeIs_int s k t) PySem.F.entry_int_rmul (PySem.F.args_int_rmul_2 _ _) (int___rmul___int_list k t l its.toArray n)
      ⟨e, rfl, ⟨_, e, rfl⟩, call_meets PySem.F.slot_list_mul ⟨_, e, rfl⟩ PySem.F.entry_list_mul (PySem.F.args_list_mul_2 _ _) (AutoListH.list___mul___list_int_3 l its.toArray n k t hfit hcap hlong) ⟨e, ?_⟩⟩)
  rw [hnew]
  refine ⟨.ref _, _, I.lnew (t' := s.toks) (r.rep k.toNat) ?_, rfl, q _ I.fresh⟩
  rw [PyProof.Rows.lm_len_rep_flat, sizeLine_eq]
  have a1 : k.toNat * xs.length ≤ 1000 * 1000 := Nat.mul_le_mul (by omega) h3
  omega
def CPowW (i j : Int) : Prop := 0 ≤ j ∧ (Builtin.Int.intBits i : Int) * j ≤ 2 ^ 27
theorem op_powW : OpR X (binaryOp .Pow) (rI CPowW fun i j => .int (i ^ j.toNat)) := opI fun _ _ _ _ _ _ _ hc q => PyProof.Rows.pow_int hc.1 hc.2 q
def CMulV (i j : Int) : Prop := Builtin.Int.intBits i + Builtin.Int.intBits j ≤ 134217728
theorem CMulV.ok {i j : Int} (h : CMulV i j) : IntMulOk i j := by
  have e : bitsLine = 134217728 := by decide
  unfold IntMulOk
  intro z
  rw [Bool.and_eq_true] at z
  have z2 := z.2
  unfold Builtin.Int.intTooBig at z2
  have z3 := of_decide_eq_true z2
  rw [e] at z3
  unfold CMulV at h
  omega
theorem op_mulV : OpR X (binaryOp .Mult) (rI CMulV fun i j => .int (i * j)) := opI fun _ _ _ _ _ _ _ hc q => PyProof.Rows.mul_int q hc.ok
end
end MP


/-! MP, part d: operators by PyData. -/
namespace MP
open PySem PySem.Spec L2
section
variable {X : Cx}
theorem RX.int_iff {F : FS} {K : Fg} {H : Hp} {i : Int} {v : V} (h : RX F K H (.int i) v) : v = .int i := by
  have h1 : RD F K H (.int i) v := h
  unfold RD at h1
  exact h1
theorem RX.str_iff {F : FS} {K : Fg} {H : Hp} {i : Str} {v : V} (h : RX F K H (.str i) v) : v = .str i ∧ i.length ≤ big := by
  have h1 : RD F K H (.str i) v := h
  unfold RD at h1
  exact h1
theorem RX.bool_iff {F : FS} {K : Fg} {H : Hp} {i : Bool} {v : V} (h : RX F K H (.bool i) v) : v = .bl i := by
  have h1 : RD F K H (.bool i) v := h
  unfold RD at h1
  exact h1
theorem RX.none_iff {F : FS} {K : Fg} {H : Hp} {v : V} (h : RX F K H .none v) : v = .non := by
  have h1 : RD F K H .none v := h
  unfold RD at h1
  exact h1
theorem RX.tup_iff {F : FS} {K : Fg} {H : Hp} {xs : List D} {v : V} (h : RX F K H (.tuple xs) v) : ∃ a vs, v = .ref a ∧ FzT F K H a vs ∧ xs.length ≤ big ∧ RDs F K H xs vs := by
  have h1 : RD F K H (.tuple xs) v := h
  unfold RD at h1
  exact h1
theorem RX.lst_iff {F : FS} {K : Fg} {H : Hp} {xs : List D} {v : V} (h : RX F K H (.list xs) v) : ∃ a vs, v = .ref a ∧ Rd H a (.lst vs) ∧ xs.length ≤ big ∧ RDs F K H xs vs := h
theorem RX.tup_mk {F : FS} {K : Fg} {H : Hp} {xs : List D} {a : Addr} {vs : List V} (h1 : FzT F K H a vs) (h2 : xs.length ≤ big) (h3 : RDs F K H xs vs) : RD F K H (.tuple xs) (.ref a) := by
  unfold RD
  exact ⟨a, vs, rfl, h1, h2, h3⟩
theorem rep_len {α : Type} (xs : List α) (k : Nat) : (List.replicate k xs).flatten.length = k * xs.length := by simp
theorem ob_bin (o : Op) : OpR X (binaryOp o.py) (rBin X.K o) := by
  intro pins s σ H x y v u Q I rx ry h
  obtain ⟨F, ρ, st, dx, dy, r, hS, hx, hy, e, q⟩ := h
  cases o with
  | add =>
    cases dx with
    | int i =>
      cases dy <;> simp [binD] at e
      subst e
      rename_i j
      rw [hx.int_iff] at rx
      rw [hy.int_iff] at ry
      exact op_add pins s σ H _ _ v u Q I rx ry ⟨i, j, rfl, rfl, q.int hS⟩
    | list xs =>
      cases dy <;> simp [binD] at e
      obtain ⟨e1, e⟩ := e
      subst e
      rename_i ys
      obtain ⟨a, vs, rfl, h1, h2, h3⟩ := hx.lst_iff
      obtain ⟨b, ws, rfl, g1, g2, g3⟩ := hy.lst_iff
      have l1 := h3.length
      have l2 := g3.length
      exact op_catR pins s σ H _ _ v u Q I rx ry ⟨a, b, vs, ws, rfl, rfl, h1, g1, by rw [← big_size]; omega, q.lst hS (by rw [List.length_append]; omega) (h3.append g3)⟩
    | tuple xs =>
      cases dy <;> simp [binD] at e
      obtain ⟨e1, e⟩ := e
      subst e
      rename_i ys
      obtain ⟨a, vs, rfl, h1, h2, h3⟩ := hx.tup_iff
      obtain ⟨b, ws, rfl, g1, g2, g3⟩ := hy.tup_iff
      have l1 := h3.length
      have l2 := g3.length
      refine op_catA pins s σ H _ _ v u Q I rx ry ⟨a, b, vs, ws, rfl, rfl, h1.sq, g1.sq, by rw [← big_size]; omega, fun z => ?_, fun _ z => ?_, fun _ _ => q.tup hS (by rw [List.length_append]; omega) (h3.append g3)⟩
      · have ez : xs = [] := List.eq_nil_of_length_eq_zero (by rw [l1, z]; rfl)
        subst ez
        exact q.same hS (RX.tup_mk g1 g2 g3)
      · have ez : ys = [] := List.eq_nil_of_length_eq_zero (by rw [l2, z]; rfl)
        subst ez
        rw [List.append_nil] at q
        exact q.same hS (RX.tup_mk h1 h2 h3)
    | str a =>
      cases dy <;> simp [binD] at e
      obtain ⟨e1, e⟩ := e
      subst e
      rename_i b
      obtain ⟨rfl, h1⟩ := hx.str_iff
      obtain ⟨rfl, h2⟩ := hy.str_iff
      refine op_add_str pins s σ H _ _ v u Q I rx ry ⟨a, b, rfl, rfl, by rw [← big_size]; exact e1, q.str hS ?_⟩
      have : (a ++ b).length = a.length + b.length := by
        show (a ++ b).cps.size = a.cps.size + b.cps.size
        exact Array.size_append
      omega
    | _ => cases dy <;> simp [binD] at e
  | sub =>
    cases dx <;> cases dy <;> simp [binD] at e
    subst e
    rw [hx.int_iff] at rx
    rw [hy.int_iff] at ry
    exact op_sub pins s σ H _ _ v u Q I rx ry ⟨_, _, rfl, rfl, q.int hS⟩
  | mul =>
    cases dx with
    | int i =>
      cases dy <;> simp [binD] at e
      obtain ⟨e1, e⟩ := e
      subst e
      rename_i j
      rw [hx.int_iff] at rx
      rw [hy.int_iff] at ry
      exact op_mulV pins s σ H _ _ v u Q I rx ry ⟨i, j, rfl, rfl, by unfold mulOk at e1; unfold CMulV; exact of_decide_eq_true e1, q.int hS⟩
    | tuple xs =>
      cases dy <;> simp [binD] at e
      obtain ⟨⟨e1, e2, e3⟩, e⟩ := e
      subst e
      rename_i k
      obtain ⟨a, vs, rfl, h1, h2, h3⟩ := hx.tup_iff
      rw [hy.int_iff] at ry
      have l1 := h3.length
      by_cases hw : vs = [] ∨ k = 1
      · refine op_repS pins s σ H _ _ v u Q I rx ry ⟨a, k, vs, rfl, rfl, h1.sq, e1, e2, hw, q.same hS ?_⟩
        have ee : repD xs k = xs := by
          rcases hw with z | z
          · have ez : xs = [] := List.eq_nil_of_length_eq_zero (by rw [l1, z]; rfl)
            subst ez
            apply List.eq_nil_of_length_eq_zero
            unfold repD
            rw [rep_len]
            rfl
          · subst z
            unfold repD
            simp
        rw [ee]
        exact RX.tup_mk h1 h2 h3
      · have hw1 : vs ≠ [] := fun z => hw (.inl z)
        have hw2 : k ≠ 1 := fun z => hw (.inr z)
        refine op_repT pins s σ H _ _ v u Q I rx ry ⟨a, k, vs, rfl, rfl, h1.sq, hw1, by omega, e2, by omega, q.tup hS ?_ (h3.rep _)⟩
        unfold repD
        rw [rep_len]
        have a1 : k.toNat * xs.length ≤ 1000 * 1000 := Nat.mul_le_mul (by omega) e3
        show _ ≤ 16777216
        omega
    | list xs =>
      cases dy <;> simp [binD] at e
      obtain ⟨⟨e1, e2, e3⟩, e⟩ := e
      subst e
      rename_i k
      obtain ⟨a, vs, rfl, h1, h2, h3⟩ := hx.lst_iff
      rw [hy.int_iff] at ry
      have l1 := h3.length
      refine op_repR pins s σ H _ _ v u Q I rx ry ⟨a, k, vs, rfl, rfl, h1, e1, e2, by omega, q.lst hS ?_ (h3.rep _)⟩
      unfold repD
      rw [rep_len]
      have a1 : k.toNat * xs.length ≤ 1000 * 1000 := Nat.mul_le_mul (by omega) e3
      show _ ≤ 16777216
      omega
    | _ => cases dy <;> simp [binD] at e
  | fdiv =>
    cases dx <;> cases dy <;> simp [binD] at e
    obtain ⟨⟨e1, e2⟩, e⟩ := e
    subst e
    rw [hx.int_iff] at rx
    rw [hy.int_iff] at ry
    exact op_fdiv pins s σ H _ _ v u Q I rx ry ⟨_, _, rfl, rfl, ⟨e1, e2⟩, q.int hS⟩
  | mod =>
    cases dx <;> cases dy <;> simp [binD] at e
    obtain ⟨e1, e⟩ := e
    subst e
    rw [hx.int_iff] at rx
    rw [hy.int_iff] at ry
    exact op_mod pins s σ H _ _ v u Q I rx ry ⟨_, _, rfl, rfl, e1, q.int hS⟩
  | pow =>
    cases dx <;> cases dy <;> simp [binD] at e
    obtain ⟨e1, e⟩ := e
    subst e
    rw [hx.int_iff] at rx
    rw [hy.int_iff] at ry
    unfold powOk at e1
    rw [Bool.and_eq_true] at e1
    exact op_powW pins s σ H _ _ v u Q I rx ry ⟨_, _, rfl, rfl, ⟨of_decide_eq_true e1.1, of_decide_eq_true e1.2⟩, q.int hS⟩
end
end MP


/-! MP, part e: comparisons, kinds, items, slices, truth. -/
namespace MP
open PySem PySem.Spec L2
def Cm.py : Cm → CmpOp
  | .eq => .Eq
  | .ne => .NotEq
  | .lt => .Lt
  | .le => .LtE
  | .gt => .Gt
  | .ge => .GtE
  | .isin => .In
  | .notin => .NotIn
  | .is => .Is
  | .isnot => .IsNot
def rCmp (K : Fg) (c : Cm) : R2 := fun x y H Q => ∃ F ρ st dx dy b, SR F ρ K st H ∧ RX F K H dx x ∧ RX F K H dy y ∧ cmpD c dx dy = some b ∧ Q (.bl b) H
section
variable {F : FS} {K : Fg} {H : Hp}
mutual
theorem RD.dp : ∀ (x : D) (v : V), x.canLay0 = true → RD F K H x v → Dp K H v x
  | .none, v, _, h => by unfold RD at h; subst h; exact .non
  | .bool b, v, _, h => by unfold RD at h; subst h; exact .bl b
  | .int i, v, _, h => by unfold RD at h; subst h; exact .int i
  | .str y, v, _, h => by unfold RD at h; obtain ⟨rfl, _⟩ := h; exact .str y
  | .list xs, v, c, h => by
    unfold RD at h
    obtain ⟨a, vs, rfl, h1, h2, h3⟩ := h
    exact .lst h1.sq (RDs.dp xs vs (by simpa [PyData.canLay0] using c) h3)
  | .tuple xs, v, c, h => by
    unfold RD at h
    obtain ⟨a, vs, rfl, h1, h2, h3⟩ := h
    exact .tup h1.sq (RDs.dp xs vs (by simpa [PyData.canLay0] using c) h3)
  | .dict kvs, v, c, h => by simp [PyData.canLay0] at c
theorem RDs.dp : ∀ (xs : List D) (vs : List V), PyData.canLayAll0 xs = true → RDs F K H xs vs → DpAll K H vs xs
  | [], vs, _, h => by unfold RDs at h; subst h; exact .nil
  | x :: xs, vs, c, h => by
    unfold RDs at h
    obtain ⟨v, r, rfl, h1, h2⟩ := h
    simp [PyData.canLayAll0] at c
    exact .cons (RD.dp x v c.1 h1) (RDs.dp xs r c.2 h2)
end
theorem RX.dp {x : D} {v : V} (c : x.canLay0 = true) (h : RX F K H x v) : Dp K H v x := by
  cases x with
  | list xs =>
    obtain ⟨a, vs, rfl, h1, h2, h3⟩ := h.lst_iff
    exact .lst (.inl h1) (RDs.dp xs vs (by simpa [PyData.canLay0] using c) h3)
  | _ => exact RD.dp (F := F) (K := K) (H := H) _ v c h
theorem RD.flat {x : D} {v : V} (f : flatD x = true) (h : RD F K H x v) : flatV v = true := by
  cases x <;> simp [flatD] at f <;> unfold RD at h
  · subst h; rfl
  · subst h; rfl
  · subst h; rfl
  · obtain ⟨rfl, _⟩ := h; rfl
theorem RX.flat {x : D} {v : V} (f : flatD x = true) (h : RX F K H x v) : flatV v = true := by
  cases x with
  | list xs => cases f
  | _ => exact RD.flat (F := F) (K := K) (H := H) f h
theorem RD.eqf {x y : D} {v u : V} (f : flatD x = true) (g : flatD y = true) (h : RD F K H x v) (k : RD F K H y u) : eqV v u = eqF x y := by
  cases x <;> cases y <;> simp [flatD] at f g <;> unfold RD at h k <;> (try obtain ⟨h, _⟩ := h) <;> (try obtain ⟨k, _⟩ := k) <;> (try subst h) <;> (try subst k) <;> first | rfl | (simp [eqV, eqF, b2i]; done)
theorem RDs.flat : ∀ {xs : List D} {vs : List V}, xs.all flatD = true → RDs F K H xs vs → vs.all flatV = true
  | [], vs, _, h => by unfold RDs at h; subst h; rfl
  | x :: xs, vs, f, h => by
    unfold RDs at h
    obtain ⟨v, r, rfl, h1, h2⟩ := h
    simp only [List.all_cons, Bool.and_eq_true] at f ⊢
    exact ⟨RD.flat f.1 h1, RDs.flat f.2 h2⟩
theorem RDs.inv {y : D} {u : V} (g : flatD y = true) (k : RD F K H y u) : ∀ {xs : List D} {vs : List V}, xs.all flatD = true → RDs F K H xs vs → inV u vs = xs.any fun z => eqF z y
  | [], vs, _, h => by unfold RDs at h; subst h; rfl
  | x :: xs, vs, f, h => by
    unfold RDs at h
    obtain ⟨v, r, rfl, h1, h2⟩ := h
    simp only [List.all_cons, Bool.and_eq_true] at f
    have ih := RDs.inv g k f.2 h2
    unfold inV at ih ⊢
    rw [List.any_cons, List.any_cons, ih, RD.eqf f.1 g h1 k]
theorem flat_rd {x : D} {v : V} (f : flatD x = true) (h : RX F K H x v) : RD F K H x v := by
  cases x with
  | list xs => cases f
  | _ => exact h
end
section
variable {X : Cx}
theorem rin_of {H : Hp} {F : FS} {dx dy : D} {x y : V} {xs : List D} {n : Bool} {Q : VK} (hx : RX F X.K H dx x) (hy : RX F X.K H dy y) (hd : dy = .list xs ∨ dy = .tuple xs) (f : (flatD dx && xs.all flatD) = true)
    (q : Q (.bl (if n then !(xs.any fun z => eqF z dx) else xs.any fun z => eqF z dx)) H) : rIn X.K n x y H Q := by
  rw [Bool.and_eq_true] at f
  rcases hd with rfl | rfl
  · obtain ⟨a, vs, rfl, h1, h2, h3⟩ := hy.lst_iff
    refine ⟨a, vs, rfl, .inl (.inl h1), RX.flat f.1 hx, RDs.flat f.2 h3, ?_⟩
    rw [RDs.inv f.1 (flat_rd f.1 hx) f.2 h3]
    exact q
  · obtain ⟨a, vs, rfl, h1, h2, h3⟩ := hy.tup_iff
    refine ⟨a, vs, rfl, .inr h1.sq, RX.flat f.1 hx, RDs.flat f.2 h3, ?_⟩
    rw [RDs.inv f.1 (flat_rd f.1 hx) f.2 h3]
    exact q
theorem not_non {F : FS} {K : Fg} {H : Hp} {x : D} {v : V} (h : RX F K H x v) (ne : x ≠ .none) : v ≠ .non := by
  rintro rfl
  cases x with
  | none => exact ne rfl
  | bool b => cases h.bool_iff
  | int b => cases h.int_iff
  | str b => cases h.str_iff.1
  | list xs => obtain ⟨_, _, e, _⟩ := h.lst_iff; cases e
  | tuple xs => obtain ⟨_, _, e, _⟩ := h.tup_iff; cases e
  | dict xs =>
    have h1 : RD F K H (.dict xs) .non := h
    unfold RD at h1
    obtain ⟨_, _, e, _⟩ := h1
    cases e
theorem eqD_cases {x y : D} {b : Bool} (e : eqD x y = some b) : (∃ a c, x = .str a ∧ y = .str c ∧ b = decide (a = c)) ∨ (SeqAt.shaped x = true ∧ SeqAt.shaped y = true ∧ b = PyData.eqv x y) := by
  unfold eqD at e
  split at e
  · rename_i h
    rw [Bool.and_eq_true] at h
    cases x <;> first | (cases h.1; done) | skip
    cases y <;> first | (cases h.2; done) | skip
    cases e
    exact .inl ⟨_, _, rfl, rfl, rfl⟩
  · split at e
    · rename_i h
      rw [Bool.and_eq_true] at h
      cases e
      exact .inr ⟨h.1, h.2, rfl⟩
    · cases e
theorem dec_strV {a c : Str} : decide (V.str a = V.str c) = decide (a = c) := by
  rw [Bool.eq_iff_iff]
  simp
theorem ob_cmp (hu : X.A.units + 64 < cLine) (c : Cm) : OpR X (compareOp c.py) (rCmp X.K c) := by
  intro pins s σ H x y v u Q I rx ry h
  obtain ⟨F, ρ, st, dx, dy, b, hS, hx, hy, e, q⟩ := h
  cases c with
  | eq =>
    rcases eqD_cases e with ⟨a, c, rfl, rfl, rfl⟩ | ⟨e1, e2, rfl⟩
    · rw [hx.str_iff.1] at rx
      rw [hy.str_iff.1] at ry
      exact op_eq pins s σ H _ _ v u Q I rx ry ⟨rfl, by rw [dec_strV]; exact q⟩
    · exact op_eqD hu pins s σ H _ _ v u Q I rx ry ⟨dx, dy, hx.dp (SeqAt.canLay_of_shaped e1), hy.dp (SeqAt.canLay_of_shaped e2), e1, e2, q⟩
  | ne =>
    have e' : (eqD dx dy).map (!·) = some b := e
    cases h0 : eqD dx dy with
    | none => rw [h0] at e'; cases e'
    | some b0 =>
      rw [h0] at e'
      cases e'
      rcases eqD_cases h0 with ⟨a, c, rfl, rfl, rfl⟩ | ⟨e1, e2, rfl⟩
      · rw [hx.str_iff.1] at rx
        rw [hy.str_iff.1] at ry
        exact op_ne pins s σ H _ _ v u Q I rx ry ⟨rfl, by rw [dec_strV]; exact q⟩
      · exact op_neD hu pins s σ H _ _ v u Q I rx ry ⟨dx, dy, hx.dp (SeqAt.canLay_of_shaped e1), hy.dp (SeqAt.canLay_of_shaped e2), e1, e2, q⟩
  | lt =>
    cases dx <;> cases dy <;> simp [cmpD] at e
    subst e
    rw [hx.int_iff] at rx
    rw [hy.int_iff] at ry
    exact op_lt pins s σ H _ _ v u Q I rx ry ⟨_, _, rfl, rfl, q⟩
  | le =>
    cases dx <;> cases dy <;> simp [cmpD] at e
    subst e
    rw [hx.int_iff] at rx
    rw [hy.int_iff] at ry
    exact op_le pins s σ H _ _ v u Q I rx ry ⟨_, _, rfl, rfl, q⟩
  | gt =>
    cases dx <;> cases dy <;> simp [cmpD] at e
    subst e
    rw [hx.int_iff] at rx
    rw [hy.int_iff] at ry
    exact op_gt pins s σ H _ _ v u Q I rx ry ⟨_, _, rfl, rfl, q⟩
  | ge =>
    cases dx <;> cases dy <;> simp [cmpD] at e
    subst e
    rw [hx.int_iff] at rx
    rw [hy.int_iff] at ry
    exact op_ge pins s σ H _ _ v u Q I rx ry ⟨_, _, rfl, rfl, q⟩
  | isin =>
    cases dy <;> simp only [cmpD] at e <;> first | (cases dx <;> cases e) | skip
    · split at e
      · rename_i f
        cases e
        exact op_in_seq pins s σ H _ _ v u Q I rx ry (rin_of hx hy (.inl rfl) f q)
      · cases e
    · split at e
      · rename_i f
        cases e
        exact op_in_seq pins s σ H _ _ v u Q I rx ry (rin_of hx hy (.inr rfl) f q)
      · cases e
  | notin =>
    cases dy <;> simp only [cmpD] at e <;> first | (cases dx <;> cases e) | skip
    · split at e
      · rename_i f
        cases e
        exact op_notIn_seq pins s σ H _ _ v u Q I rx ry (rin_of hx hy (.inl rfl) f q)
      · cases e
    · split at e
      · rename_i f
        cases e
        exact op_notIn_seq pins s σ H _ _ v u Q I rx ry (rin_of hx hy (.inr rfl) f q)
      · cases e
  | is =>
    cases dy with
    | none =>
      have ey := hy.none_iff
      refine op_isN pins s σ H _ _ v u Q I rx ry ⟨ey, ?_⟩
      by_cases hn : dx = .none
      · subst hn
        simp [cmpD] at e
        subst e
        rw [hx.none_iff]
        exact q
      · have e2 : b = false := by cases dx <;> simp [cmpD] at e <;> first | exact e.symm | exact e | exact absurd rfl hn
        subst e2
        rw [decide_eq_false (not_non hx hn)]
        exact q
    | bool b' =>
      cases dx <;> simp [cmpD] at e
      subst e
      rename_i b
      rw [hx.bool_iff] at rx
      rw [hy.bool_iff] at ry
      refine op_isBl pins s σ H _ _ v u Q I rx ry ⟨_, _, rfl, rfl, ?_⟩
      have : decide (b = b') = (b == b') := by cases b <;> cases b' <;> rfl
      rw [this]
      exact q
    | _ => cases dx <;> simp [cmpD] at e
  | isnot =>
    cases dy with
    | none =>
      have ey := hy.none_iff
      refine op_notN pins s σ H _ _ v u Q I rx ry ⟨ey, ?_⟩
      by_cases hn : dx = .none
      · subst hn
        simp [cmpD] at e
        subst e
        rw [hx.none_iff]
        exact q
      · have e2 : b = true := by cases dx <;> simp [cmpD] at e <;> first | exact e.symm | exact e | exact absurd rfl hn
        subst e2
        rw [decide_eq_false (not_non hx hn)]
        exact q
    | bool b' =>
      cases dx <;> simp [cmpD] at e
      rename_i b1
      rw [hx.bool_iff] at rx
      rw [hy.bool_iff] at ry
      refine op_notBl pins s σ H _ _ v u Q I rx ry ⟨_, _, rfl, rfl, ?_⟩
      have : (!decide (b1 = b')) = b := by cases b1 <;> cases b' <;> cases b <;> first | rfl | cases e
      rw [this]
      exact q
    | _ => cases dx <;> simp [cmpD] at e
end
end MP


/-! MP, part f: kinds, items, slices, truth, methods, stores. -/
namespace MP
open PySem PySem.Spec L2
def Ty.py : Ty → String
  | .int => "int"
  | .bool => "bool"
  | .tuple => "tuple"
  | .list => "list"
  | .str => "str"
  | .dict => "dict"
def tyD : D → String
  | .none => "NoneType"
  | .bool _ => "bool"
  | .int _ => "int"
  | .str _ => "str"
  | .list _ => "list"
  | .tuple _ => "tuple"
  | .dict _ => "dict"
section
variable {F : FS} {K : Fg} {H : Hp} {ρ : List Addr} {st : Store}
theorem RX.ty {x : D} {v : V} (h : RX F K H x v) : TyX K H v (.type (tyD x)) := by
  cases x with
  | none => rw [h.none_iff]; exact .base .non
  | bool b => rw [h.bool_iff]; exact .base (.bl b)
  | int b => rw [h.int_iff]; exact .base (.int b)
  | str b => rw [h.str_iff.1]; exact .base (.str b)
  | list xs =>
    obtain ⟨a, vs, rfl, h1, _⟩ := h.lst_iff
    rcases h1 with h1 | ⟨o, h1⟩
    · exact .base (.lst h1)
    · exact .base (.frz h1)
  | tuple xs =>
    obtain ⟨a, vs, rfl, h1, _⟩ := h.tup_iff
    rcases h1 with ⟨_, h1 | ⟨o, h1⟩⟩ | ⟨o, its, n, h1, h2, _⟩
    · exact .base (.tup h1)
    · exact .fTuple h1
    · exact .kTuple h1 h2
  | dict xs =>
    have h1 : RD F K H (.dict xs) v := h
    unfold RD at h1
    obtain ⟨a, us, rfl, _, h2, _⟩ := h1
    exact .base (.dK h2)
theorem kit_isi (t : Ty) (x : D) : kitB (tyD x) t.py = some (isiD t x) := by
  cases t <;> cases x <;> simp only [tyD, Ty.py, isiD] <;> decide +kernel
end
section
variable {X : Cx}
theorem ob_isi (t : Ty) : CallR X (.builtin "isinstance") (fun xs H Q => ∃ F dx x, xs = [x, .ty t.py] ∧ RX F X.K H dx x ∧ Q (.bl (isiD t dx)) H) := by
  intro pins s σ H xs us Q I r h
  obtain ⟨F, dx, x, rfl, hx, q⟩ := h
  exact call_isi pins s σ H _ us Q I r ⟨x, .ty t.py, .type (tyD dx), .type t.py, isiD t dx, rfl, .ty _, hx.ty, kit_ty (kit_isi t dx), q⟩
/-! ### items and slices -/
theorem ixN_eq (n : Nat) (i : Int) : MP.ixN n i = L2.ixN n i := rfl
theorem RDs.at {F : FS} {K : Fg} {H : Hp} {xs : List D} {vs : List V} {i : Int} {x : D} (h : RDs F K H xs vs) (e : atD xs i = some x) : ∃ v, atI vs i = some v ∧ RD F K H x v := by
  unfold atD at e
  unfold atI
  rw [← ixN_eq, ← h.length]
  cases hi : MP.ixN xs.length i with
  | none => rw [hi] at e; cases e
  | some j =>
    rw [hi] at e
    exact h.get e
theorem ob_ix : IxR X (fun x y H Q => ∃ F ρ st dx dy dz, SR F ρ X.K st H ∧ RX F X.K H dx x ∧ RX F X.K H dy y ∧ ixD dx dy = some dz ∧ Aft F ρ X.K H st (.t (.d dz)) Q) := by
  intro value slice pins s σ H x y v u Q I rx ry h hs
  obtain ⟨F, ρ, st, dx, dy, dz, hS, hx, hy, e, q⟩ := h
  cases dx <;> cases dy <;> simp [ixD] at e
  · rw [hy.int_iff] at ry
    obtain ⟨a, vs, rfl, h1, h2, h3⟩ := hx.lst_iff
    obtain ⟨z, e1, e2⟩ := RDs.at h3 e
    exact ix_list value slice pins s σ H _ _ v u Q I rx ry ⟨a, vs, _, z, rfl, rfl, .inl h1, e1, q.same hS e2⟩ hs
  · rw [hy.int_iff] at ry
    obtain ⟨a, vs, rfl, h1, h2, h3⟩ := hx.tup_iff
    obtain ⟨z, e1, e2⟩ := RDs.at h3 e
    exact ix_tup value slice pins s σ H _ _ v u Q I rx ry ⟨a, vs, _, z, rfl, rfl, h1.sq, e1, q.same hS e2⟩ hs
theorem sIx_eq (n d : Nat) (o : Option Int) : MP.sIx n d o = HT.sIx n d o := by
  cases o with
  | none => rfl
  | some v =>
    have h := HT.clip_eq v n d
    show (if v < 0 then (max (v + n) 0).toNat else (min v n).toNat) = _
    by_cases hv : v < 0
    · rw [if_pos hv] at h ⊢
      omega
    · rw [if_neg hv] at h ⊢
      omega
theorem RDs.cut {F : FS} {K : Fg} {H : Hp} {xs : List D} {vs : List V} (h : RDs F K H xs vs) (lo hi : Option Int) : RDs F K H (cutD xs lo hi) (cutV vs lo hi) := by
  unfold cutD cutV
  rw [sIx_eq, sIx_eq, h.length]
  exact (h.drop _).take _
theorem cutD_len (xs : List D) (lo hi : Option Int) : (cutD xs lo hi).length ≤ xs.length := by
  unfold cutD
  rw [List.length_take, List.length_drop]
  omega
theorem ob_sl : SlR X (fun x lo hi H Q => ∃ F ρ st dx r, SR F ρ X.K st H ∧ RX F X.K H dx x ∧ slD dx lo hi = some r ∧ Aft F ρ X.K H st r Q) := by
  intro pins s σ H x v vl vu lo hi sl Q I rx hs pl pu h
  obtain ⟨F, ρ, st, dx, r, hS, hx, e, q⟩ := h
  cases dx <;> simp [slD] at e
  · subst e
    rename_i xs
    obtain ⟨a, vs, rfl, h1, h2, h3⟩ := hx.lst_iff
    exact sl_list pins s σ H _ v vl vu lo hi sl Q I rx hs pl pu ⟨a, vs, rfl, .inl h1, q.lst hS (Nat.le_trans (cutD_len xs lo hi) h2) (h3.cut lo hi)⟩
  · subst e
    rename_i xs
    obtain ⟨a, vs, rfl, h1, h2, h3⟩ := hx.tup_iff
    refine sl_tupA pins s σ H _ v vl vu lo hi sl Q I rx hs pl pu ⟨a, vs, rfl, h1.sq, fun z => ?_, fun _ => q.tup hS (Nat.le_trans (cutD_len xs lo hi) h2) (h3.cut lo hi)⟩
    have ec : cutD xs lo hi = xs := by
      unfold cutD
      rw [sIx_eq, sIx_eq, h3.length, z.1, z.2, List.drop_zero, ← h3.length]
      simp
    rw [ec] at q
    exact q.same hS (RX.tup_mk h1 h2 h3)
/-! ### truth -/
theorem ob_tru {F : FS} {H : Hp} {x : D} {v : V} (h : RX F X.K H x v) : TruV X.K v H (truthD x) := by
  cases x with
  | none => rw [h.none_iff]; rfl
  | bool b => rw [h.bool_iff]; rfl
  | int b => rw [h.int_iff]; rfl
  | str b =>
    obtain ⟨rfl, h1⟩ := h.str_iff
    refine ⟨by rw [← big_size]; exact h1, ?_⟩
    show (b.length != 0) = ((b.length : Int) != 0)
    cases hb : b.length <;> simp
    omega
  | list xs =>
    obtain ⟨a, vs, rfl, h1, h2, h3⟩ := h.lst_iff
    refine .inl ⟨vs, .inl h1, ?_⟩
    have := h3.length
    cases xs <;> cases vs <;> simp at this <;> rfl
  | tuple xs =>
    obtain ⟨a, vs, rfl, h1, h2, h3⟩ := h.tup_iff
    refine .inr (.inl ⟨vs, h1.sq, ?_⟩)
    have := h3.length
    cases xs <;> cases vs <;> simp at this <;> rfl
  | dict xs =>
    have h1 : RD F X.K H (.dict xs) v := h
    unfold RD at h1
    obtain ⟨a, us, rfl, _, h2, h3, h4⟩ := h1
    refine .inr (.inr ⟨us, h2, ?_⟩)
    cases xs with
    | nil => unfold RDk at h4; subst h4; rfl
    | cons p xs =>
      obtain ⟨k, y⟩ := p
      unfold RDk at h4
      obtain ⟨k', w, r, rfl, _⟩ := h4
      rfl
end
end MP


/-! MP, part g: methods of lists, stores by place, built-in functions. -/
namespace MP
open PySem PySem.Spec L2
def Meth.nm : Meth → Str
  | .append => "append"
  | .pop => "pop"
  | .insert => "insert"
  | .extend => "extend"
def Meth.id : Meth → String
  | .append => "list.append"
  | .pop => "list.pop"
  | .insert => "list.insert"
  | .extend => "list.extend"
theorem Meth.slot : (m : Meth) → Slot "list" m.nm m.id
  | .append => PySem.F.slot_list_append
  | .pop => PySem.F.slot_list_pop
  | .insert => PySem.F.slot_list_insert
  | .extend => PySem.F.slot_list_extend
theorem Meth.ty : (m : Meth) → typeOf (.builtin m.id) = pure (.type "method_descriptor")
  | .append => PySem.F.type_list_append
  | .pop => PySem.F.type_list_pop
  | .insert => PySem.F.type_list_insert
  | .extend => PySem.F.type_list_extend
section
variable {X : Cx}
theorem mt_extR : MtM X "list.extend" (fun x vs H Q => ∃ l b xs zs, x = .ref l ∧ vs = [.ref b] ∧ H l = some (.lst xs) ∧ Rd H b (.lst zs) ∧ xs.length + zs.length ≤ sizeLine ∧ Q .non (upd H l (.lst (xs ++ zs)))) := by
  intro pins s σ H x vs v us Q I rx rv h
  obtain ⟨l, b, xs, zs, rfl, rfl, hH, hB, hz, q⟩ := h
  cases rx
  obtain ⟨u, rfl, ru⟩ := rv.one
  cases ru
  obtain ⟨z, its, n, r, hl, e⟩ := I.lstM hH
  obtain ⟨z2, i2, n2, r2, e2⟩ := Inv.lstR I hB
  have hl2 := r2.length
  have hsz : its.toArray.size + i2.toArray.size ≤ sizeLine := by rw [List.size_toArray, List.size_toArray]; omega
  have hlong : ¬ (!its.toArray.isEmpty && Builtin.List.listTooLong (its.toArray.size + i2.toArray.size)) = true := by
    rw [notLongL hsz, Bool.and_false]
    exact Bool.false_ne_true
  refine call_meets PySem.F.slot_list_extend ⟨_, e, rfl⟩ PySem.F.entry_list_extend (PySem.F.args_list_extend_2 _ _)
    (AutoSeq1.list_extend_list_list_0 l its.toArray n b i2.toArray n2 hlong (by rw [List.size_toArray]; omega) (by omega)) ⟨e, e2, ?_⟩
  refine ⟨.non, _, I.lset (its' := its ++ i2) hH e (by simp) (r.append r2) ?_, rfl, q⟩
  rw [List.length_append]
  omega
def rMeth (K : Fg) (m : Meth) : V → List V → Hp → VK → Prop := fun x vs H Q => ∃ F ρ st n a xs ys v xs', SR F ρ K st H ∧ ρ[n]? = some a ∧ x = .ref a ∧ st[n]? = some (.lst xs) ∧ RDs F K H ys vs ∧ methD m xs ys = some (v, xs') ∧
  Aft F ρ K H (st.set n (.lst xs')) (.t (.d v)) Q
theorem rd_of_rds1 {F : FS} {K : Fg} {H : Hp} {y : D} {vs : List V} (h : RDs F K H [y] vs) : ∃ v, vs = [v] ∧ RD F K H y v := by
  unfold RDs at h
  obtain ⟨v, r, rfl, h1, h2⟩ := h
  unfold RDs at h2
  subst h2
  exact ⟨v, rfl, h1⟩
theorem ob_meth (m : Meth) : MtR X m.id (rMeth X.K m) := by
  intro pins s σ H x vs v us Q I rx rv h
  obtain ⟨F, ρ, st, n, a, xs, ys, w, xs', hS, hn, rfl, hc, hy, e, q⟩ := h
  obtain ⟨ws, h1, h2, h3⟩ := hS.cells n _ a hc hn
  have hl := h3.length
  cases m with
  | append =>
    match ys, hy, e with
    | [y], hy, e =>
      simp [methD] at e
      obtain ⟨e1, rfl, rfl⟩ := e
      obtain ⟨z, rfl, hz⟩ := rd_of_rds1 hy
      obtain ⟨s1, s2⟩ := hS.write (xs := xs ++ [y]) (vs := ws ++ [z]) hn hc (by rw [List.length_append, List.length_singleton]; omega) (h3.append (.one hz))
      refine mt_append pins s σ H _ _ v us Q I rx rv ⟨a, ws, z, rfl, rfl, h1, by rw [← big_size]; omega, ?_⟩
      exact q F ρ _ _ s1 s2 (by unfold RVR TR RD; rfl)
    | [], _, e => simp [methD] at e
    | _ :: _ :: _, _, e => simp [methD] at e
  | pop =>
    match ys, hy, e with
    | [], hy, e =>
      unfold RDs at hy
      subst hy
      simp only [methD] at e
      split at e
      · cases e
      · cases hx : xs[xs.length - 1]? with
        | none => rw [hx] at e; cases e
        | some y =>
          rw [hx] at e
          simp only [Option.map_some, Option.some.injEq, Prod.mk.injEq] at e
          obtain ⟨rfl, rfl⟩ := e
          obtain ⟨z, g1, g2⟩ := h3.get hx
          obtain ⟨s1, s2⟩ := hS.write (xs := xs.dropLast) (vs := ws.dropLast) hn hc (by rw [List.length_dropLast]; omega) h3.dropLast
          refine mt_pop pins s σ H _ _ v us Q I rx rv ⟨a, ws, z, rfl, rfl, h1, by rw [← hl]; exact g1, ?_⟩
          exact q F ρ _ _ s1 s2 (s1.rd g2)
    | [y], hy, e =>
      cases y <;> simp only [methD, reduceCtorEq] at e
      rename_i i
      obtain ⟨k, ek, e⟩ := Option.bind_eq_some_iff.mp e
      obtain ⟨y, ey, e⟩ := Option.map_eq_some_iff.mp e
      cases e
      obtain ⟨z, rfl, hz⟩ := rd_of_rds1 hy
      unfold RD at hz
      subst hz
      obtain ⟨z, g1, g2⟩ := h3.get ey
      rw [ixN_eq] at ek
      obtain ⟨k1, k2, k3, k4⟩ := ixN_seq ek
      obtain ⟨s1, s2⟩ := hS.write (xs := xs.eraseIdx k) (vs := ws.eraseIdx k) hn hc (Nat.le_trans (len_erase xs k) h2) (h3.eraseIdx k)
      have b1 : xs.length ≤ 16777216 := h2
      refine mt_popAt pins s σ H _ _ v us Q I rx rv ⟨a, ws, i, k, z, rfl, rfl, h1, by omega, by omega, by rw [← hl]; exact k1, g1, ?_⟩
      exact q F ρ _ _ s1 s2 (s1.rd g2)
    | _ :: _ :: _, _, e => simp [methD] at e
  | insert =>
    match ys, e with
    | [], e => simp [methD] at e
    | [_], e => simp [methD] at e
    | _ :: _ :: _, e => simp [methD] at e
  | extend =>
    match ys, hy, e with
    | [y], hy, e =>
      cases y <;> simp [methD] at e
      rename_i zs
      obtain ⟨e1, rfl, rfl⟩ := e
      obtain ⟨z, rfl, hz⟩ := rd_of_rds1 hy
      unfold RD at hz
      obtain ⟨b, us', rfl, g1, g2, g3⟩ := hz
      have hl2 := g3.length
      obtain ⟨s1, s2⟩ := hS.write (xs := xs ++ zs) (vs := ws ++ us') hn hc (by rw [List.length_append]; omega) (h3.append g3)
      refine mt_extR pins s σ H _ _ v us Q I rx rv ⟨a, b, ws, us', rfl, rfl, h1, g1.2, by rw [← big_size]; omega, ?_⟩
      exact q F ρ _ _ s1 s2 (by unfold RVR TR RD; rfl)
    | [], _, e => simp [methD] at e
    | _ :: _ :: _, _, e => simp [methD] at e
/-! ### o[i] = v -/
theorem ob_set : PSet X (fun o i v H Q => ∃ F ρ st n a xs k j x, SR F ρ X.K st H ∧ ρ[n]? = some a ∧ o = .ref a ∧ i = .int k ∧ st[n]? = some (.lst xs) ∧ MP.ixN xs.length k = some j ∧ RD F X.K H x v ∧
    ∀ H', Stp F ρ H F ρ H' → SR F ρ X.K (st.set n (.lst (xs.set j x))) H' → Q H') := by
  intro pins s σ H o i v ov iv u Q I ro ri rv h
  obtain ⟨F, ρ, st, n, a, xs, k, j, x, hS, hn, rfl, rfl, hc, hj, hx, q⟩ := h
  obtain ⟨ws, h1, h2, h3⟩ := hS.cells n _ a hc hn
  obtain ⟨s1, s2⟩ := hS.write (xs := xs.set j x) (vs := ws.set j v) hn hc (by rw [List.length_set]; exact h2) (h3.set j hx)
  exact set_list pins s σ H _ _ v ov iv u Q I ro ri rv ⟨a, ws, k, j, rfl, rfl, h1, by rw [← h3.length, ← ixN_eq]; exact hj, q _ s1 s2⟩
end
end MP


/-! MP, part h: built-in functions. -/
namespace MP
open PySem PySem.Spec L2
def RXs (F : FS) (K : Fg) (H : Hp) : List D → List V → Prop
  | [], vs => vs = []
  | x :: xs, vs => ∃ v r, vs = v :: r ∧ RX F K H x v ∧ RXs F K H xs r
def Prim.py : Prim → Str
  | .len => "len"
  | .int => "int"
  | .max => "max"
  | .min => "min"
  | .all => "all"
  | .any => "any"
  | .tuple => "tuple"
  | .list => "list"
  | .repr => "repr"
  | .sum => "sum"
  | .sorted => "sorted"
  | .abs => "abs"
/-- the value of the name -/
def Prim.val : Prim → Value
  | .len => .builtin "len"
  | .int => .type "int"
  | .max => .builtin "max"
  | .min => .builtin "min"
  | .all => .builtin "all"
  | .any => .builtin "any"
  | .tuple => .type "tuple"
  | .list => .type "list"
  | .repr => .builtin "repr"
  | .sum => .builtin "sum"
  | .sorted => .builtin "sorted"
  | .abs => .builtin "abs"
theorem Prim.boot (p : Prim) : bootBuiltins p.py = some p.val := by cases p <;> decide +kernel
section
variable {X : Cx} {pins : List (Addr × Obj)} {σ : L2.St} {H : Hp} {s : Shared} {F : FS}
mutual
theorem RD.reads (I : Inv X pins σ H s) : ∀ (x : D) (v : V) (u : Value), RD F X.K H x v → RelV v u → ∃ as, Reads s.heap u x as ∧ (noList x = true → sysModules ∉ as)
  | .none, v, u, h, r => by unfold RD at h; subst h; cases r; exact ⟨[], .none, fun _ => by simp⟩
  | .bool b, v, u, h, r => by unfold RD at h; subst h; cases r; exact ⟨[], .bool b, fun _ => by simp⟩
  | .int i, v, u, h, r => by unfold RD at h; subst h; obtain ⟨t, rfl⟩ := r; exact ⟨[], .int i t, fun _ => by simp⟩
  | .str y, v, u, h, r => by unfold RD at h; obtain ⟨rfl, _⟩ := h; obtain ⟨t, rfl⟩ := r; exact ⟨[], .str y t, fun _ => by simp⟩
  | .list xs, v, u, h, r => by
    unfold RD at h
    obtain ⟨a, vs, rfl, h1, h2, h3⟩ := h
    cases r
    obtain ⟨its, rv, ⟨o, n, ho, hc, _, hd⟩, _⟩ := I.list h1.sq
    obtain ⟨as, hr, _⟩ := RDs.reads I xs vs its h3 rv
    exact ⟨_, Reads.list ho hc hd hr, fun z => by simp [noList] at z⟩
  | .tuple xs, v, u, h, r => by
    unfold RD at h
    obtain ⟨a, vs, rfl, h1, h2, h3⟩ := h
    cases r
    obtain ⟨its, rv, ⟨o, ho, hc, n, hd⟩, _⟩ := I.tuple h1.sq
    obtain ⟨as, hr, hq⟩ := RDs.reads I xs vs its h3 rv
    exact ⟨_, Reads.tuple ho hc hd hr, fun z => hq (by simpa [noList] using z)⟩
  | .dict kvs, v, u, h, r => by
    unfold RD at h
    obtain ⟨a, us, rfl, _, h2, h3, h4⟩ := h
    cases r
    obtain ⟨_, hy, ws, hk, o, es, ep, ho, hx, hd, _, hp, _⟩ := I.hok a _ h2
    obtain ⟨as, bs, q1, q2, q3⟩ := RDk.reads I kvs us ws es.toList h4 hk hp
    refine ⟨_, Reads.dict ho hx.1 hd q1 q2, fun z => ?_⟩
    have := q3 (by simpa [noList] using z)
    intro hm
    rcases List.mem_append.mp hm with hm | hm
    · rcases List.mem_cons.mp hm with hm | hm
      · rw [← hm] at hy
        simp at hy
      · exact this.1 hm
    · exact this.2 hm
theorem RDs.reads (I : Inv X pins σ H s) : ∀ (xs : List D) (vs : List V) (us : List Value), RDs F X.K H xs vs → Vals vs us → ∃ as, ReadsAll s.heap us xs as ∧ (noLists xs = true → sysModules ∉ as)
  | [], vs, us, h, r => by
    unfold RDs at h
    subst h
    cases r
    exact ⟨[], .nil, fun _ => by simp⟩
  | x :: xs, vs, us, h, r => by
    unfold RDs at h
    obtain ⟨v, w, rfl, h1, h2⟩ := h
    cases r with
    | cons r1 r2 =>
      obtain ⟨as, q1, q3⟩ := RD.reads I x v _ h1 r1
      obtain ⟨bs, q2, q4⟩ := RDs.reads I xs w _ h2 r2
      refine ⟨_, .cons q1 q2, fun z => ?_⟩
      simp [noLists] at z
      simp only [List.mem_append, not_or]
      exact ⟨q3 z.1, q4 z.2⟩
theorem RDk.reads (I : Inv X pins σ H s) : ∀ (kvs : List (D × D)) (us : List (Key × V)) (ws : List (Key × Value)) (es : List DictEntry), RDk F X.K H kvs us → KV us ws → Pairs (mixKind X.prog X.w) es ws →
    ∃ as bs, ReadsAll s.heap (es.map (·.key)) (kvs.map (·.1)) as ∧ ReadsAll s.heap (es.map (·.val)) (kvs.map (·.2)) bs ∧ (noListK kvs = true → sysModules ∉ as ∧ sysModules ∉ bs)
  | [], us, ws, es, h, k, p => by
    unfold RDk at h
    subst h
    cases k
    cases p
    exact ⟨[], [], .nil, .nil, fun _ => by simp⟩
  | (d, x) :: kvs, us, ws, es, h, k, p => by
    unfold RDk at h
    obtain ⟨k', v, r, rfl, h0, h1, h2⟩ := h
    cases k with
    | cons k1 k2 =>
      cases p with
      | cons p1 p2 p3 =>
        obtain ⟨e1, e2⟩ := k1
        obtain ⟨as, bs, q1, q2, q3⟩ := RDk.reads I kvs r _ _ h2 k2 p3
        rw [← p2] at e2
        obtain ⟨cs, q4, q5⟩ := RD.reads I x v _ h1 e2
        rename_i kv wr en er
        have hu : Reads s.heap en.key d [] := by
          have e1' : k' = kv.1 := e1
          rw [← e1'] at p1
          have p1' : keyIs k' en.key = true := p1
          rcases keyIs_shape p1' with ⟨i, t, hk, hv⟩ | ⟨z, t, hk, hv⟩
          · cases d <;> simp [keyD] at h0
            · subst h0
              cases hk
              rw [hv]
              exact .int _ t
            · subst h0
              cases hk
          · cases d <;> simp [keyD] at h0
            · subst h0
              cases hk
            · subst h0
              cases hk
              rw [hv]
              exact .str _ t
        refine ⟨_, _, .cons hu q1, .cons q4 q2, fun z => ?_⟩
        simp [noListK] at z
        obtain ⟨z1, z2⟩ := q3 z.2
        refine ⟨by simpa using z1, ?_⟩
        simp only [List.mem_append, not_or]
        exact ⟨q5 z.1, z2⟩
end
theorem RX.reads (I : Inv X pins σ H s) {x : D} {v : V} {u : Value} (h : RX F X.K H x v) (r : RelV v u) : ∃ as, Reads s.heap u x as ∧ (noList x = true → sysModules ∉ as) := by
  cases x with
  | list xs =>
    obtain ⟨a, vs, rfl, h1, h2, h3⟩ := h.lst_iff
    cases r
    obtain ⟨its, rv, ⟨o, n, ho, hc, _, hd⟩, _⟩ := I.list (.inl h1)
    obtain ⟨as, hr, _⟩ := RDs.reads I xs vs its h3 rv
    exact ⟨_, Reads.list ho hc hd hr, fun z => by simp [noList] at z⟩
  | _ => exact RD.reads (F := F) I _ v u h r
end
section
variable {X : Cx}
theorem ob_repr (hg : X.A.guards = some []) (hu : X.A.units + 64 < cLine) : CallR X (.builtin "repr") (fun xs H Q => ∃ F x v, xs = [v] ∧ RX F X.K H x v ∧ reprOk x = true ∧ Q (.str x.shown) H) := by
  intro pins s σ H xs us Q I r h
  obtain ⟨F, x, v, rfl, hx, ok, q⟩ := h
  obtain ⟨u, rfl, ru⟩ := vals1 r
  unfold reprOk at ok
  simp only [Bool.and_eq_true, decide_eq_true_eq, Bool.or_eq_true, Bool.not_eq_true'] at ok
  obtain ⟨⟨⟨o1, o2⟩, o3⟩, o4⟩ := ok
  obtain ⟨as, hr, hm⟩ := hx.reads I ru
  have hsm : x.hasDict = true → sysModules ∉ as := fun z => by
    rcases o4 with o4 | o4
    · rw [o4] at z; cases z
    · exact hm o4
  have o3' : x.shown.length ≤ sizeLine := by rw [← big_size]; exact o3
  have fin : ∀ (h' : Heap) (u' : Tok) (tk : Nat), (∀ b o, s.heap.get? b = some o → h'.get? b = some o) → EP X pins σ Q (.str x.shown u') { s with heap := h', toks := tk } := fun h' u' tk k =>
    ⟨.str x.shown, H, I.kept (t' := tk) k, ⟨u', rfl⟩, q⟩
  cases hr with
  | none => exact PySem.P.repr_of_none (fin s.heap _ _ fun _ _ e => e)
  | bool b => exact PySem.P.repr_of_bool (by have := fin s.heap s.toks (s.toks + 1) fun _ _ e => e; simpa [PyData.shown] using this)
  | int i t => exact PySem.P.repr_of_int (by simpa [PyData.showable] using o1) (by have := fin s.heap s.toks (s.toks + 1) fun _ _ e => e; simpa [PyData.shown] using this)
  | str y t => exact PySem.P.repr_of_str (by have := fin s.heap s.toks (s.toks + 1) fun _ _ e => e; simpa [PyData.shown] using this) (by simpa [PyData.shown] using o3')
  | list a1 a2 a3 a4 => exact repr_of_reads' (.list a1 a2 a3 a4) o1 hsm hg (by omega) (fun _ _ e => e) fin o3'
  | tuple a1 a2 a3 a4 => exact repr_of_reads' (.tuple a1 a2 a3 a4) o1 hsm hg (by omega) (fun _ _ e => e) fin o3'
  | dict a1 a2 a3 a4 a5 => exact repr_of_reads' (.dict a1 a2 a3 a4 a5) o1 hsm hg (by omega) (fun _ _ e => e) fin o3'
end
end MP


/-! MP, part i: built-in functions, all together. -/
namespace MP
open PySem PySem.Spec L2
theorem maxI_spec : ∀ (ns : List Int), ns ≠ [] → maxI ns ∈ ns ∧ ∀ y ∈ ns, y ≤ maxI ns
  | [], h => absurd rfl h
  | [x], _ => by simp [maxI]
  | x :: y :: r, _ => by
    obtain ⟨h1, h2⟩ := maxI_spec (y :: r) (by simp)
    have e : maxI (x :: y :: r) = if x < maxI (y :: r) then maxI (y :: r) else x := rfl
    rw [e]
    split
    · refine ⟨List.mem_cons_of_mem _ h1, fun z hz => ?_⟩
      rcases List.mem_cons.mp hz with rfl | hz
      · omega
      · exact h2 z hz
    · refine ⟨List.mem_cons_self, fun z hz => ?_⟩
      rcases List.mem_cons.mp hz with rfl | hz
      · omega
      · have := h2 z hz
        omega
theorem minI_spec : ∀ (ns : List Int), ns ≠ [] → minI ns ∈ ns ∧ ∀ y ∈ ns, minI ns ≤ y
  | [], h => absurd rfl h
  | [x], _ => by simp [minI]
  | x :: y :: r, _ => by
    obtain ⟨h1, h2⟩ := minI_spec (y :: r) (by simp)
    have e : minI (x :: y :: r) = if minI (y :: r) < x then minI (y :: r) else x := rfl
    rw [e]
    split
    · refine ⟨List.mem_cons_of_mem _ h1, fun z hz => ?_⟩
      rcases List.mem_cons.mp hz with rfl | hz
      · omega
      · exact h2 z hz
    · refine ⟨List.mem_cons_self, fun z hz => ?_⟩
      rcases List.mem_cons.mp hz with rfl | hz
      · omega
      · have := h2 z hz
        omega
theorem insI_perm (x : Int) : ∀ l : List Int, (insI x l).Perm (x :: l)
  | [] => by simp [insI]
  | y :: r => by
    unfold insI
    split
    · exact .refl _
    · exact ((insI_perm x r).cons y).trans (.swap x y r)
theorem sortI_perm : ∀ l : List Int, (sortI l).Perm l
  | [] => .refl _
  | x :: r => (insI_perm x (sortI r)).trans ((sortI_perm r).cons x)
theorem insI_sorted (x : Int) : ∀ l : List Int, l.Pairwise (· ≤ ·) → (insI x l).Pairwise (· ≤ ·)
  | [], _ => by simp [insI]
  | y :: r, h => by
    unfold insI
    rw [List.pairwise_cons] at h
    split
    · rename_i hx
      rw [List.pairwise_cons]
      refine ⟨fun z hz => ?_, List.pairwise_cons.mpr h⟩
      rcases List.mem_cons.mp hz with rfl | hz
      · exact hx
      · have := h.1 z hz
        omega
    · rename_i hx
      rw [List.pairwise_cons]
      refine ⟨fun z hz => ?_, insI_sorted x r h.2⟩
      have hz' := (insI_perm x r).mem_iff.mp hz
      rcases List.mem_cons.mp hz' with rfl | hz'
      · omega
      · exact h.1 z hz'
theorem sortI_sorted : ∀ l : List Int, (sortI l).Pairwise (· ≤ ·)
  | [] => .nil
  | x :: r => insI_sorted x _ (sortI_sorted r)
theorem sorted_unique {a b : List Int} (p : a.Perm b) (ha : a.Pairwise (· ≤ ·)) (hb : b.Pairwise (· ≤ ·)) : a = b :=
  p.eq_of_pairwise (fun x y _ _ h1 h2 => Int.le_antisymm h1 h2) ha hb
def rPrim (K : Fg) (p : Prim) : List V → Hp → VK → Prop := fun vs H Q => ∃ F ρ st ds r, SR F ρ K st H ∧ RXs F K H ds vs ∧ primD p ds = some r ∧ Aft F ρ K H st r Q
section
variable {X : Cx}
theorem rxs1 {F : FS} {K : Fg} {H : Hp} {y : D} {vs : List V} (h : RXs F K H [y] vs) : ∃ v, vs = [v] ∧ RX F K H y v := by
  obtain ⟨v, r, rfl, h1, h2⟩ := h
  cases (show r = [] from h2)
  exact ⟨v, rfl, h1⟩
theorem rxs2 {F : FS} {K : Fg} {H : Hp} {x y : D} {vs : List V} (h : RXs F K H [x, y] vs) : ∃ v w, vs = [v, w] ∧ RX F K H x v ∧ RX F K H y w := by
  obtain ⟨v, r, rfl, h1, h2⟩ := h
  obtain ⟨w, rfl, h3⟩ := rxs1 h2
  exact ⟨v, w, rfl, h1, h3⟩
theorem len_ints : ∀ {xs : List D} {ns : List Int}, ints? xs = some ns → xs.length = ns.length
  | [], ns, e => by simp [ints?] at e; subst e; rfl
  | x :: xs, ns, e => by
    cases x <;> simp [ints?] at e
    obtain ⟨ms, e1, rfl⟩ := e
    simp [len_ints e1]
/-- the prims of one argument -/
theorem ob_prim (hc : X.calm = true) (hg : X.A.guards = some []) (hu : X.A.units + 64 < cLine) (p : Prim) : CallR X p.val (rPrim X.K p) := by
  intro pins s σ H vs us Q I r h
  obtain ⟨F, ρ, st, ds, rv, hS, hd, e, q⟩ := h
  have two : ∀ {x y : D} {ds : List D}, primD p (x :: y :: ds) = some rv → ∃ i j, x = .int i ∧ y = .int j ∧ ds = [] ∧ (p = .max ∨ p = .min) := by
    intro x y ds e
    cases p <;> cases x <;> cases y <;> cases ds <;> simp [primD] at e
    · exact ⟨_, _, rfl, rfl, rfl, .inl rfl⟩
    · exact ⟨_, _, rfl, rfl, rfl, .inr rfl⟩
  match ds, hd, e with
  | [], _, e => cases p <;> simp [primD] at e
  | x :: y :: ds, hd, e =>
    obtain ⟨i, j, rfl, rfl, rfl, hp⟩ := two e
    obtain ⟨v, w, rfl, h1, h2⟩ := rxs2 hd
    rw [h1.int_iff, h2.int_iff] at r
    rcases hp with rfl | rfl
    · simp [primD] at e
      subst e
      exact call_max2 hc pins s σ H _ us Q I r ⟨i, j, rfl, q.int hS⟩
    · simp [primD] at e
      subst e
      exact call_min2 hc pins s σ H _ us Q I r ⟨i, j, rfl, q.int hS⟩
  | [x], hd, e =>
    obtain ⟨v, rfl, h1⟩ := rxs1 hd
    cases p with
    | len =>
      cases x <;> simp [primD] at e <;> subst e
      · obtain ⟨rfl, hl⟩ := h1.str_iff
        exact call_len_str pins s σ H _ us Q I r ⟨_, rfl, by rw [← big_size]; exact hl, q.int hS⟩
      · obtain ⟨a, ws, rfl, g1, g2, g3⟩ := h1.lst_iff
        refine call_len_seq pins s σ H _ us Q I r ⟨a, ws, rfl, .inl (.inl g1), ?_⟩
        rw [← g3.length]
        exact q.int hS
      · obtain ⟨a, ws, rfl, g1, g2, g3⟩ := h1.tup_iff
        refine call_len_seq pins s σ H _ us Q I r ⟨a, ws, rfl, .inr g1.sq, ?_⟩
        rw [← g3.length]
        exact q.int hS
    | int =>
      cases x <;> simp [primD] at e <;> subst e
      · rw [h1.bool_iff] at r
        exact call_int1 pins s σ H _ us Q I r (.inr ⟨_, rfl, q.int hS⟩)
      · rw [h1.int_iff] at r
        exact call_int1 pins s σ H _ us Q I r (.inl ⟨_, rfl, q.int hS⟩)
    | max =>
      cases x <;> simp only [primD, reduceCtorEq] at e
      obtain ⟨ns, e1, e⟩ := Option.bind_eq_some_iff.mp e
      split at e
      · cases e
      · rename_i hn
        cases e
        obtain ⟨a, ws, rfl, g1, g2, g3⟩ := h1.lst_iff
        have ew := g3.ints e1
        subst ew
        have hne : ns ≠ [] := fun z => by subst z; simp at hn
        refine cr_max hc pins s σ H _ us Q I r ⟨a, ns, rfl, .inl g1, List.length_pos_iff.mpr hne, fun m m1 m2 => ?_⟩
        obtain ⟨k1, k2⟩ := maxI_spec ns hne
        have : m = maxI ns := Int.le_antisymm (k2 m m1) (m2 _ k1)
        rw [this]
        exact q.int hS
    | min =>
      cases x <;> simp only [primD, reduceCtorEq] at e
      obtain ⟨ns, e1, e⟩ := Option.bind_eq_some_iff.mp e
      split at e
      · cases e
      · rename_i hn
        cases e
        obtain ⟨a, ws, rfl, g1, g2, g3⟩ := h1.lst_iff
        have ew := g3.ints e1
        subst ew
        have hne : ns ≠ [] := fun z => by subst z; simp at hn
        refine cr_min hc pins s σ H _ us Q I r ⟨a, ns, rfl, .inl g1, List.length_pos_iff.mpr hne, fun m m1 m2 => ?_⟩
        obtain ⟨k1, k2⟩ := minI_spec ns hne
        have : m = minI ns := Int.le_antisymm (m2 _ k1) (k2 m m1)
        rw [this]
        exact q.int hS
    | all =>
      cases x <;> simp only [primD, reduceCtorEq] at e
      obtain ⟨bs, e1, e⟩ := Option.map_eq_some_iff.mp e
      subst e
      obtain ⟨a, ws, rfl, g1, g2, g3⟩ := h1.lst_iff
      have ew := g3.bools e1
      subst ew
      exact cr_all hc pins s σ H _ us Q I r ⟨a, bs, rfl, .inl g1, q.bool hS⟩
    | any =>
      cases x <;> simp only [primD, reduceCtorEq] at e
      obtain ⟨bs, e1, e⟩ := Option.map_eq_some_iff.mp e
      subst e
      obtain ⟨a, ws, rfl, g1, g2, g3⟩ := h1.lst_iff
      have ew := g3.bools e1
      subst ew
      exact cr_any hc pins s σ H _ us Q I r ⟨a, bs, rfl, .inl g1, q.bool hS⟩
    | tuple =>
      cases x <;> simp [primD] at e <;> subst e
      · obtain ⟨a, ws, rfl, g1, g2, g3⟩ := h1.lst_iff
        exact call_tuple_of pins s σ H _ us Q I r ⟨a, ws, rfl, .inl ⟨.inl g1, q.tup hS g2 g3⟩⟩
      · obtain ⟨a, ws, rfl, g1, g2, g3⟩ := h1.tup_iff
        exact call_tuple_of pins s σ H _ us Q I r ⟨a, ws, rfl, .inr ⟨g1.sq, q.same hS (RX.tup_mk g1 g2 g3)⟩⟩
    | list =>
      cases x <;> simp [primD] at e <;> subst e
      · obtain ⟨a, ws, rfl, g1, g2, g3⟩ := h1.lst_iff
        exact call_list_of pins s σ H _ us Q I r ⟨a, ws, rfl, .inl (.inl g1), q.lst hS g2 g3⟩
      · obtain ⟨a, ws, rfl, g1, g2, g3⟩ := h1.tup_iff
        exact call_list_of pins s σ H _ us Q I r ⟨a, ws, rfl, .inr g1.sq, q.lst hS g2 g3⟩
    | repr =>
      simp only [primD] at e
      split at e
      · rename_i ok
        cases e
        refine ob_repr hg hu pins s σ H _ us Q I r ⟨F, x, v, rfl, h1, ok, q.str hS ?_⟩
        unfold reprOk at ok
        simp only [Bool.and_eq_true, decide_eq_true_eq] at ok
        exact ok.1.2
      · cases e
    | sum =>
      cases x <;> simp only [primD, reduceCtorEq] at e
      obtain ⟨bs, e1, e⟩ := Option.map_eq_some_iff.mp e
      subst e
      obtain ⟨a, ws, rfl, g1, g2, g3⟩ := h1.lst_iff
      have ew := g3.ints e1
      subst ew
      exact cr_sum hc pins s σ H _ us Q I r ⟨a, bs, rfl, .inl g1, q.int hS⟩
    | sorted =>
      cases x <;> simp only [primD, reduceCtorEq] at e
      obtain ⟨ns, e1, e⟩ := Option.bind_eq_some_iff.mp e
      split at e
      · rename_i hn
        cases e
        obtain ⟨a, ws, rfl, g1, g2, g3⟩ := h1.lst_iff
        have ew := g3.ints e1
        subst ew
        refine cr_sorted pins s σ H _ us Q I r ⟨a, ns, rfl, .inl g1, hn, fun ns' p1 p2 p3 p4 => ?_⟩
        have : ns' = sortI ns := sorted_unique (p2.trans (sortI_perm ns).symm) p3 (sortI_sorted ns)
        subst this
        refine q.lst hS ?_ (RDs.ofInts _) p1 p4
        have := (sortI_perm ns).length_eq
        simp only [List.length_map]
        show _ ≤ 16777216
        omega
      · cases e
    | abs =>
      cases x <;> simp [primD] at e <;> subst e
      rw [h1.int_iff] at r
      exact call_abs pins s σ H _ us Q I r ⟨_, rfl, q.int hS⟩
end
end MP


/-! MP, part j: readings of MP's terms. -/
namespace MP
open PySem PySem.Spec L2
def TRs (F : FS) (ρ : List Addr) (K : Fg) (H : Hp) : List T → List V → Prop
  | [], vs => vs = []
  | x :: xs, vs => ∃ v r, vs = v :: r ∧ TR F ρ K H x v ∧ TRs F ρ K H xs r
/-- an exception of the class number c with the value x -/
def XQ (cl : Nat → Value) (W : WX) (σ : L2.St) (F : FS) (ρ : List Addr) (K : Fg) (H : Hp) (c : Nat) (x : T) (st : Store) : Prop :=
  ∀ (F' : FS) (ρ' : List Addr) (H' : Hp) (w : V) (d : Addr), Stp F ρ H F' ρ' H' → SR F' ρ' K st H' → TR F' ρ' K H' x w → H' d = some (.xd [("value", w)]) → W (cl c) (some d) σ H'
def Post {α β : Type} (R : FS → List Addr → Hp → α → β → Prop) (cl : Nat → Value) (W : WX) (σ : L2.St) (F : FS) (ρ : List Addr) (K : Fg) (H : Hp) (r : Res α) (Q : β → Hp → Prop) : Prop :=
  match r with
  | .ok a st => ∀ (F' : FS) (ρ' : List Addr) (H' : Hp) (b : β), Stp F ρ H F' ρ' H' → SR F' ρ' K st H' → R F' ρ' H' a b → Q b H'
  | .exc c x st => XQ cl W σ F ρ K H c x st
  | .stuck => False
section
variable {α β γ δ : Type} {R : FS → List Addr → Hp → α → β → Prop} {R0 : FS → List Addr → Hp → γ → δ → Prop} {cl : Nat → Value} {W : WX} {σ : L2.St} {F F' : FS} {ρ ρ' : List Addr} {K : Fg} {H H' : Hp} {Q : β → Hp → Prop} {Q0 : δ → Hp → Prop}
theorem Post.step {r : Res α} (s : Stp F ρ H F' ρ' H') (h : Post R cl W σ F ρ K H r Q) : Post R cl W σ F' ρ' K H' r Q := by
  cases r with
  | ok a st => exact fun F2 ρ2 H2 b t q p => h F2 ρ2 H2 b (s.trans t) q p
  | exc c x st => exact fun F2 ρ2 H2 w d t => h F2 ρ2 H2 w d (s.trans t)
  | stuck => exact h
theorem Post.bind {r : Res γ} {f : γ → Store → Res α} (h : Post R cl W σ F ρ K H (r.bind f) Q)
    (k : ∀ (a : γ) (st : Store) (F' : FS) (ρ' : List Addr) (H' : Hp) (b : δ), Stp F ρ H F' ρ' H' → SR F' ρ' K st H' → R0 F' ρ' H' a b → Post R cl W σ F' ρ' K H' (f a st) Q → Q0 b H') : Post R0 cl W σ F ρ K H r Q0 := by
  cases r with
  | ok a st => exact fun F2 ρ2 H2 b t q p => k a st F2 ρ2 H2 b t q p (Post.step t h)
  | exc c x st => exact h
  | stuck => exact h
theorem Post.map {r : Res α} (h : Post R cl W σ F ρ K H r Q) {R1 : FS → List Addr → Hp → α → δ → Prop}
    (k : ∀ (a : α) (st : Store) (F' : FS) (ρ' : List Addr) (H' : Hp) (b : δ), r = .ok a st → Stp F ρ H F' ρ' H' → SR F' ρ' K st H' → R1 F' ρ' H' a b → Q0 b H') : Post R1 cl W σ F ρ K H r Q0 := by
  cases r with
  | ok a st => exact fun F2 ρ2 H2 b t q p => k a st F2 ρ2 H2 b rfl t q p
  | exc c x st => exact h
  | stuck => exact h
theorem Post.lift {o : Option α} {st : Store} (h : Post R cl W σ F ρ K H (MP.lift o st) Q) : ∃ a, o = some a ∧ ∀ (F' : FS) (ρ' : List Addr) (H' : Hp) (b : β), Stp F ρ H F' ρ' H' → SR F' ρ' K st H' → R F' ρ' H' a b → Q b H' := by
  cases o with
  | none => exact h.elim
  | some a => exact ⟨a, rfl, h⟩
end
abbrev RV_ (K : Fg) : FS → List Addr → Hp → RV → V → Prop := fun F ρ H => RVR F ρ K H
abbrev RT_ (K : Fg) : FS → List Addr → Hp → T → V → Prop := fun F ρ H => TR F ρ K H
abbrev RD_ (K : Fg) : FS → List Addr → Hp → D → V → Prop := fun F _ H => RX F K H
abbrev RB_ : FS → List Addr → Hp → D → Bool → Prop := fun _ _ _ x b => b = truthD x
abbrev RTs_ (K : Fg) : FS → List Addr → Hp → List T → List V → Prop := fun F ρ H => TRs F ρ K H
abbrev RDs_ (K : Fg) : FS → List Addr → Hp → List D → List V → Prop := fun F _ H => RDs F K H
/-- the state behind an expression's reading -/
def Sta (K : Fg) (σ : L2.St) (H : Hp) (P : FS → List Addr → Env → Store → Prop) : Prop := ∃ F ρ env st, SR F ρ K st H ∧ ER F ρ K H env σ ∧ P F ρ env st
section
variable (K : Fg) (cl : Nat → Value) (W : WX) (cf : CF)
def tE (c : E) : TE := fun σ H Q => Sta K σ H fun F ρ env st => Post (RV_ K) cl W σ F ρ K H (evalE cf c env st) Q
def tS (c : E) : TE := fun σ H Q => Sta K σ H fun F ρ env st => Post (RT_ K) cl W σ F ρ K H (settled (evalE cf c env st)) Q
def tR (c : E) : TE := fun σ H Q => Sta K σ H fun F ρ env st => Post (RD_ K) cl W σ F ρ K H (readD (evalE cf c env st)) Q
def tC (c : E) : TT := fun σ H Q => Sta K σ H fun F ρ env st => Post RB_ cl W σ F ρ K H (readD (evalE cf c env st)) Q
def tTs (cs : List E) : TA := fun σ H Q => Sta K σ H fun F ρ env st => Post (RTs_ K) cl W σ F ρ K H (evalTs cf cs env st) Q
def tDs (cs : List E) : TA := fun σ H Q => Sta K σ H fun F ρ env st => Post (RDs_ K) cl W σ F ρ K H (evalDs cf cs env st) Q
end
section
variable {X : Cx} {K : Fg} {cl : Nat → Value} {W : WX} {cf : CF} {c : E} {e : Expr}
theorem PE.imp {t t' : TE} (h : PE X e t) (i : ∀ σ H Q, t' σ H Q → t σ H Q) : PE X e t' := ⟨fun pins s σ H Q I q => h.run pins s σ H Q I (i σ H Q q)⟩
theorem PT.imp {t t' : TT} (h : PT X e t) (i : ∀ σ H Q, t' σ H Q → t σ H Q) : PT X e t' := ⟨fun pins s σ H Q I q => h.run pins s σ H Q I (i σ H Q q)⟩
theorem PA.imp {es : List Expr} {t t' : TA} (h : PA X es t) (i : ∀ σ H Q, t' σ H Q → t σ H Q) : PA X es t' := ⟨fun pos pins s σ H Q I q => h.run pos pins s σ H Q I (i σ H Q q)⟩
theorem PS.imp {st : Stmt} {t t' : TS} (h : PS X st t) (i : ∀ D σ H, t' D σ H → t D σ H) : PS X st t' := ⟨fun pins s σ H D I q => h.run pins s σ H D I (i D σ H q)⟩
theorem PSs.imp {st : List Stmt} {t t' : TS} (h : PSs X st t) (i : ∀ D σ H, t' D σ H → t D σ H) : PSs X st t' := ⟨fun pins s σ H D I q => h.run pins s σ H D I (i D σ H q)⟩
theorem tS_E {σ : L2.St} {H : Hp} {Q : VK} (h : tS K cl W cf c σ H Q) : tE K cl W cf c σ H Q := by
  obtain ⟨F, ρ, env, st, hS, hE, p⟩ := h
  refine ⟨F, ρ, env, st, hS, hE, Post.bind p fun a st1 F1 ρ1 H1 b s q r p1 => ?_⟩
  obtain ⟨F2, s2, q2, r2⟩ := q.settle r
  exact p1 F2 ρ1 H1 b s2 q2 r2
theorem tR_S {σ : L2.St} {H : Hp} {Q : VK} (h : tR K cl W cf c σ H Q) : tS K cl W cf c σ H Q := by
  obtain ⟨F, ρ, env, st, hS, hE, p⟩ := h
  refine ⟨F, ρ, env, st, hS, hE, ?_⟩
  unfold settled
  unfold readD at p
  cases hr : evalE cf c env st with
  | ok a st1 =>
    rw [hr] at p ⊢
    intro F2 ρ2 H2 b s q r
    obtain ⟨x, e1, p⟩ := Post.lift p
    exact p F2 ρ2 H2 b s q (q.read r e1)
  | exc c x st1 => rw [hr] at p ⊢; exact p
  | stuck => rw [hr] at p ⊢; exact p
theorem tC_R {σ : L2.St} {H : Hp} {Q : Bool → Hp → Prop} (h : tC X.K cl W cf c σ H Q) : tR X.K cl W cf c σ H fun x H' => ∃ k, TruV X.K x H' k ∧ Q k H' := by
  obtain ⟨F, ρ, env, st, hS, hE, p⟩ := h
  refine ⟨F, ρ, env, st, hS, hE, Post.map p fun a st1 F2 ρ2 H2 b er s q r => ?_⟩
  rw [er] at p
  exact ⟨truthD a, ob_tru r, p F2 ρ2 H2 _ s q rfl⟩
/-- two settled expressions -/
theorem tS2 {α β : Type} {R : FS → List Addr → Hp → α → β → Prop} {Q : β → Hp → Prop} {a b : E} {σ : L2.St} {H : Hp} {F : FS} {ρ : List Addr} {env : Env} {st : Store} {k : T → T → Store → Res α} {G : V → V → Hp → Prop} (hS : SR F ρ K st H) (hE : ER F ρ K H env σ)
    (p : Post R cl W σ F ρ K H ((settled (evalE cf a env st)).bind fun x st1 => (settled (evalE cf b env st1)).bind fun y st2 => k x y st2) Q)
    (g : ∀ (F2 : FS) (ρ2 : List Addr) (H2 : Hp) (x y : T) (vx vy : V) (st2 : Store), SR F2 ρ2 K st2 H2 → ER F2 ρ2 K H2 env σ → TR F2 ρ2 K H2 x vx → TR F2 ρ2 K H2 y vy → Post R cl W σ F2 ρ2 K H2 (k x y st2) Q → G vx vy H2) :
    tS K cl W cf a σ H fun vx H1 => tS K cl W cf b σ H1 fun vy H2 => G vx vy H2 := by
  refine ⟨F, ρ, env, st, hS, hE, Post.bind p fun x st1 F1 ρ1 H1 vx s q r p1 => ?_⟩
  refine ⟨F1, ρ1, env, st1, q, s.er hE, Post.bind p1 fun y st2 F2 ρ2 H2 vy s2 q2 r2 p2 => ?_⟩
  exact g F2 ρ2 H2 x y vx vy st2 q2 (s2.er (s.er hE)) (s2.tr r) r2 p2
theorem tS_tR {σ : L2.St} {H : Hp} {F : FS} {ρ : List Addr} {env : Env} {st : Store} {α β : Type} {R : FS → List Addr → Hp → α → β → Prop} {Q : β → Hp → Prop} {k : D → Store → Res α} {G : V → Hp → Prop} (hS : SR F ρ K st H) (hE : ER F ρ K H env σ)
    (p : Post R cl W σ F ρ K H ((readD (evalE cf c env st)).bind k) Q)
    (g : ∀ (F2 : FS) (ρ2 : List Addr) (H2 : Hp) (x : D) (vx : V) (st2 : Store), SR F2 ρ2 K st2 H2 → ER F2 ρ2 K H2 env σ → RX F2 K H2 x vx → Post R cl W σ F2 ρ2 K H2 (k x st2) Q → G vx H2) : tR K cl W cf c σ H G := by
  refine ⟨F, ρ, env, st, hS, hE, Post.bind p fun x st1 F1 ρ1 H1 vx s q r p1 => ?_⟩
  exact g F1 ρ1 H1 x vx st1 q (s.er hE) r p1
end
end MP


/-! MP, part k: which MP terms stand for which Python terms; what a context must keep. -/
namespace MP
open PySem PySem.Spec L2
/-- what is known of the module's names: the defs, the built-ins that are still themselves, the constants -/
structure Gb where
  fns : List Str
  free : List Str
  nums : List (Str × Int)
def plainName (x : Str) : Bool := !(x == ("__debug__" : Str)) && !(x == ("__classdict__" : Str)) && !decide (x = ("__name__" : Str))
def vis (sc : Scope) (x : Str) : Bool := match sc.names.lookup x with
  | some .local => true
  | some .cell => true
  | some .free => true
  | _ => false
def gl (sc : Scope) (x : Str) : Bool := decide (sc.names.lookup x = some .globalImplicit)
def notStar : Expr → Bool
  | .Starred .. => false
  | _ => true
def isSlice : Expr → Bool
  | .Slice .. => true
  | _ => false
def isSet : Expr → Bool
  | .Set .. => true
  | _ => false
def isComp : Expr → Bool
  | .ListComp .. => true
  | .SetComp .. => true
  | .DictComp .. => true
  | _ => false
def isCall0 : Expr → Bool
  | .Call (.Name _ _) [] [] _ => true
  | _ => false
def conOk : D → Const → Bool
  | .none, .none => true
  | .bool b, .bool c => b == c
  | .int i, .int j => decide (i = j)
  | .str x, .str y => decide (x = y) && decide (x.length ≤ big)
  | _, _ => false
def memB {α : Type} [DecidableEq α] (x : α) (l : List α) : Bool := decide (x ∈ l)
/-- a name that may be stored -/
def loc (fn : Str → Bool) (sc : Scope) (x : Str) : Bool := match sc.names.lookup x with
  | some .local => true
  | some .cell => fn x
  | _ => false
mutual
def okP (N : List Str) (sc : Scope) (fn : Str → Bool) : Pat → Expr → Bool
  | .nm i, .Name x _ => decide (N[i]? = some x) && loc fn sc x
  | .tp ps, .Tuple es _ _ => okPs N sc fn ps es
  | _, _ => false
def okPs (N : List Str) (sc : Scope) (fn : Str → Bool) : List Pat → List Expr → Bool
  | [], [] => true
  | p :: ps, e :: es => notStar e && okP N sc fn p e && okPs N sc fn ps es
  | _, _ => false
end
/-! the names that a target binds -/
mutual
def patVars : Pat → List Nat
  | .nm i => [i]
  | .tp ps => patsVars ps
def patsVars : List Pat → List Nat
  | [] => []
  | p :: ps => patVars p ++ patsVars ps
end
def isHole : E → Bool
  | .hole => true
  | _ => false
def okOp (h : Bool) (r : Expr → Bool) : Option Expr → Bool
  | none => h
  | some e => r e
def cellFn (scope : Scope) : Str → Bool := fun x => scope.names.lookup x == some .cell
mutual
def okE (G : Gb) (N : List Str) : E → Scope → Expr → Bool
  | .var i, sc, .Name x _ => decide (N[i]? = some x) && vis sc x && plainName x
  | .con v, _, .Constant c _ _ => conOk v c
  | .glo x (.int i), sc, .Name y _ => decide (x = y) && gl sc x && memB (x, i) G.nums && plainName x
  | .op o a b, sc, .BinOp l p r _ => decide (p = o.py) && okE G N a sc l && okE G N b sc r
  | .neg a, sc, .UnaryOp .USub x _ => okE G N a sc x
  | .cmp c a b, sc, .Compare l [p] [r] _ => decide (p = c.py) && okE G N a sc l && okE G N b sc r && !isSet r
  | .chain c c' a b e, sc, .Compare l [p, p'] [r, r'] _ => decide (p = c.py) && decide (p' = c'.py) && okE G N a sc l && okE G N b sc r && okE G N e sc r' && !isSet r && !isSet r'
  | .and a b, sc, .BoolOp .And [x, y] _ => okE G N a sc x && okE G N b sc y
  | .and a b, sc, .BoolOp .And (x :: y :: z :: r) p => okE G N a sc x && okE G N b sc (.BoolOp .And (y :: z :: r) p)
  | .or a b, sc, .BoolOp .Or [x, y] _ => okE G N a sc x && okE G N b sc y
  | .or a b, sc, .BoolOp .Or (x :: y :: z :: r) p => okE G N a sc x && okE G N b sc (.BoolOp .Or (y :: z :: r) p)
  | .not a, sc, .UnaryOp .Not x _ => okE G N a sc x
  | .ite c a b, sc, .IfExp t x y _ => okE G N c sc t && okE G N a sc x && okE G N b sc y
  | .tup es, sc, .Tuple xs _ _ => okEs G N es sc xs && decide (es.length ≤ big)
  | .lst es, sc, .List xs _ => okEs G N es sc xs && decide (es.length ≤ big)
  | .dct [] [], _, .Dict [] [] _ => true
  | .dct [k] [e], sc, .Dict [some (.Constant c _ _)] [v] _ => conOk k c && (keyD k).isSome && okE G N e sc v
  | .call f es, sc, .Call (.Name x _) (y :: ys) [] _ => decide (G.fns[f]? = some x) && gl sc x && plainName x && okEs G N es sc (y :: ys)
  | .prim p es, sc, .Call (.Name x _) (y :: ys) [] _ => decide (x = p.py) && gl sc x && memB x G.free && plainName x && okEs G N es sc (y :: ys)
  | .isi a t, sc, .Call (.Name x _) [y, .Name z _] [] _ => decide (x = "isinstance") && gl sc x && memB x G.free && decide (z = (t.py : String)) && gl sc z && memB z G.free && okE G N a sc y && notStar y
  | .ix a i, sc, .Subscript v s _ => okE G N a sc v && okE G N i sc s && !isSlice s
  | .sl a lo hi, sc, .Subscript v (.Slice l h none _) _ => okE G N a sc v && okOp (isHole lo) (okE G N lo sc) l && okOp (isHole hi) (okE G N hi sc) h
  | .comp own p it conds elt, sc, .ListComp e [⟨tg, iter, ifs, ay⟩] scope _ => decide (ay = 0) && okE G N it sc iter && !isSet iter && blkC N sc scope (own.map fun i => (N.getD i "", i)) && okP N (relS scope sc) (cellFn scope) p tg &&
      okCs G N conds (relS scope sc) ifs && okE G N elt (relS scope sc) e && (patVars p).all (fun i => memB i own)
  | .meth m o es, sc, .Call (.Attribute v n apos) xs [] cpos => decide (n = m.nm) && okE G N o sc v && okEs G N es sc xs && !isCall0 v && (apos.endLine == cpos.line) && decide (xs.length < 20)
  | .rng [a], sc, .Call (.Name x _) [y] [] _ => decide (x = "range") && gl sc x && memB x G.free && okE G N a sc y && notStar y
  | .rng [a, b], sc, .Call (.Name x _) [y, z] [] _ => decide (x = "range") && gl sc x && memB x G.free && okE G N a sc y && notStar y && okE G N b sc z && notStar z
  | _, _, _ => false
termination_by structural c => c
def okEs (G : Gb) (N : List Str) : List E → Scope → List Expr → Bool
  | [], _, [] => true
  | c :: cs, sc, e :: es => okE G N c sc e && notStar e && okEs G N cs sc es
  | _, _, _ => false
termination_by structural c => c
def okCs (G : Gb) (N : List Str) : List E → Scope → List Expr → Bool
  | [], _, [] => true
  | [c], sc, [e] => okE G N c sc e
  | _, _, _ => false
termination_by structural c => c
end
/-! ### a def's promise, with the guards known -/
structure FnG (P : Program) (w : World) (K : Fg) (mg : Str → Option Value) (base : Heap) (k : Nat) (f : Addr) (fd : FuncData) (ps : List Str) (sp : Sp) : Prop where
  len : ∀ vs H Q E, sp vs H Q E → vs.length = ps.length
  run : ∀ (A : Around) (outer : List PySem.Env) (s : Shared) (H : Hp) (args : Args) (us : List Value) (vs : List V) (Q : VK) (E : XK), Room k A → A.guards = some [] → Env0 P w K mg base A outer s H →
    BindsTo s fd args (ps.zip us) → Vals vs us → sp vs H Q E → codeAny (model P w) A (.call (.ref f) args) (CR (L2.CX P w) outer P w H s Q E) s
def spF (K : Fg) (cl : Nat → Value) (cf : CF) (f : Nat) : Sp := fun vs H Q E => ∃ F ρ st args, SR F ρ K st H ∧ TRs F ρ K H args vs ∧ Post (RV_ K) cl (fun c d _ H => E c d H) [] F ρ K H (cf f args st) Q
structure XOk (G : Gb) (N : List Str) (sc : Scope) (fn : Str → Bool) (cl : Nat → Value) (W : WX) (cf : CF) (X : Cx) : Prop where
  hN : X.N = N
  hsc : X.env.scope = sc
  nd : N.Nodup
  calm : X.calm = true
  guards : X.A.guards = some []
  units : X.A.units + 64 < cLine
  fnx : ∀ x, fn x = true → X.fn x = true
  free : ∀ x ∈ G.free, X.mg x = none
  nums : ∀ p ∈ G.nums, ∃ t, X.mg p.1 = some (.int p.2 t)
  calls : ∀ (f : Nat) (x : Str), G.fns[f]? = some x → ∃ (k : Nat) (fa : Addr) (fd : FuncData) (ps : List Str), X.mg x = some (.ref fa) ∧ PySem.W.keepIn X.K (.ref fa) = true ∧ FnG X.prog X.w X.K X.mg X.base k fa fd ps (spF X.K cl cf f) ∧
    Room k X.A ∧ Binds X.K fd ps []
  takes : Takes X W
section
variable {G : Gb} {N : List Str} {sc : Scope} {fn : Str → Bool} {cl : Nat → Value} {W : WX} {cf : CF} {X : Cx}
theorem XOk.blk (x : XOk G N sc fn cl W cf X) (s : Shared) (H : Hp) (scope : Scope) (C : Addr) (cs : List (Str × Addr)) (fp : List Addr) :
    XOk G N (relS scope sc) (cellFn scope) cl (fun _ _ _ _ => False) cf (X.blk s H scope (compEnvC scope cs C X.env) fp) where
  hN := x.hN
  hsc := by
    have h := x.hsc
    subst h
    rfl
  nd := x.nd
  calm := x.calm
  guards := x.guards
  units := x.units
  fnx := fun y h => h
  free := x.free
  nums := x.nums
  calls := x.calls
  takes := takes0
theorem vis_ok {x : Str} (h : vis sc x = true) : Vis sc x := by
  unfold vis at h
  split at h
  · exact .inl (by assumption)
  · exact .inr (.inl (by assumption))
  · exact .inr (.inr (by assumption))
  · cases h
theorem loc_ok (x : XOk G N sc fn cl W cf X) {y : Str} (h : loc fn sc y = true) : Loc X.env.scope y ∧ (X.fn y = true ∨ X.env.scope.names.lookup y = some .local) := by
  rw [x.hsc]
  unfold loc at h
  split at h
  · exact ⟨.inl (by assumption), .inr (by assumption)⟩
  · exact ⟨.inr (by assumption), .inl (x.fnx y h)⟩
  · cases h
theorem gl_ok (x : XOk G N sc fn cl W cf X) {y : Str} (h : gl sc y = true) : Gl X y := by
  unfold gl at h
  show X.env.scope.names.lookup y = some .globalImplicit
  rw [x.hsc]
  exact of_decide_eq_true h
theorem plain_ok {x : Str} (h : plainName x = true) : (x == ("__debug__" : Str)) = false ∧ (x == ("__classdict__" : Str)) = false ∧ x ≠ ("__name__" : Str) := by
  unfold plainName at h
  simp only [Bool.and_eq_true, Bool.not_eq_true', decide_eq_false_iff_not] at h
  exact ⟨h.1.1, h.1.2, h.2⟩
theorem memB_ok {α : Type} [DecidableEq α] {x : α} {l : List α} (h : memB x l = true) : x ∈ l := of_decide_eq_true h
theorem star_ok {e : Expr} {es : List Expr} {env : PySem.Env} (h : notStar e = true) : starEach (e :: es) env = (false, eval e env) :: starEach es env := by
  cases e <;> first | rfl | cases h
theorem plainIx_ok {e : Expr} (h : isSlice e = false) : PlainIx e := by
  cases e <;> first | (intro _ _; rfl) | cases h
theorem noMark {op : CmpOp} {e : Expr} (h : isSet e = false) : behindInMarks op e = false := by
  cases e <;> first | rfl | cases h
theorem noFold {e : Expr} (h : isSet e = false) {env : PySem.Env} : ∀ x, foldedSetIterable e env x = pure x := by
  cases e <;> first | (intro _; rfl) | cases h
theorem base_ok {e : Expr} {n : Str} {env : PySem.Env} (h : isCall0 e = false) : attributeBase e n env (eval e env) = eval e env := by
  cases e with
  | Call f as ks p =>
    cases f with
    | Name x q =>
      cases as with
      | nil => cases ks with
        | nil => cases h
        | cons => rfl
      | cons => rfl
    | _ => rfl
  | _ => rfl
theorem noSwap {e : Expr} {t : Option Expr} {l : Nat} {env : PySem.Env} (h : isComp e = false) : swapsWith e t l env = pure false := by
  cases e <;> first | rfl | cases h
/-- what okEs says of stars -/
theorem stars_ok : ∀ {cs : List E} {es : List Expr} {env : PySem.Env} {pos : Pos}, okEs G N cs sc es = true → (backTo pos (starEach es env)).any (·.1) = false ∧ (backTo pos (starEach es env)).all (fun x => !x.1) = true
  | [], [], env, pos, _ => ⟨rfl, rfl⟩
  | [], _ :: _, _, _, h => by simp [okEs] at h
  | _ :: _, [], _, _, h => by simp [okEs] at h
  | c :: cs, e :: es, env, pos, h => by
    simp only [okEs, Bool.and_eq_true] at h
    obtain ⟨h1, h2⟩ := stars_ok (env := env) (pos := pos) h.2
    rw [star_ok h.1.2]
    constructor
    · show (false || (backTo pos (starEach es env)).any (·.1)) = false
      rw [h1]
      rfl
    · show (true && (backTo pos (starEach es env)).all (fun x => !x.1)) = true
      rw [h2]
      rfl
end
end MP


/-! MP, part l: soundness of expressions, one rule a constructor. -/
namespace MP
open PySem PySem.Spec L2
section
variable {G : Gb} {N : List Str} {sc : Scope} {fn : Str → Bool} {cl : Nat → Value} {W : WX} {cf : CF} {X : Cx} {pos : Pos}
theorem rv_int {F : FS} {ρ : List Addr} {K : Fg} {H : Hp} {i : Int} : RVR F ρ K H (.t (.d (.int i))) (.int i) := by unfold RVR TR RD; rfl
theorem rv_bool {F : FS} {ρ : List Addr} {K : Fg} {H : Hp} {b : Bool} : RVR F ρ K H (.t (.d (.bool b))) (.bl b) := by unfold RVR TR RD; rfl
theorem rv_none {F : FS} {ρ : List Addr} {K : Fg} {H : Hp} : RVR F ρ K H (.t (.d .none)) .non := by unfold RVR TR RD; rfl
theorem rv_str {F : FS} {ρ : List Addr} {K : Fg} {H : Hp} {x : Str} (h : x.length ≤ big) : RVR F ρ K H (.t (.d (.str x))) (.str x) := by unfold RVR TR RD; exact ⟨rfl, h⟩
abbrev PEx (X : Cx) (cl : Nat → Value) (W : WX) (cf : CF) (c : E) (e : Expr) : Prop := PE X e (tE X.K cl W cf c)
theorem PEx.s {c : E} {e : Expr} (h : PEx X cl W cf c e) : PE X e (tS X.K cl W cf c) := PE.imp h fun _ _ _ => tS_E
theorem PEx.r {c : E} {e : Expr} (h : PEx X cl W cf c e) : PE X e (tR X.K cl W cf c) := PE.imp h.s fun _ _ _ => tR_S
theorem e_var (x : XOk G N sc fn cl W cf X) {i : Nat} {y : Str} (h : okE G N (.var i) sc (.Name y pos) = true) : PEx X cl W cf (.var i) (.Name y pos) := by
  simp only [okE, Bool.and_eq_true, decide_eq_true_eq] at h
  obtain ⟨⟨h1, h2⟩, h3⟩ := h
  obtain ⟨p1, p2, p3⟩ := plain_ok h3
  refine PE.imp (pe_var (i := i) (by rw [x.hN]; exact h1) (by rw [x.hsc]; exact vis_ok h2) p1 p2) fun σ H Q q => ?_
  obtain ⟨F, ρ, env, st, hS, hE, p⟩ := q
  simp only [evalE] at p
  cases he : env[i]? with
  | none => rw [he] at p; exact p.elim
  | some o =>
    cases o with
    | none => rw [he] at p; exact p.elim
    | some v =>
      rw [he] at p
      obtain ⟨u, e1, e2⟩ := hE.2 i v he
      exact ⟨u, e1, p F ρ H u .refl hS e2⟩
theorem e_con (x : XOk G N sc fn cl W cf X) {v : D} {c : Const} {k : Nat} (h : okE G N (.con v) sc (.Constant c k pos) = true) : PEx X cl W cf (.con v) (.Constant c k pos) := by
  simp only [okE] at h
  cases v <;> cases c <;> simp [conOk] at h
  · refine PE.imp pe_non fun σ H Q q => ?_
    obtain ⟨F, ρ, env, st, hS, hE, p⟩ := q
    simp only [evalE] at p
    exact p F ρ H _ .refl hS (by first | exact rv_int | exact rv_bool | exact rv_none)
  · subst h
    refine PE.imp pe_bl fun σ H Q q => ?_
    obtain ⟨F, ρ, env, st, hS, hE, p⟩ := q
    simp only [evalE] at p
    exact p F ρ H _ .refl hS (by first | exact rv_int | exact rv_bool | exact rv_none)
  · subst h
    refine PE.imp pe_int fun σ H Q q => ?_
    obtain ⟨F, ρ, env, st, hS, hE, p⟩ := q
    simp only [evalE] at p
    exact p F ρ H _ .refl hS (by first | exact rv_int | exact rv_bool | exact rv_none)
  · obtain ⟨rfl, h2⟩ := h
    refine PE.imp pe_str fun σ H Q q => ?_
    obtain ⟨F, ρ, env, st, hS, hE, p⟩ := q
    simp only [evalE] at p
    exact p F ρ H _ .refl hS (rv_str h2)
theorem e_glo (x : XOk G N sc fn cl W cf X) {y z : Str} {i : Int} (h : okE G N (.glo y (.int i)) sc (.Name z pos) = true) : PEx X cl W cf (.glo y (.int i)) (.Name z pos) := by
  simp only [okE, Bool.and_eq_true, decide_eq_true_eq] at h
  obtain ⟨⟨⟨rfl, h2⟩, h3⟩, h4⟩ := h
  obtain ⟨t, ht⟩ := x.nums _ (memB_ok h3)
  refine PE.imp (pe_glob (v := .int i) (gl_ok x h2) ht ⟨t, rfl⟩ (plain_ok h4).1) fun σ H Q q => ?_
  obtain ⟨F, ρ, env, st, hS, hE, p⟩ := q
  simp only [evalE] at p
  exact p F ρ H _ .refl hS (by first | exact rv_int | exact rv_bool | exact rv_none)
theorem e_op (x : XOk G N sc fn cl W cf X) {o : Op} {a b : E} {l r : Expr} (ha : PEx X cl W cf a l) (hb : PEx X cl W cf b r) : PEx X cl W cf (.op o a b) (.BinOp l o.py r pos) := by
  refine PE.imp (pe_op (ob_bin o) ha.s hb.s) fun σ H Q q => ?_
  obtain ⟨F, ρ, env, st, hS, hE, p⟩ := q
  simp only [evalE] at p
  refine tS2 hS hE p fun F2 ρ2 H2 x y vx vy st2 q2 e2 r1 r2 p2 => ?_
  obtain ⟨v, e, p3⟩ := Post.lift p2
  obtain ⟨dx, e1, e⟩ := Option.bind_eq_some_iff.mp e
  obtain ⟨dy, e2', e⟩ := Option.bind_eq_some_iff.mp e
  exact ⟨F2, ρ2, st2, dx, dy, v, q2, q2.read r1 e1, q2.read r2 e2', e, p3⟩
theorem e_neg (x : XOk G N sc fn cl W cf X) {a : E} {l : Expr} (ha : PEx X cl W cf a l) : PEx X cl W cf (.neg a) (.UnaryOp .USub l pos) := by
  refine PE.imp (pe_un un_neg ha.r) fun σ H Q q => ?_
  obtain ⟨F, ρ, env, st, hS, hE, p⟩ := q
  simp only [evalE] at p
  refine tS_tR hS hE p fun F2 ρ2 H2 x vx st2 q2 e2 r p2 => ?_
  cases x with
  | int i => exact ⟨i, r.int_iff, p2 F2 ρ2 H2 _ .refl q2 (by first | exact rv_int | exact rv_bool | exact rv_none)⟩
  | _ => exact p2.elim
theorem e_cmp (x : XOk G N sc fn cl W cf X) {c : Cm} {a b : E} {l r : Expr} (ha : PEx X cl W cf a l) (hb : PEx X cl W cf b r) (hr : isSet r = false) : PEx X cl W cf (.cmp c a b) (.Compare l [c.py] [r] pos) := by
  refine PE.imp (pe_cmpR (ob_cmp x.units c) ha.s hb.s (noMark hr)) fun σ H Q q => ?_
  obtain ⟨F, ρ, env, st, hS, hE, p⟩ := q
  simp only [evalE] at p
  refine tS2 hS hE p fun F2 ρ2 H2 x y vx vy st2 q2 e2 r1 r2 p2 => ?_
  obtain ⟨v, e, p3⟩ := Post.lift p2
  obtain ⟨b, e', rfl⟩ := Option.map_eq_some_iff.mp e
  clear e
  have e := e'
  obtain ⟨dx, e1, e⟩ := Option.bind_eq_some_iff.mp e
  obtain ⟨dy, e2', e⟩ := Option.bind_eq_some_iff.mp e
  exact ⟨F2, ρ2, st2, dx, dy, b, q2, q2.read r1 e1, q2.read r2 e2', e, p3 F2 ρ2 H2 _ .refl q2 (by first | exact rv_int | exact rv_bool | exact rv_none)⟩
theorem chain_imp {c c' : Cm} {a b e : E} {σ : L2.St} {H : Hp} {Q : VK} (q : tE X.K cl W cf (.chain c c' a b e) σ H Q) :
    tChain (rCmp X.K c) (rCmp X.K c') (tS X.K cl W cf a) (tS X.K cl W cf b) (tS X.K cl W cf e) σ H Q := by
  obtain ⟨F, ρ, env, st, hS, hE, p⟩ := q
  simp only [evalE] at p
  refine tS2 hS hE p fun F2 ρ2 H2 x y vx vy st2 q2 e2 r1 r2 p2 => ?_
  cases hk : ((rd st2 x).bind fun x => (rd st2 y).bind fun y => cmpD c x y) with
  | none => rw [hk] at p2; exact p2.elim
  | some k =>
    rw [hk] at p2
    obtain ⟨dx, e1, ek⟩ := Option.bind_eq_some_iff.mp hk
    obtain ⟨dy, e2', ek⟩ := Option.bind_eq_some_iff.mp ek
    refine ⟨F2, ρ2, st2, dx, dy, k, q2, q2.read r1 e1, q2.read r2 e2', ek, k, rfl, ?_⟩
    have p3 : Post (RV_ X.K) cl W σ F2 ρ2 X.K H2 (if k then (settled (evalE cf e env st2)).bind fun z st3 => lift (((rd st3 y).bind fun y => (rd st3 z).bind fun z => cmpD c' y z).map tB) st3 else .ok (tB false) st2) Q := p2
    cases k with
    | false => exact p3 F2 ρ2 H2 _ .refl q2 (by first | exact rv_int | exact rv_bool | exact rv_none)
    | true =>
      refine ⟨F2, ρ2, env, st2, q2, e2, Post.bind p3 fun z st3 F3 ρ3 H3 vz s3 q3 r3 p4 => ?_⟩
      obtain ⟨v, e, p5⟩ := Post.lift p4
      obtain ⟨b, e', rfl⟩ := Option.map_eq_some_iff.mp e
      clear e
      have e := e'
      obtain ⟨dy, e1, e⟩ := Option.bind_eq_some_iff.mp e
      obtain ⟨dz, e2', e⟩ := Option.bind_eq_some_iff.mp e
      exact ⟨F3, ρ3, st3, dy, dz, b, q3, q3.read (s3.tr r2) e1, q3.read r3 e2', e, p5 F3 ρ3 H3 _ .refl q3 (by first | exact rv_int | exact rv_bool | exact rv_none)⟩
theorem e_chain (x : XOk G N sc fn cl W cf X) {c c' : Cm} {a b e : E} {l r r' : Expr} (ha : PEx X cl W cf a l) (hb : PEx X cl W cf b r) (he : PEx X cl W cf e r') (h1 : isSet r = false) (h2 : isSet r' = false) :
    PEx X cl W cf (.chain c c' a b e) (.Compare l [c.py, c'.py] [r, r'] pos) :=
  PE.imp (pe_chain (ob_cmp x.units c) (ob_cmp x.units c') ha.s hb.s he.s (noMark h2)) fun σ H Q q => chain_imp q
theorem and_imp {a b : E} {σ : L2.St} {H : Hp} {Q : VK} (q : tE X.K cl W cf (.and a b) σ H Q) : tAndV (tR X.K cl W cf a) (tE X.K cl W cf b) σ H Q := by
  obtain ⟨F, ρ, env, st, hS, hE, p⟩ := q
  simp only [evalE] at p
  refine tS_tR hS hE p fun F2 ρ2 H2 x vx st2 q2 e2 r p2 => ?_
  cases x with
  | bool k =>
    refine ⟨k, r.bool_iff, ?_⟩
    cases k with
    | true => exact ⟨F2, ρ2, env, st2, q2, e2, p2⟩
    | false => exact p2 F2 ρ2 H2 _ .refl q2 (by first | exact rv_int | exact rv_bool | exact rv_none)
  | _ => exact p2.elim
theorem or_imp {a b : E} {σ : L2.St} {H : Hp} {Q : VK} (q : tE X.K cl W cf (.or a b) σ H Q) : tOrV (tR X.K cl W cf a) (tE X.K cl W cf b) σ H Q := by
  obtain ⟨F, ρ, env, st, hS, hE, p⟩ := q
  simp only [evalE] at p
  refine tS_tR hS hE p fun F2 ρ2 H2 x vx st2 q2 e2 r p2 => ?_
  cases x with
  | bool k =>
    refine ⟨k, r.bool_iff, ?_⟩
    cases k with
    | false => exact ⟨F2, ρ2, env, st2, q2, e2, p2⟩
    | true => exact p2 F2 ρ2 H2 _ .refl q2 (by first | exact rv_int | exact rv_bool | exact rv_none)
  | _ => exact p2.elim
theorem e_and2 (x : XOk G N sc fn cl W cf X) {a b : E} {l r : Expr} (ha : PEx X cl W cf a l) (hb : PEx X cl W cf b r) : PEx X cl W cf (.and a b) (.BoolOp .And [l, r] pos) :=
  PE.imp (pe_and ha.r (pe_one hb)) fun σ H Q q => and_imp q
theorem e_and (x : XOk G N sc fn cl W cf X) {a b : E} {l r : Expr} {rs : List Expr} (ha : PEx X cl W cf a l) (hb : PEx X cl W cf b (.BoolOp .And (r :: rs) pos)) : PEx X cl W cf (.and a b) (.BoolOp .And (l :: r :: rs) pos) :=
  PE.imp (pe_and ha.r hb) fun σ H Q q => and_imp q
theorem e_or2 (x : XOk G N sc fn cl W cf X) {a b : E} {l r : Expr} (ha : PEx X cl W cf a l) (hb : PEx X cl W cf b r) : PEx X cl W cf (.or a b) (.BoolOp .Or [l, r] pos) :=
  PE.imp (pe_or ha.r (pe_one hb)) fun σ H Q q => or_imp q
theorem e_or (x : XOk G N sc fn cl W cf X) {a b : E} {l r : Expr} {rs : List Expr} (ha : PEx X cl W cf a l) (hb : PEx X cl W cf b (.BoolOp .Or (r :: rs) pos)) : PEx X cl W cf (.or a b) (.BoolOp .Or (l :: r :: rs) pos) :=
  PE.imp (pe_or ha.r hb) fun σ H Q q => or_imp q
theorem e_not (x : XOk G N sc fn cl W cf X) {a : E} {l : Expr} (ha : PEx X cl W cf a l) : PEx X cl W cf (.not a) (.UnaryOp .Not l pos) := by
  refine PE.imp (pe_notT ha.r) fun σ H Q q => ?_
  obtain ⟨F, ρ, env, st, hS, hE, p⟩ := q
  simp only [evalE] at p
  refine tS_tR hS hE p fun F2 ρ2 H2 x vx st2 q2 e2 r p2 => ?_
  exact ⟨truthD x, ob_tru r, p2 F2 ρ2 H2 _ .refl q2 (by first | exact rv_int | exact rv_bool | exact rv_none)⟩
/-! ### tests -/
abbrev PTx (X : Cx) (cl : Nat → Value) (W : WX) (cf : CF) (c : E) (e : Expr) : Prop := PT X e (tC X.K cl W cf c)
theorem t_of {c : E} {e : Expr} (h : PEx X cl W cf c e) (he : ∀ whole, isTrue e X.env whole = (do let v ← whole; standAt e.pos; holding [v] (truthy v))) : PTx X cl W cf c e :=
  PT.imp (pt_truth h.r he) fun σ H Q q => tC_R q
/-- the test's condition, then one of two ways -/
theorem tC_bind {c : E} {σ : L2.St} {H : Hp} {F : FS} {ρ : List Addr} {env : Env} {st : Store} {α β : Type} {R : FS → List Addr → Hp → α → β → Prop} {Q : β → Hp → Prop} {k : D → Store → Res α} {G : Bool → Hp → Prop} (hS : SR F ρ X.K st H) (hE : ER F ρ X.K H env σ)
    (p : Post R cl W σ F ρ X.K H ((readD (evalE cf c env st)).bind k) Q)
    (g : ∀ (F2 : FS) (ρ2 : List Addr) (H2 : Hp) (x : D) (st2 : Store), SR F2 ρ2 X.K st2 H2 → ER F2 ρ2 X.K H2 env σ → Post R cl W σ F2 ρ2 X.K H2 (k x st2) Q → G (truthD x) H2) : tC X.K cl W cf c σ H G := by
  refine ⟨F, ρ, env, st, hS, hE, Post.bind p fun x st1 F1 ρ1 H1 b s q r p1 => ?_⟩
  cases (show b = truthD x from r)
  exact g F1 ρ1 H1 x st1 q (s.er hE) p1
theorem e_ite (x : XOk G N sc fn cl W cf X) {c a b : E} {t l r : Expr} (hc : PTx X cl W cf c t) (ha : PEx X cl W cf a l) (hb : PEx X cl W cf b r) : PEx X cl W cf (.ite c a b) (.IfExp t l r pos) := by
  refine PE.imp (pe_ifExp hc ha hb) fun σ H Q q => ?_
  obtain ⟨F, ρ, env, st, hS, hE, p⟩ := q
  simp only [evalE] at p
  refine tC_bind hS hE p fun F2 ρ2 H2 x st2 q2 e2 p2 => ?_
  cases hx : truthD x with
  | true => rw [hx] at p2; exact ⟨F2, ρ2, env, st2, q2, e2, p2⟩
  | false => rw [hx] at p2; exact ⟨F2, ρ2, env, st2, q2, e2, p2⟩
/-- a test that is read through its own value's reading -/
theorem readD_ok {r : Res RV} {x : D} {st : Store} (h : r = .ok (.t (.d x)) st) : readD r = .ok x st := by rw [h]; rfl
theorem t_cmp (x : XOk G N sc fn cl W cf X) {c : Cm} {a b : E} {l r : Expr} (ha : PEx X cl W cf a l) (hb : PEx X cl W cf b r) (hr : isSet r = false) : PTx X cl W cf (.cmp c a b) (.Compare l [c.py] [r] pos) := by
  refine PT.imp (pt_cmpR (ob_cmp x.units c) ha.s hb.s (noMark hr)) fun σ H Q q => ?_
  obtain ⟨F, ρ, env, st, hS, hE, p⟩ := q
  have p' : Post RB_ cl W σ F ρ X.K H ((settled (evalE cf a env st)).bind fun x st1 => (settled (evalE cf b env st1)).bind fun y st2 => readD (lift (((rd st2 x).bind fun x => (rd st2 y).bind fun y => cmpD c x y).map tB) st2)) Q := by
    have e : readD (evalE cf (.cmp c a b) env st) = ((settled (evalE cf a env st)).bind fun x st1 => (settled (evalE cf b env st1)).bind fun y st2 => readD (lift (((rd st2 x).bind fun x => (rd st2 y).bind fun y => cmpD c x y).map tB) st2)) := by
      simp only [evalE]
      cases settled (evalE cf a env st) with
      | ok v st1 =>
        simp only [Res.bind, readD]
        cases settled (evalE cf b env st1) <;> rfl
      | exc _ _ _ => rfl
      | stuck => rfl
    rw [← e]
    exact p
  refine tS2 hS hE p' fun F2 ρ2 H2 x y vx vy st2 q2 e2 r1 r2 p2 => ?_
  cases hk : ((rd st2 x).bind fun x => (rd st2 y).bind fun y => cmpD c x y) with
  | none => rw [hk] at p2; exact p2.elim
  | some k =>
    rw [hk] at p2
    obtain ⟨dx, e1, ek⟩ := Option.bind_eq_some_iff.mp hk
    obtain ⟨dy, e2', ek⟩ := Option.bind_eq_some_iff.mp ek
    exact ⟨F2, ρ2, st2, dx, dy, k, q2, q2.read r1 e1, q2.read r2 e2', ek, k, rfl, p2 F2 ρ2 H2 _ .refl q2 rfl⟩
end
end MP


/-! MP, part m: tests, lists of expressions, calls, items. -/
namespace MP
open PySem PySem.Spec L2
theorem readD_bind {α : Type} (r : Res α) (f : α → Store → Res RV) : readD (r.bind f) = r.bind fun a st => readD (f a st) := by
  cases r <;> rfl
section
variable {G : Gb} {N : List Str} {sc : Scope} {fn : Str → Bool} {cl : Nat → Value} {W : WX} {cf : CF} {X : Cx} {pos : Pos}
/-- a test whose value is always True or False -/
theorem tC_bool {c : E} {σ : L2.St} {H : Hp} {Q : Bool → Hp → Prop} (hb : ∀ (env : Env) (st st' : Store) (v : RV), evalE cf c env st = .ok v st' → ∃ b, v = tB b) (h : tC X.K cl W cf c σ H Q) :
    tE X.K cl W cf c σ H fun x H' => ∃ k, x = .bl k ∧ Q k H' := by
  obtain ⟨F, ρ, env, st, hS, hE, p⟩ := h
  refine ⟨F, ρ, env, st, hS, hE, ?_⟩
  cases hr : evalE cf c env st with
  | ok v st1 =>
    obtain ⟨b, rfl⟩ := hb _ _ _ _ hr
    rw [hr] at p ⊢
    intro F2 ρ2 H2 u s q r
    have e : u = .bl b := by
      have r' : RD F2 X.K H2 (.bool b) u := r
      unfold RD at r'
      exact r'
    exact ⟨b, e, p F2 ρ2 H2 b s q rfl⟩
  | exc c x st1 => rw [hr] at p ⊢; exact p
  | stuck => rw [hr] at p ⊢; exact p
theorem lift_tB {o : Option Bool} {st st' : Store} {v : RV} (h : lift (o.map tB) st = .ok v st') : ∃ b, v = tB b := by
  cases o with
  | none => cases h
  | some b => cases h; exact ⟨b, rfl⟩
theorem bind_ok {α β : Type} {r : Res α} {f : α → Store → Res β} {b : β} {st' : Store} (h : r.bind f = .ok b st') : ∃ a st, r = .ok a st ∧ f a st = .ok b st' := by
  cases r with
  | ok a st => exact ⟨a, st, rfl, h⟩
  | exc _ _ _ => cases h
  | stuck => cases h
theorem chain_bool {c c' : Cm} {a b e : E} {env : Env} {st st' : Store} {v : RV} (h : evalE cf (.chain c c' a b e) env st = .ok v st') : ∃ k, v = tB k := by
  simp only [evalE] at h
  obtain ⟨x, s1, _, h⟩ := bind_ok h
  obtain ⟨y, s2, _, h⟩ := bind_ok h
  obtain ⟨k, s3, _, h⟩ := bind_ok h
  cases k with
  | false => cases h; exact ⟨false, rfl⟩
  | true =>
    obtain ⟨z, s4, _, h⟩ := bind_ok h
    exact lift_tB h
theorem t_chain (x : XOk G N sc fn cl W cf X) {c c' : Cm} {a b e : E} {l r r' : Expr} (ha : PEx X cl W cf a l) (hb : PEx X cl W cf b r) (he : PEx X cl W cf e r') (h1 : isSet r = false) (h2 : isSet r' = false) :
    PTx X cl W cf (.chain c c' a b e) (.Compare l [c.py, c'.py] [r, r'] pos) :=
  PT.imp (pt_chain (ob_cmp x.units c) (ob_cmp x.units c') ha.s hb.s he.s (noMark h2)) fun σ H Q q => chain_imp (tC_bool (fun _ _ _ _ => chain_bool) q)
theorem tand_imp {a b : E} {σ : L2.St} {H : Hp} {Q : Bool → Hp → Prop} (q : tC X.K cl W cf (.and a b) σ H Q) : tAnd (tC X.K cl W cf a) (tC X.K cl W cf b) σ H Q := by
  obtain ⟨F, ρ, env, st, hS, hE, p⟩ := q
  simp only [evalE, readD_bind] at p
  refine tC_bind hS hE p fun F2 ρ2 H2 x st2 q2 e2 p2 => ?_
  cases x with
  | bool k =>
    cases k with
    | true => exact ⟨F2, ρ2, env, st2, q2, e2, p2⟩
    | false => exact p2 F2 ρ2 H2 _ .refl q2 rfl
  | _ => exact p2.elim
theorem tor_imp {a b : E} {σ : L2.St} {H : Hp} {Q : Bool → Hp → Prop} (q : tC X.K cl W cf (.or a b) σ H Q) : tOr (tC X.K cl W cf a) (tC X.K cl W cf b) σ H Q := by
  obtain ⟨F, ρ, env, st, hS, hE, p⟩ := q
  simp only [evalE, readD_bind] at p
  refine tC_bind hS hE p fun F2 ρ2 H2 x st2 q2 e2 p2 => ?_
  cases x with
  | bool k =>
    cases k with
    | false => exact ⟨F2, ρ2, env, st2, q2, e2, p2⟩
    | true => exact p2 F2 ρ2 H2 _ .refl q2 rfl
  | _ => exact p2.elim
theorem pw_of {op : BoolOp} {vs : List Expr} {t : TT} (h : PT X (.BoolOp op vs pos) t) : PW X (.BoolOp op vs pos) t := ⟨fun _ pins s σ H Q I q => h.run pins s σ H Q I q⟩
theorem t_and2 (x : XOk G N sc fn cl W cf X) {a b : E} {l r : Expr} (ha : PTx X cl W cf a l) (hb : PTx X cl W cf b r) : PTx X cl W cf (.and a b) (.BoolOp .And [l, r] pos) :=
  PT.imp (PW.pt (pw_and ha (pw_and1 hb))) fun σ H Q q => tand_imp q
theorem t_and (x : XOk G N sc fn cl W cf X) {a b : E} {l r : Expr} {rs : List Expr} (ha : PTx X cl W cf a l) (hb : PTx X cl W cf b (.BoolOp .And (r :: rs) pos)) : PTx X cl W cf (.and a b) (.BoolOp .And (l :: r :: rs) pos) :=
  PT.imp (PW.pt (pw_and ha (pw_of hb))) fun σ H Q q => tand_imp q
theorem t_or2 (x : XOk G N sc fn cl W cf X) {a b : E} {l r : Expr} (ha : PTx X cl W cf a l) (hb : PTx X cl W cf b r) : PTx X cl W cf (.or a b) (.BoolOp .Or [l, r] pos) :=
  PT.imp (PW.pt (pw_or ha (pw_or1 hb))) fun σ H Q q => tor_imp q
theorem t_or (x : XOk G N sc fn cl W cf X) {a b : E} {l r : Expr} {rs : List Expr} (ha : PTx X cl W cf a l) (hb : PTx X cl W cf b (.BoolOp .Or (r :: rs) pos)) : PTx X cl W cf (.or a b) (.BoolOp .Or (l :: r :: rs) pos) :=
  PT.imp (PW.pt (pw_or ha (pw_of hb))) fun σ H Q q => tor_imp q
theorem t_not (x : XOk G N sc fn cl W cf X) {a : E} {l : Expr} (ha : PTx X cl W cf a l) : PTx X cl W cf (.not a) (.UnaryOp .Not l pos) := by
  refine PT.imp (pt_not ha) fun σ H Q q => ?_
  obtain ⟨F, ρ, env, st, hS, hE, p⟩ := q
  simp only [evalE, readD_bind] at p
  refine tC_bind hS hE p fun F2 ρ2 H2 x st2 q2 e2 p2 => ?_
  exact p2 F2 ρ2 H2 _ .refl q2 rfl
theorem pt_ifE {c a b : Expr} {tc ta tb : TT} (hc : PT X c tc) (ha : PT X a ta) (hb : PT X b tb) : PT X (.IfExp c a b pos) (fun σ H Q => tc σ H fun k H1 => if k = true then ta σ H1 Q else tb σ H1 Q) := by
  refine ⟨fun pins s σ H Q I h => ?_⟩
  rw [PySem.isTrue]
  refine wpAny_bind (thn (hc.run pins s σ H _ I h) fun d s1 ⟨H1, I1, q1⟩ => ?_)
  cases d with
  | true => exact ha.run pins s1 σ H1 Q I1 q1
  | false => exact hb.run pins s1 σ H1 Q I1 q1
theorem t_ite (x : XOk G N sc fn cl W cf X) {c a b : E} {t l r : Expr} (hc : PTx X cl W cf c t) (ha : PTx X cl W cf a l) (hb : PTx X cl W cf b r) : PTx X cl W cf (.ite c a b) (.IfExp t l r pos) := by
  refine PT.imp (pt_ifE hc ha hb) fun σ H Q q => ?_
  obtain ⟨F, ρ, env, st, hS, hE, p⟩ := q
  simp only [evalE, readD_bind] at p
  refine tC_bind hS hE p fun F2 ρ2 H2 x st2 q2 e2 p2 => ?_
  cases hx : truthD x with
  | true => rw [hx] at p2; exact ⟨F2, ρ2, env, st2, q2, e2, p2⟩
  | false => rw [hx] at p2; exact ⟨F2, ρ2, env, st2, q2, e2, p2⟩
/-! ### argument lists -/
theorem a_nil : PA X [] (tTs X.K cl W cf []) := by
  refine PA.imp pa_nil fun σ H Q q => ?_
  obtain ⟨F, ρ, env, st, hS, hE, p⟩ := q
  simp only [evalTs] at p
  exact p F ρ H [] .refl hS rfl
theorem Stp.trs {F F' : FS} {ρ ρ' : List Addr} {K : Fg} {H H' : Hp} (s : Stp F ρ H F' ρ' H') : ∀ {xs : List T} {vs : List V}, TRs F ρ K H xs vs → TRs F' ρ' K H' xs vs
  | [], _, h => h
  | x :: xs, _, h => by
    obtain ⟨v, r, e, h1, h2⟩ := h
    exact ⟨v, r, e, s.tr h1, Stp.trs s h2⟩
theorem a_cons {c : E} {cs : List E} {e : Expr} {es : List Expr} (h1 : PEx X cl W cf c e) (h2 : PA X es (tTs X.K cl W cf cs)) (hn : notStar e = true) : PA X (e :: es) (tTs X.K cl W cf (c :: cs)) := by
  refine PA.imp (pa_cons h1.s h2 (star_ok hn)) fun σ H Q q => ?_
  obtain ⟨F, ρ, env, st, hS, hE, p⟩ := q
  simp only [evalTs] at p
  refine ⟨F, ρ, env, st, hS, hE, Post.bind p fun x st1 F1 ρ1 H1 v s1 q1 r1 p1 => ?_⟩
  refine ⟨F1, ρ1, env, st1, q1, s1.er hE, Post.bind p1 fun xs st2 F2 ρ2 H2 vs s2 q2 r2 p2 => ?_⟩
  exact p2 F2 ρ2 H2 _ .refl q2 ⟨v, vs, rfl, s2.tr r1, r2⟩
theorem d_nil : PA X [] (tDs X.K cl W cf []) := by
  refine PA.imp pa_nil fun σ H Q q => ?_
  obtain ⟨F, ρ, env, st, hS, hE, p⟩ := q
  simp only [evalDs] at p
  exact p F ρ H [] .refl hS .nil
theorem d_cons {c : E} {cs : List E} {e : Expr} {es : List Expr} (h1 : PEx X cl W cf c e) (h2 : PA X es (tDs X.K cl W cf cs)) (hn : notStar e = true) : PA X (e :: es) (tDs X.K cl W cf (c :: cs)) := by
  refine PA.imp (pa_cons h1.s h2 (star_ok hn)) fun σ H Q q => ?_
  obtain ⟨F, ρ, env, st, hS, hE, p⟩ := q
  simp only [evalDs] at p
  refine ⟨F, ρ, env, st, hS, hE, Post.bind p fun x st1 F1 ρ1 H1 v s1 q1 r1 p1 => ?_⟩
  cases x with
  | ref n => exact p1.elim
  | d x =>
    refine ⟨F1, ρ1, env, st1, q1, s1.er hE, Post.bind (show Post _ cl W σ F1 ρ1 X.K H1 ((evalDs cf cs env st1).bind fun vs st2 => .ok (x :: vs) st2) _ from p1) fun xs st2 F2 ρ2 H2 vs s2 q2 r2 p2 => ?_⟩
    exact p2 F2 ρ2 H2 _ .refl q2 (.cons (s2.rd r1) r2)
theorem evalDs_len : ∀ {cs : List E} {env : Env} {st st' : Store} {xs : List D}, evalDs cf cs env st = .ok xs st' → xs.length = cs.length
  | [], env, st, st', xs, h => by simp only [evalDs] at h; cases h; rfl
  | c :: cs, env, st, st', xs, h => by
    simp only [evalDs] at h
    obtain ⟨_, _, _, h⟩ := bind_ok h
    obtain ⟨_, _, _, h⟩ := bind_ok h
    obtain ⟨ys, s2, h1, h⟩ := bind_ok h
    cases h
    simp [evalDs_len h1]
theorem e_tup (x : XOk G N sc fn cl W cf X) {es : List E} {xs : List Expr} {k : Nat} (h : PA X xs (tDs X.K cl W cf es)) (hl : es.length ≤ big) : PEx X cl W cf (.tup es) (.Tuple xs k pos) := by
  refine PE.imp (pe_tup h) fun σ H Q q => ?_
  obtain ⟨F, ρ, env, st, hS, hE, p⟩ := q
  simp only [evalE] at p
  refine ⟨F, ρ, env, st, hS, hE, ?_⟩
  cases hr : evalDs cf es env st with
  | ok ds st1 =>
    rw [hr] at p ⊢
    intro F1 ρ1 H1 vs s1 q1 r1
    have hlen : ds.length ≤ big := by rw [evalDs_len hr]; exact hl
    refine ⟨by rw [← r1.length, ← big_size]; exact hlen, fun a ha => ?_⟩
    obtain ⟨F2, s2, q2, r2⟩ := q1.newT ha hlen r1
    exact p F2 ρ1 _ _ (s1.trans s2) q2 r2
  | exc c x st1 => rw [hr] at p ⊢; exact p
  | stuck => rw [hr] at p ⊢; exact p
theorem e_lst (x : XOk G N sc fn cl W cf X) {es : List E} {xs : List Expr} (h : PA X xs (tDs X.K cl W cf es)) (hl : es.length ≤ big) : PEx X cl W cf (.lst es) (.List xs pos) := by
  refine PE.imp (pe_lst h) fun σ H Q q => ?_
  obtain ⟨F, ρ, env, st, hS, hE, p⟩ := q
  simp only [evalE] at p
  refine ⟨F, ρ, env, st, hS, hE, ?_⟩
  cases hr : evalDs cf es env st with
  | ok ds st1 =>
    rw [hr] at p ⊢
    intro F1 ρ1 H1 vs s1 q1 r1
    have hlen : ds.length ≤ big := by rw [evalDs_len hr]; exact hl
    refine ⟨by rw [← r1.length, ← big_size]; exact hlen, fun a ha => ?_⟩
    obtain ⟨s2, q2, r2⟩ := q1.newL ha hlen r1
    exact p F1 ρ1 _ _ (s1.trans s2) q2 r2
  | exc c x st1 => rw [hr] at p ⊢; exact p
  | stuck => rw [hr] at p ⊢; exact p
theorem e_dct0 (x : XOk G N sc fn cl W cf X) : PEx X cl W cf (.dct [] []) (.Dict [] [] pos) := by
  refine PE.imp pe_dnewK fun σ H Q q => ?_
  obtain ⟨F, ρ, env, st, hS, hE, p⟩ := q
  simp only [evalE, evalDs, Res.bind] at p
  rw [if_pos (by simp; decide)] at p
  intro d hd
  obtain ⟨F', s2, q2, f2⟩ := hS.newF (o := .dK []) hd
  refine p F' ρ _ _ s2 q2 ?_
  unfold RV_ RVR TR RD
  exact ⟨d, [], rfl, f2, upd_same, Nat.zero_le _, by unfold RDk; rfl⟩
end
end MP


/-! MP, part n: calls, items, slices, methods. -/
namespace MP
open PySem PySem.Spec L2
section
variable {G : Gb} {N : List Str} {sc : Scope} {fn : Str → Bool} {cl : Nat → Value} {W : WX} {cf : CF} {X : Cx} {pos : Pos}
theorem Post.wish {α β : Type} {R : FS → List Addr → Hp → α → β → Prop} {σ : L2.St} {F : FS} {ρ : List Addr} {K : Fg} {H : Hp} {r : Res α} {Q : β → Hp → Prop} (h : Post R cl W σ F ρ K H r Q) : Post R cl (fun c d _ H => W c d σ H) [] F ρ K H r Q := by
  cases r with
  | ok a st => exact h
  | exc c x st => exact h
  | stuck => exact h
theorem e_call (x : XOk G N sc fn cl W cf X) {f : Nat} {nm : Str} {es : List E} {y : Expr} {ys : List Expr} {p : Pos} (hf : G.fns[f]? = some nm) (hg : gl sc nm = true) (hp : plainName nm = true) (ha : PA X (y :: ys) (tTs X.K cl W cf es)) (hs : okEs G N es sc (y :: ys) = true) :
    PEx X cl W cf (.call f es) (.Call (.Name nm p) (y :: ys) [] pos) := by
  refine ⟨fun pins s σ H Q I h => ?_⟩
  obtain ⟨k, fa, fd, ps, hm, hk, FG, hr, hb⟩ := x.calls f nm hf
  have h' : tTs X.K cl W cf es σ H fun vs H1 => spF X.K cl cf f vs H1 Q fun c d H => W c d σ H := by
    obtain ⟨F, ρ, env, st, hS, hE, p⟩ := h
    simp only [evalE] at p
    exact ⟨F, ρ, env, st, hS, hE, Post.bind p fun xs st1 F1 ρ1 H1 vs s1 q1 r1 p1 => ⟨F1, ρ1, st1, xs, q1, r1, p1.wish⟩⟩
  cases es with
  | nil => simp [okEs] at hs
  | cons c cs =>
    simp only [okEs, Bool.and_eq_true] at hs
    have hst := hs.1.2
    obtain ⟨hp1, _⟩ := stars_ok (env := X.env) (pos := pos) hs.2
    refine wpAny_Call_Name_kw (ld_glob I (gl_ok x hg) hm ?_ (plain_ok hp).1)
    refine PySem.W.callWith_K (h₀ := X.base) I.ok.mod.kin hk (thn (ha.run pos pins s σ H _ I h') fun us s1 ⟨vs, H1, I1, r, q⟩ => ⟨I1.kIn, ?_⟩) (star_ok hst) hp1
    have hl : us.length = ps.length := by rw [← r.length]; exact FG.len _ _ _ _ q
    have hbb := hb s1 us I1.kIn (by rw [List.append_nil]; exact hl)
    rw [List.append_nil] at hbb
    refine wpAny_call (codeAny_mono (FG.run X.A X.stack s1 H1 ⟨us, []⟩ us vs Q _ hr x.guards I1.env0 hbb r q) fun rr s' hq => ?_)
    cases rr with
    | error e => exact x.takes e s' (XE.of_call I1 (fun cls d H' h => h) hq)
    | ok fl =>
      cases fl with
      | ret u => exact I1.after hq
      | next => exact hq.elim
      | brk => exact hq.elim
      | cont => exact hq.elim
theorem SR.readsT {F : FS} {ρ : List Addr} {K : Fg} {st : Store} {H : Hp} (s : SR F ρ K st H) : ∀ {xs : List T} {ds : List D} {vs : List V}, TRs F ρ K H xs vs → xs.mapM (rd st) = some ds → RXs F K H ds vs
  | [], ds, vs, h, e => by
    simp at e
    subst e
    exact h
  | x :: xs, ds, vs, h, e => by
    obtain ⟨v, r, rfl, h1, h2⟩ := h
    rw [List.mapM_cons] at e
    obtain ⟨d, e1, e⟩ := Option.bind_eq_some_iff.mp e
    obtain ⟨es, e2, e⟩ := Option.bind_eq_some_iff.mp e
    cases e
    exact ⟨v, r, rfl, s.read h1 e1, SR.readsT s h2 e2⟩
theorem prim_imp {p : Prim} {es : List E} {σ : L2.St} {H : Hp} {Q : VK} (h : tE X.K cl W cf (.prim p es) σ H Q) : tCB (rPrim X.K p) (tTs X.K cl W cf es) σ H Q := by
  obtain ⟨F, ρ, env, st, hS, hE, pp⟩ := h
  simp only [evalE] at pp
  refine ⟨F, ρ, env, st, hS, hE, Post.bind pp fun xs st1 F1 ρ1 H1 vs s1 q1 r1 p1 => ?_⟩
  obtain ⟨v, e, p2⟩ := Post.lift p1
  obtain ⟨ds, e1, e2⟩ := Option.bind_eq_some_iff.mp e
  exact ⟨F1, ρ1, st1, ds, v, q1, q1.readsT r1 e1, e2, p2⟩
theorem e_prim (x : XOk G N sc fn cl W cf X) {p : Prim} {es : List E} {y : Expr} {ys : List Expr} {pn : Pos} (hg : gl sc p.py = true) (hf : p.py ∈ G.free) (hp : plainName p.py = true) (ha : PA X (y :: ys) (tTs X.K cl W cf es)) (hs : okEs G N es sc (y :: ys) = true) :
    PEx X cl W cf (.prim p es) (.Call (.Name p.py pn) (y :: ys) [] pos) := by
  have R := ob_prim x.calm x.guards x.units p
  have hv := Prim.boot p
  obtain ⟨p1, p2, p3⟩ := plain_ok hp
  cases es with
  | nil => simp [okEs] at hs
  | cons c cs =>
    simp only [okEs, Bool.and_eq_true] at hs
    have hst := star_ok (es := ys) (env := X.env) hs.1.2
    obtain ⟨hp1, _⟩ := stars_ok (env := X.env) (pos := pos) hs.2
    cases hval : p.val with
    | builtin id =>
      rw [hval] at R hv
      exact PE.imp (pe_callB R (gl_ok x hg) (x.free _ hf) hv ha p3 p1 hst hp1) fun σ H Q h => prim_imp h
    | type T =>
      rw [hval] at R hv
      exact PE.imp (pe_callTy R (gl_ok x hg) (x.free _ hf) hv ha p3 p1 hst hp1) fun σ H Q h => prim_imp h
    | _ => cases p <;> simp [Prim.val] at hval
theorem Ty.boot (t : Ty) : bootBuiltins (t.py : String) = some (.type t.py) := by cases t <;> decide +kernel
theorem e_isi (x : XOk G N sc fn cl W cf X) {a : E} {t : Ty} {y : Expr} {pn pz : Pos} (hg : gl sc "isinstance" = true) (hf : ("isinstance" : Str) ∈ G.free) (hg' : gl sc (t.py : String) = true) (hf' : ((t.py : String) : Str) ∈ G.free) (ha : PEx X cl W cf a y) (hs : notStar y = true) :
    PEx X cl W cf (.isi a t) (.Call (.Name "isinstance" pn) [y, .Name (t.py : String) pz] [] pos) := by
  have pz : PE X (.Name (t.py : String) pz) (L2.tC (.ty t.py)) := pe_bltn (gl_ok x hg') (x.free _ hf') (Ty.boot t) rfl (by cases t <;> decide) (by cases t <;> decide)
  refine PE.imp (pe_callB (ob_isi t) (gl_ok x hg) (x.free _ hf) (by decide +kernel) (pa_cons ha.r (pa_cons pz pa_nil) (star_ok hs)) (by decide) (by decide) (star_ok hs) rfl) fun σ H Q q => ?_
  obtain ⟨F, ρ, env, st, hS, hE, p⟩ := q
  simp only [evalE] at p
  refine tS_tR hS hE p fun F2 ρ2 H2 d vx st2 q2 e2 r p2 => ?_
  exact ⟨F2, d, vx, rfl, r, p2 F2 ρ2 H2 _ .refl q2 rv_bool⟩
theorem e_ix (x : XOk G N sc fn cl W cf X) {a i : E} {v s : Expr} (ha : PEx X cl W cf a v) (hi : PEx X cl W cf i s) (hs : isSlice s = false) : PEx X cl W cf (.ix a i) (.Subscript v s pos) := by
  refine PE.imp (pe_ix ob_ix ha.s hi.s (plainIx_ok hs)) fun σ H Q q => ?_
  obtain ⟨F, ρ, env, st, hS, hE, p⟩ := q
  simp only [evalE] at p
  refine tS2 hS hE p fun F2 ρ2 H2 x y vx vy st2 q2 e2 r1 r2 p2 => ?_
  obtain ⟨v, e, p3⟩ := Post.lift p2
  obtain ⟨dz, e', rfl⟩ := Option.map_eq_some_iff.mp e
  clear e
  obtain ⟨dx, e1, e3⟩ := Option.bind_eq_some_iff.mp e'
  obtain ⟨dy, e4, e5⟩ := Option.bind_eq_some_iff.mp e3
  exact ⟨F2, ρ2, st2, dx, dy, dz, q2, q2.read r1 e1, q2.read r2 e4, e5, p3⟩
abbrev RO_ : FS → List Addr → Hp → Option Int → Option Int → Prop := fun _ _ _ o o' => o' = o
def tO (K : Fg) (cl : Nat → Value) (W : WX) (cf : CF) (c : E) : TO := fun σ H Q => Sta K σ H fun F ρ env st => Post RO_ cl W σ F ρ K H (evalO cf c env st) Q
theorem o_none : PO X none (tO X.K cl W cf .hole) := by
  have h := po_none (X := X)
  refine ⟨fun pins s σ H Q I q => h.run pins s σ H Q I ?_⟩
  obtain ⟨F, ρ, env, st, hS, hE, p⟩ := q
  simp only [evalO] at p
  exact p F ρ H none .refl hS rfl
theorem evalO_eq {c : E} {env : Env} {st : Store} (hc : c ≠ .hole) : evalO cf c env st = (readD (evalE cf c env st)).bind fun x st1 => match x with
    | .int i => .ok (some i) st1
    | _ => .stuck := by
  cases c <;> first | (exact absurd rfl hc) | (simp only [evalO]; done) | (simp only [evalO]; congr 1)
theorem o_some {c : E} {e : Expr} (h1 : PEx X cl W cf c e) (hc : c ≠ .hole) : PO X (some e) (tO X.K cl W cf c) := by
  have h := po_some h1.r
  refine ⟨fun pins s σ H Q I q => h.run pins s σ H Q I ?_⟩
  obtain ⟨F, ρ, env, st, hS, hE, p⟩ := q
  rw [evalO_eq hc] at p
  refine tS_tR hS hE p fun F2 ρ2 H2 d vx st2 q2 e2 r p2 => ?_
  cases d with
  | int i => exact ⟨i, r.int_iff, p2 F2 ρ2 H2 _ .refl q2 rfl⟩
  | _ => exact p2.elim
theorem e_sl (x : XOk G N sc fn cl W cf X) {a lo hi : E} {v : Expr} {l h : Option Expr} {p2 : Pos} (ha : PEx X cl W cf a v) (hl : PO X l (tO X.K cl W cf lo)) (hh : PO X h (tO X.K cl W cf hi)) : PEx X cl W cf (.sl a lo hi) (.Subscript v (.Slice l h none p2) pos) := by
  refine PE.imp (pe_slice ob_sl ha.s hl hh) fun σ H Q q => ?_
  obtain ⟨F, ρ, env, st, hS, hE, p⟩ := q
  simp only [evalE] at p
  refine ⟨F, ρ, env, st, hS, hE, Post.bind p fun t st1 F1 ρ1 H1 vx s1 q1 r1 p1 => ?_⟩
  refine ⟨F1, ρ1, env, st1, q1, s1.er hE, Post.bind p1 fun o st2 F2 ρ2 H2 o' s2 q2 r2 p2 => ?_⟩
  cases (show o' = o from r2)
  refine ⟨F2, ρ2, env, st2, q2, s2.er (s1.er hE), Post.bind p2 fun o1 st3 F3 ρ3 H3 o1' s3 q3 r3 p3 => ?_⟩
  cases (show o1' = o1 from r3)
  obtain ⟨rv, e, p4⟩ := Post.lift p3
  obtain ⟨dx, e1, e2⟩ := Option.bind_eq_some_iff.mp e
  exact ⟨F3, ρ3, st3, dx, rv, q3, q3.read (s3.tr (s2.tr r1)) e1, e2, p4⟩
theorem e_meth (x : XOk G N sc fn cl W cf X) {m : Meth} {o : E} {es : List E} {v : Expr} {xs : List Expr} {apos : Pos} (ho : PEx X cl W cf o v) (ha : PA X xs (tDs X.K cl W cf es)) (hv : isCall0 v = false) (hline : (apos.endLine == pos.line) = true) (hlen : xs.length < 20)
    (hs : okEs G N es sc xs = true) : PEx X cl W cf (.meth m o es) (.Call (.Attribute v m.nm apos) xs [] pos) := by
  have core : ∀ {σ : L2.St} {H : Hp} {Q : VK}, tE X.K cl W cf (.meth m o es) σ H Q → tS X.K cl W cf o σ H fun x H1 => tyV X.K "list" x H1 ∧ tDs X.K cl W cf es σ H1 fun vs H2 => rMeth X.K m x vs H2 Q := by
    intro σ H Q q
    obtain ⟨F, ρ, env, st, hS, hE, p⟩ := q
    simp only [evalE] at p
    refine ⟨F, ρ, env, st, hS, hE, Post.bind p fun t st1 F1 ρ1 H1 vx s1 q1 r1 p1 => ?_⟩
    cases t with
    | d y => exact p1.elim
    | ref n =>
      obtain ⟨a, hn, rfl⟩ := r1
      cases hc : st1[n]? with
      | none => simp only [hc] at p1; exact p1.elim
      | some cc =>
        cases cc with
        | dead => simp only [hc] at p1; exact p1.elim
        | lst zs =>
          simp only [hc] at p1
          obtain ⟨ws, g1, _⟩ := q1.cells n _ a hc hn
          refine ⟨.inl ⟨rfl, ws, SqL.of g1⟩, F1, ρ1, env, st1, q1, s1.er hE, Post.bind p1 fun ys st2 F2 ρ2 H2 vs s2 q2 r2 p2 => ?_⟩
          cases hc2 : st2[n]? with
          | none => simp only [hc2] at p2; exact p2.elim
          | some c2 =>
            cases c2 with
            | dead => simp only [hc2] at p2; exact p2.elim
            | lst zs2 =>
              simp only [hc2] at p2
              cases hm : methD m zs2 ys with
              | none => simp only [hm] at p2; exact p2.elim
              | some r =>
                obtain ⟨w, zs3⟩ := r
                simp only [hm] at p2
                exact ⟨F2, ρ2, st2, n, a, zs2, ys, w, zs3, q2, s2.get hn, rfl, hc2, r2, hm, p2⟩
  cases xs with
  | nil =>
    cases es with
    | cons => simp [okEs] at hs
    | nil =>
      refine PE.imp (pe_bm0 PySem.F.plainAttrs_list (Meth.slot m) (Meth.ty m) (ob_meth m) ho.s (base_ok hv) hline) fun σ H Q q => ?_
      obtain ⟨F, ρ, env, st, hS, hE, p⟩ := core q
      refine ⟨F, ρ, env, st, hS, hE, Post.map p fun t st1 F1 ρ1 H1 vx er s1 q1 r1 => ?_⟩
      rw [er] at p
      obtain ⟨h1, F2, ρ2, env2, st2, q2, e2, p2⟩ := p F1 ρ1 H1 vx s1 q1 r1
      simp only [evalDs] at p2
      exact ⟨h1, p2 F2 ρ2 H1 [] .refl q2 .nil⟩
  | cons y ys =>
    obtain ⟨hp1, hp2⟩ := stars_ok (env := X.env) (pos := pos) hs
    cases es with
    | nil => simp [okEs] at hs
    | cons c cs =>
      simp only [okEs, Bool.and_eq_true] at hs
      obtain ⟨hp3, _⟩ := stars_ok (env := X.env) (pos := pos) hs.2
      refine PE.imp (pe_bm PySem.F.plainAttrs_list (Meth.slot m) (Meth.ty m) (ob_meth m) ho.s ha (base_ok hv) ?_ hline (star_ok hs.1.2) hp3) fun σ H Q q => core q
      rw [hp2]
      have hl : decide ((y :: ys).length + ([] : List Keyword).length + (if ([] : List Keyword).isEmpty then 0 else 1) < 30) = true := by
        apply decide_eq_true
        simp only [List.length_nil, List.isEmpty_nil, if_true]
        omega
      rw [hl]
      rfl
end
end MP


/-! MP, part o: targets, what is walked. -/
namespace MP
open PySem PySem.Spec L2
/-- the slots outside vs are as they were -/
def Out (vs : List Nat) (σ σ' : L2.St) : Prop := σ'.length = σ.length ∧ ∀ i, i ∉ vs → σ'[i]? = σ[i]?
def tP (K : Fg) (p : Pat) : TG := fun v σ H Q => ∃ F ρ env st x env', SR F ρ K st H ∧ ER F ρ K H env σ ∧ TR F ρ K H x v ∧ bindP st p x env = some env' ∧ ∀ σ', ER F ρ K H env' σ' → Out (patVars p) σ σ' → Q σ' H
def tPs (K : Fg) (ps : List Pat) : TGs := fun vs σ H Q => ∃ F ρ env st xs env', SR F ρ K st H ∧ ER F ρ K H env σ ∧ RDs F K H xs vs ∧ bindPs st ps xs env = some env' ∧ ∀ σ', ER F ρ K H env' σ' → Out (patsVars ps) σ σ' → Q σ' H
theorem patVars_tp (ps : List Pat) : patVars (.tp ps) = patsVars ps := by rw [patVars]
theorem Out.refl {vs : List Nat} {σ : L2.St} : Out vs σ σ := ⟨rfl, fun _ _ => rfl⟩
theorem ER.set {F : FS} {ρ : List Addr} {K : Fg} {H : Hp} {env : Env} {σ : L2.St} {i : Nat} {x : T} {v : V} (h : ER F ρ K H env σ) (r : TR F ρ K H x v) : ER F ρ K H (env.set i (some x)) (σ.set i (some v)) := by
  refine ⟨by simp [h.1], fun j t e => ?_⟩
  by_cases hj : i = j
  · subst hj
    by_cases hi : i < env.length
    · rw [List.getElem?_set_self hi] at e
      cases e
      exact ⟨v, by rw [List.getElem?_set_self (by rw [← h.1]; exact hi)], r⟩
    · rw [List.getElem?_eq_none (by simpa using hi)] at e
      cases e
  · rw [List.getElem?_set_ne hj] at e
    obtain ⟨u, e1, e2⟩ := h.2 j t e
    exact ⟨u, by rw [List.getElem?_set_ne hj]; exact e1, e2⟩
theorem bindPs_len {st : Store} : ∀ {ps : List Pat} {xs : List D} {env env' : Env}, bindPs st ps xs env = some env' → ps.length = xs.length
  | [], [], _, _, _ => rfl
  | [], _ :: _, _, _, h => by simp [bindPs] at h
  | _ :: _, [], _, _, h => by simp [bindPs] at h
  | p :: ps, x :: xs, env, env', h => by
    simp only [bindPs] at h
    obtain ⟨e1, _, h2⟩ := Option.bind_eq_some_iff.mp h
    simp [bindPs_len h2]
theorem asg_star {e : Expr} {es : List Expr} {env : PySem.Env} (h : notStar e = true) : assignEach (e :: es) env = (false, assign e env) :: assignEach es env := by
  cases e <;> first | rfl | cases h
section
variable {G : Gb} {N : List Str} {sc : Scope} {fn : Str → Bool} {cl : Nat → Value} {W : WX} {cf : CF} {X : Cx} {pos : Pos}
theorem asgs_ok : ∀ {ps : List Pat} {es : List Expr} {env : PySem.Env}, okPs N sc fn ps es = true → (assignEach es env).length = ps.length ∧ (assignEach es env).findIdx? (·.1) = none
  | [], [], _, _ => ⟨rfl, rfl⟩
  | [], _ :: _, _, h => by simp [okPs] at h
  | _ :: _, [], _, h => by simp [okPs] at h
  | p :: ps, e :: es, env, h => by
    simp only [okPs, Bool.and_eq_true] at h
    obtain ⟨h1, h2⟩ := asgs_ok (env := env) h.2
    rw [asg_star h.1.1]
    refine ⟨by simp [h1], ?_⟩
    rw [List.findIdx?_cons, h2]
    rfl
mutual
theorem g_pat (x : XOk G N sc fn cl W cf X) : ∀ (p : Pat) (e : Expr), okP N sc fn p e = true → PG X e (tP X.K p)
  | .nm i, e, h => by
    cases e with
    | Name y q =>
      simp only [okP, Bool.and_eq_true, decide_eq_true_eq] at h
      obtain ⟨l1, l2⟩ := loc_ok x h.2
      have g := pg_name (X := X) (pos := q) (i := i) (by rw [x.hN]; exact x.nd) (by rw [x.hN]; exact h.1) l1 l2
      refine ⟨fun pins s σ H v u Q I r q => g.run pins s σ H v u Q I r ?_⟩
      obtain ⟨F, ρ, env, st, t, env', hS, hE, hT, e, k⟩ := q
      simp only [bindP] at e
      cases e
      refine k _ (hE.set hT) ⟨by simp, fun j hj => ?_⟩
      rw [patVars] at hj
      rw [List.getElem?_set_ne (by rintro rfl; exact hj (by simp))]
    | _ => simp [okP] at h
  | .tp ps, e, h => by
    cases e with
    | Tuple es k q =>
      simp only [okP] at h
      obtain ⟨h1, h2⟩ := asgs_ok (env := X.env) h
      have g := pg_tup (X := X) (k := k) (pos := q) x.calm (g_pats x ps es h) h1 h2
      refine ⟨fun pins s σ H v u Q I r q => g.run pins s σ H v u Q I r ?_⟩
      obtain ⟨F, ρ, env, st, t, env', hS, hE, hT, e, kk⟩ := q
      cases t with
      | ref n => simp [bindP] at e
      | d dv =>
        cases dv with
        | tuple xs =>
          simp only [bindP] at e
          have hT' : RD F X.K H (.tuple xs) v := hT
          unfold RD at hT'
          obtain ⟨a, vs, rfl, g1, g2, g3⟩ := hT'
          refine ⟨a, vs, rfl, g1.sq, by rw [← g3.length, bindPs_len e], F, ρ, env, st, xs, env', hS, hE, g3, e, fun σ' e1 e2 => kk σ' e1 ?_⟩
          rw [patVars_tp]
          exact e2
        | _ => simp [bindP] at e
    | _ => simp [okP] at h
theorem g_pats (x : XOk G N sc fn cl W cf X) : ∀ (ps : List Pat) (es : List Expr), okPs N sc fn ps es = true → PGs X es (tPs X.K ps)
  | [], [], h => by
    have g := pgs_nil (X := X)
    refine ⟨fun pins s σ H vs us Q I r q => g.run pins s σ H vs us Q I r ?_⟩
    obtain ⟨F, ρ, env, st, xs, env', hS, hE, hR, e, k⟩ := q
    cases xs with
    | nil =>
      simp only [bindPs] at e
      cases e
      unfold RDs at hR
      exact ⟨hR, k σ hE .refl⟩
    | cons => simp [bindPs] at e
  | [], _ :: _, h => by simp [okPs] at h
  | _ :: _, [], h => by simp [okPs] at h
  | p :: ps, e :: es, h => by
    simp only [okPs, Bool.and_eq_true] at h
    have g := pgs_cons (X := X) (g_pat x p e h.1.2) (g_pats x ps es h.2) (by rw [asg_star h.1.1]; rfl)
    refine ⟨fun pins s σ H vs us Q I r q => g.run pins s σ H vs us Q I r ?_⟩
    obtain ⟨F, ρ, env, st, xs, env', hS, hE, hR, e, k⟩ := q
    cases xs with
    | nil => simp [bindPs] at e
    | cons y ys =>
      simp only [bindPs] at e
      obtain ⟨env1, e1, e2⟩ := Option.bind_eq_some_iff.mp e
      unfold RDs at hR
      obtain ⟨v, r', rfl, r1, r2⟩ := hR
      refine ⟨v, r', rfl, F, ρ, env, st, .d y, env1, hS, hE, r1, e1, fun σ1 g1 g2 => ?_⟩
      refine ⟨F, ρ, env1, st, ys, env', hS, g1, r2, e2, fun σ2 k1 k2 => k σ2 k1 ?_⟩
      refine ⟨k2.1.trans g2.1, fun i hi => ?_⟩
      rw [patsVars, List.mem_append, not_or] at hi
      exact (k2.2 i hi.2).trans (g2.2 i hi.1)
end
/-! ### what is walked -/
/-- what is read in F at H is read in F' at H' -/
def Lat (F : FS) (ρ : List Addr) (H : Hp) (F' : FS) (ρ' : List Addr) (H' : Hp) : Prop := (∀ a, F.f a → F'.f a ∧ H' a = H a) ∧ ρ <+: ρ'
theorem Stp.lat {F F' : FS} {ρ ρ' : List Addr} {H H' : Hp} (s : Stp F ρ H F' ρ' H') : Lat F ρ H F' ρ' H' := ⟨s.fh, s.p⟩
theorem Lat.trans {F F' F'' : FS} {ρ ρ' ρ'' : List Addr} {H H' H'' : Hp} (a : Lat F ρ H F' ρ' H') (b : Lat F' ρ' H' F'' ρ'' H'') : Lat F ρ H F'' ρ'' H'' :=
  ⟨fun x h => ⟨(b.1 x (a.1 x h).1).1, (b.1 x (a.1 x h).1).2.trans (a.1 x h).2⟩, a.2.trans b.2⟩
theorem Lat.get {F F' : FS} {ρ ρ' : List Addr} {H H' : Hp} (s : Lat F ρ H F' ρ' H') {n : Nat} {a : Addr} (e : ρ[n]? = some a) : ρ'[n]? = some a := by
  obtain ⟨t, rfl⟩ := s.2
  rw [List.getElem?_append_left (List.getElem?_eq_some_iff.mp e).1]
  exact e
theorem Lat.tr {K : Fg} {F F' : FS} {ρ ρ' : List Addr} {H H' : Hp} (s : Lat F ρ H F' ρ' H') {x : T} {v : V} (h : TR F ρ K H x v) : TR F' ρ' K H' x v := by
  cases x with
  | d x => exact RD.mono s.1 x v h
  | ref n =>
    obtain ⟨a, e, q⟩ := h
    exact ⟨a, s.get e, q⟩
theorem Lat.er {K : Fg} {F F' : FS} {ρ ρ' : List Addr} {H H' : Hp} (s : Lat F ρ H F' ρ' H') {env : Env} {σ : L2.St} (h : ER F ρ K H env σ) : ER F' ρ' K H' env σ :=
  ⟨h.1, fun i t e => let ⟨v, e1, e2⟩ := h.2 i t e; ⟨v, e1, s.tr e2⟩⟩
/-- an iterator that yields the items xs, at any later time -/
structure ItF (K : Fg) (F : FS) (H : Hp) (J : It) (xs : List D) : Prop where
  len : xs.length ≤ big
  go : ∀ (i : Nat) (F' : FS) (H' : Hp), i < xs.length → (∀ a, F.f a → F'.f a ∧ H' a = H a) → J.go i H'
  yld : ∀ (i : Nat) (F' : FS) (ρ' : List Addr) (H' H'' : Hp) (st : Store) (v : V), i < xs.length → (∀ a, F.f a → F'.f a ∧ H' a = H a) → SR F' ρ' K st H' → J.yld i H' v H'' →
    ∃ F'' x, xs[i]? = some x ∧ Stp F' ρ' H' F'' ρ' H'' ∧ SR F'' ρ' K st H'' ∧ RD F'' K H'' x v
  stop : ∀ (F' : FS) (H' : Hp), (∀ a, F.f a → F'.f a ∧ H' a = H a) → J.stop xs.length H'
def SrcR (K : Fg) : FS → List Addr → Hp → Src → It → Prop
  | F, ρ, H, .fz xs, J => ItF K F H J xs
  | F, ρ, H, .cell n, J => ∃ a, ρ[n]? = some a ∧ J = Itl K a
def tI (K : Fg) (cl : Nat → Value) (W : WX) (cf : CF) (c : E) : TI := fun σ H R => Sta K σ H fun F ρ env st => Post (SrcR K) cl W σ F ρ K H (evalIt cf c env st) R
theorem itf_list {K : Fg} {F : FS} {H : Hp} {a : Addr} {vs : List V} {xs : List D} (h1 : FzL F K H a vs) (h2 : xs.length ≤ big) (h3 : RDs F K H xs vs) : ItF K F H (Itl K a) xs where
  len := h2
  go := fun i F' H' hi s => ⟨vs, vs[i]'(by rw [← h3.length]; exact hi), (h1.mono s).sq, by simp⟩
  yld := fun i F' ρ' H' H'' st v hi s q y => by
    obtain ⟨rfl, y⟩ := y
    obtain ⟨x, e1, e2⟩ := (RDs.mono s _ _ h3).getV (y vs (h1.mono s).sq)
    exact ⟨F', x, e1, .refl, q, e2⟩
  stop := fun F' H' s => ⟨vs, (h1.mono s).sq, by rw [h3.length]; exact Nat.le_refl _⟩
theorem itf_tup {K : Fg} {F : FS} {H : Hp} {a : Addr} {vs : List V} {xs : List D} (h1 : FzT F K H a vs) (h2 : xs.length ≤ big) (h3 : RDs F K H xs vs) : ItF K F H (Itt K a) xs where
  len := h2
  go := fun i F' H' hi s => ⟨vs, vs[i]'(by rw [← h3.length]; exact hi), (h1.mono s).sq, by simp⟩
  yld := fun i F' ρ' H' H'' st v hi s q y => by
    obtain ⟨rfl, y⟩ := y
    obtain ⟨x, e1, e2⟩ := (RDs.mono s _ _ h3).getV (y vs (h1.mono s).sq)
    exact ⟨F', x, e1, .refl, q, e2⟩
  stop := fun F' H' s => ⟨vs, (h1.mono s).sq, by rw [h3.length]; exact Nat.le_refl _⟩
theorem itf_rng {K : Fg} {F : FS} {H : Hp} {lo : Int} {n : Nat} (hn : n ≤ big) : ItF K F H (Itr lo n) (intsFrom lo n) where
  len := by unfold intsFrom; simpa using hn
  go := fun i F' H' hi s => by
    show i < n
    unfold intsFrom at hi
    simpa using hi
  yld := fun i F' ρ' H' H'' st v hi s q y => by
    obtain ⟨rfl, rfl⟩ := y
    refine ⟨F', .int (lo + i), ?_, .refl, q, by unfold RD; rfl⟩
    unfold intsFrom at hi ⊢
    simp at hi
    simp [hi]
  stop := fun F' H' s => by
    show n ≤ (intsFrom lo n).length
    unfold intsFrom
    simp
theorem PI.imp {tg e : Expr} {t t' : TI} (h : PI X tg e t) (i : ∀ σ H R, t' σ H R → t σ H R) : PI X tg e t' := ⟨fun pins s σ H R I q => h.run pins s σ H R I (i σ H R q)⟩
theorem PI.or {tg e : Expr} {t t' : TI} (h : PI X tg e t) (h' : PI X tg e t') : PI X tg e (fun σ H R => t σ H R ∨ t' σ H R) := ⟨fun pins s σ H R I q => q.elim (h.run pins s σ H R I) (h'.run pins s σ H R I)⟩
/-- a sequence: a list, a tuple, a cell -/
theorem i_seq {tg e : Expr} {te : TE} (h : PE X e te) : PI X tg e (fun σ H R => te σ H fun v H1 => (∃ a, v = .ref a ∧ (∃ xs, SqL X.K H1 a xs) ∧ R (Itl X.K a) H1) ∨ ∃ a, v = .ref a ∧ (∃ xs, SqT X.K H1 a xs) ∧ R (Itt X.K a) H1) := by
  refine ⟨fun pins s σ H R I q => ?_⟩
  refine thn (h.run pins s σ H _ I q) fun v s1 ⟨x, H1, I1, r1, q1⟩ => ?_
  rcases q1 with ⟨a, rfl, ⟨xs, hq⟩, q⟩ | ⟨a, rfl, ⟨xs, hq⟩, q⟩
  · cases r1
    obtain ⟨its, rv, p, hz⟩ := I1.list hq
    refine wpAny_pyIter_list p.isList ?_
    refine ⟨s1.heap.objs.size, [s1.heap.objs.size], _, _, H1, rfl, I1.kept (t' := s1.toks) fun b o e => Heap.get?_push_of_some _ e, turn_list a _, ⟨_, Heap.get?_push_size _ rfl, rfl, rfl⟩, fun b hb => ?_, q⟩
    cases (show b = s1.heap.objs.size by simpa using hb)
    exact I1.fpOk (Nat.le_refl _) (I1.hok.fresh (Nat.le_refl _))
  · cases r1
    obtain ⟨its, rv, p, hz⟩ := I1.tuple hq
    refine wpAny_pyIter_tuple (show s1.heap.IsTuple a its.toArray from p) ?_
    refine ⟨s1.heap.objs.size, [s1.heap.objs.size], _, _, H1, rfl, I1.kept (t' := s1.toks) fun b o e => Heap.get?_push_of_some _ e, turn_tuple a _, ⟨_, Heap.get?_push_size _ rfl, rfl, rfl⟩, fun b hb => ?_, q⟩
    cases (show b = s1.heap.objs.size by simpa using hb)
    exact I1.fpOk (Nat.le_refl _) (I1.hok.fresh (Nat.le_refl _))
def isIt : E → Bool
  | .rng _ => true
  | .enm _ => true
  | .zp _ _ => true
  | _ => false
theorem evalIt_eq {c : E} {env : Env} {st : Store} (hc : isIt c = false) : evalIt cf c env st = (evalE cf c env st).bind fun v st1 => lift (srcOf st1 v) st1 := by
  cases c <;> first | (simp only [evalIt]; done) | (exact absurd hc (by simp [isIt]))
theorem i_plain (x : XOk G N sc fn cl W cf X) {tg e : Expr} {c : E} (h : PEx X cl W cf c e) (hc : isIt c = false) : PI X tg e (tI X.K cl W cf c) := by
  refine PI.imp (i_seq h) fun σ H R q => ?_
  obtain ⟨F, ρ, env, st, hS, hE, p⟩ := q
  rw [evalIt_eq hc] at p
  refine ⟨F, ρ, env, st, hS, hE, Post.bind p fun v st1 F1 ρ1 H1 u s1 q1 r1 p1 => ?_⟩
  obtain ⟨src, e, p2⟩ := Post.lift p1
  cases v with
  | new xs =>
    simp only [srcOf] at e
    cases e
    obtain ⟨a, vs, rfl, k1, k2, k3, k4, k5⟩ := r1
    obtain ⟨F2, s2, q2, r2⟩ := q1.freeze k1 k2 k3 k4 k5
    unfold RD at r2
    obtain ⟨a', vs', e', g1, g2, g3⟩ := r2
    cases e'
    exact .inl ⟨a, rfl, ⟨vs', g1.sq⟩, p2 F2 ρ1 H1 _ s2 q2 (itf_list g1 g2 g3)⟩
  | t w =>
    cases w with
    | ref n =>
      simp only [srcOf] at e
      split at e
      · rename_i zs hcc
        cases e
        obtain ⟨a, hn, rfl⟩ := r1
        obtain ⟨vs, g1, _⟩ := q1.cells n _ a hcc hn
        exact .inl ⟨a, rfl, ⟨vs, SqL.of g1⟩, p2 F1 ρ1 H1 _ .refl q1 ⟨a, hn, rfl⟩⟩
      · cases e
    | d dv =>
      simp only [srcOf] at e
      obtain ⟨xs, e1, rfl⟩ := Option.map_eq_some_iff.mp e
      clear e
      have r1' : RD F1 X.K H1 dv u := r1
      cases dv <;> simp [seqOf] at e1
      · subst e1
        unfold RD at r1'
        obtain ⟨a, vs, rfl, g1, g2, g3⟩ := r1'
        exact .inl ⟨a, rfl, ⟨vs, g1.sq⟩, p2 F1 ρ1 H1 _ .refl q1 (itf_list g1 g2 g3)⟩
      · subst e1
        unfold RD at r1'
        obtain ⟨a, vs, rfl, g1, g2, g3⟩ := r1'
        exact .inr ⟨a, rfl, ⟨vs, g1.sq⟩, p2 F1 ρ1 H1 _ .refl q1 (itf_tup g1 g2 g3)⟩
end
end MP


/-! MP, part p: comprehensions. -/
namespace MP
open PySem PySem.Spec L2
def nxOf : Src → Nat → Store → Option (Option D)
  | .fz xs, i, _ => some xs[i]?
  | .cell n, i, st => match st[n]? with
    | some (.lst ys) => some ys[i]?
    | _ => none
def compG (nx : Nat → Store → Option (Option D)) (g : D → Store → Res (Option D)) : Nat → Nat → Store → Res (List D)
  | 0, _, _ => .stuck
  | k + 1, i, st => match nx i st with
    | some (some x) => (g x st).bind fun o st' => (compG nx g k (i + 1) st').bind fun r st'' => .ok (consO o r) st''
    | some none => .ok [] st
    | none => .stuck
theorem compL_G {g : D → Store → Res (Option D)} : ∀ (m : Nat) {xs : List D} {i : Nat} {st : Store}, m = xs.length - i → i ≤ xs.length → compL g (xs.drop i) st = compG (nxOf (.fz xs)) g (m + 1) i st
  | 0, xs, i, st, h, hi => by
    have e : xs.drop i = [] := List.drop_eq_nil_of_le (by omega)
    have e2 : xs[i]? = none := List.getElem?_eq_none (by omega)
    rw [e]
    simp only [compL, compG, nxOf, e2]
  | m + 1, xs, i, st, h, hi => by
    have hlt : i < xs.length := by omega
    have e : xs.drop i = xs[i] :: xs.drop (i + 1) := List.drop_eq_getElem_cons hlt
    have e2 : xs[i]? = some xs[i] := List.getElem?_eq_getElem hlt
    rw [e, compG]
    simp only [compL, nxOf, e2]
    congr 1
    funext o st'
    rw [compL_G m (by omega) (by omega)]
theorem compC_G {g : D → Store → Res (Option D)} {n : Nat} : ∀ (k i : Nat) (st : Store), compC g n k i st = compG (nxOf (.cell n)) g k i st
  | 0, _, _ => rfl
  | k + 1, i, st => by
    rw [compC, compG]
    simp only [nxOf]
    cases st[n]? with
    | none => rfl
    | some c =>
      cases c with
      | dead => rfl
      | lst xs =>
        simp only
        cases xs[i]? with
        | none => rfl
        | some x =>
          simp only
          congr 1
          funext o st'
          rw [compC_G k]
theorem loopSrc_G {g : D → Store → Res (Option D)} {src : Src} {st : Store} {res : List D} {st' : Store} (h : loopSrc g src st = .ok res st') : ∃ k, compG (nxOf src) g k 0 st = .ok res st' := by
  cases src with
  | fz xs =>
    refine ⟨xs.length + 1, ?_⟩
    rw [← compL_G xs.length (by omega) (by omega)]
    exact h
  | cell n =>
    simp only [loopSrc] at h
    split at h
    · rename_i xs _
      refine ⟨xs.length + 1, ?_⟩
      rw [← compC_G]
      exact h
    · cases h
section
variable {K : Fg} {F F' : FS} {ρ ρ' : List Addr} {H H' : Hp} {st : Store} {src : Src} {J : It} {i : Nat}
theorem src_go (h : SrcR K F ρ H src J) (l : Lat F ρ H F' ρ' H') (q : SR F' ρ' K st H') {x : D} (e : nxOf src i st = some (some x)) :
    i < big ∧ J.go i H' ∧ ∀ v H'', J.yld i H' v H'' → ∃ F'', Stp F' ρ' H' F'' ρ' H'' ∧ SR F'' ρ' K st H'' ∧ RD F'' K H'' x v := by
  cases src with
  | fz xs =>
    simp only [nxOf, Option.some.injEq] at e
    have hi : i < xs.length := (List.getElem?_eq_some_iff.mp e).1
    have h' : ItF K F H J xs := h
    refine ⟨Nat.lt_of_lt_of_le hi h'.len, h'.go i F' H' hi l.1, fun v H'' y => ?_⟩
    obtain ⟨F'', x', e1, e2, e3, e4⟩ := h'.yld i F' ρ' H' H'' st v hi l.1 q y
    rw [e] at e1
    cases e1
    exact ⟨F'', e2, e3, e4⟩
  | cell n =>
    obtain ⟨a, ha, rfl⟩ := h
    simp only [nxOf] at e
    split at e
    · rename_i ys hc
      simp only [Option.some.injEq] at e
      obtain ⟨vs, g1, g2, g3⟩ := q.cells n _ a hc (l.get ha)
      have hi : i < ys.length := (List.getElem?_eq_some_iff.mp e).1
      obtain ⟨v, e1, e2⟩ := g3.get e
      refine ⟨Nat.lt_of_lt_of_le hi g2, ⟨vs, v, SqL.of g1, e1⟩, fun v' H'' y => ?_⟩
      obtain ⟨rfl, y⟩ := y
      have e3 := y vs (SqL.of g1)
      rw [e1] at e3
      cases e3
      exact ⟨F', .refl, q, e2⟩
    · cases e
theorem src_stop (h : SrcR K F ρ H src J) (l : Lat F ρ H F' ρ' H') (q : SR F' ρ' K st H') (e : nxOf src i st = some none) (hi : ∀ xs, src = .fz xs → i ≤ xs.length) : J.stop i H' := by
  cases src with
  | fz xs =>
    simp only [nxOf, Option.some.injEq] at e
    have h1 : xs.length ≤ i := List.getElem?_eq_none_iff.mp e
    have h2 := hi xs rfl
    have h3 : i = xs.length := by omega
    subst h3
    have h' : ItF K F H J xs := h
    exact h'.stop F' H' l.1
  | cell n =>
    obtain ⟨a, ha, rfl⟩ := h
    simp only [nxOf] at e
    split at e
    · rename_i ys hc
      simp only [Option.some.injEq] at e
      obtain ⟨vs, g1, g2, g3⟩ := q.cells n _ a hc (l.get ha)
      exact ⟨vs, SqL.of g1, by rw [← g3.length]; exact List.getElem?_eq_none_iff.mp e⟩
    · cases e
/-- an object that is kept but not read is changed -/
theorem SR.updU (q : SR F ρ K st H) {a : Addr} {o : HO} (hu : F.u a) : SR F ρ K st (upd H a o) ∧ (∀ b, F.f b → upd H a o b = H b) := by
  have nf : ∀ b, F.f b → b ≠ a := fun b hb z => q.uf a hu (z ▸ hb)
  have keep : ∀ b, F.f b → upd H a o b = H b := fun b hb => upd_ne (nf b hb)
  refine ⟨⟨q.len, q.nd, q.nf, fun b hb => by rw [keep b hb]; exact q.fd b hb, q.uf, q.un, fun b hb => ?_, fun j c b e1 e2 => ?_⟩, keep⟩
  · by_cases hb' : b = a
    · subst hb'
      exact ⟨o, upd_same⟩
    · rw [upd_ne hb']
      exact q.ud b hb
  · have ne : b ≠ a := fun z => q.un b (List.mem_of_getElem? e2) (z ▸ hu)
    have c1 := q.cells j c b e1 e2
    cases c with
    | lst xs =>
      obtain ⟨vs, k1, k2, k3⟩ := c1
      exact ⟨vs, by rw [upd_ne ne]; exact k1, k2, RDs.mono (fun b h => ⟨h, keep b h⟩) _ _ k3⟩
    | dead =>
      obtain ⟨o', k1⟩ := c1
      exact ⟨o', by rw [upd_ne ne]; exact k1⟩
/-- another set of kept objects -/
theorem SR.reU (q : SR F ρ K st H) {u : Addr → Prop} (h1 : ∀ a, u a → ¬ F.f a) (h2 : ∀ a ∈ ρ, ¬ u a) (h3 : ∀ a, u a → ∃ o, H a = some o) : SR ⟨F.f, u⟩ ρ K st H := by
  refine ⟨q.len, q.nd, q.nf, q.fd, h1, h2, h3, fun j c b e1 e2 => ?_⟩
  have c1 := q.cells j c b e1 e2
  cases c with
  | lst xs =>
    obtain ⟨vs, k1, k2, k3⟩ := c1
    exact ⟨vs, k1, k2, RDs.mono (F := F) (F' := ⟨F.f, u⟩) (fun b h => ⟨h, rfl⟩) _ _ k3⟩
  | dead => exact c1
end
theorem wipe_get : ∀ (vs : List Nat) (σ : L2.St) (i : Nat), (L2.wipe σ vs)[i]? = if i ∈ vs then (if i < σ.length then some none else none) else σ[i]?
  | [], σ, i => by simp [L2.wipe]
  | v :: vs, σ, i => by
    unfold L2.wipe
    by_cases hv : v = i
    · subst hv
      by_cases hl : v < σ.length
      · rw [List.getElem?_set_self (by rw [wipe_length]; exact hl)]
        simp [hl]
      · rw [List.getElem?_eq_none (by rw [List.length_set, wipe_length]; omega)]
        simp [hl]
    · rw [List.getElem?_set_ne hv, wipe_get vs σ i]
      have : (i ∈ v :: vs) ↔ i ∈ vs := by
        constructor
        · intro h
          rcases List.mem_cons.mp h with h | h
          · exact absurd h.symm hv
          · exact h
        · exact List.mem_cons_of_mem _
      simp only [this]
theorem wipeE_get : ∀ (vs : List Nat) (env : Env) (i : Nat), (MP.wipe env vs)[i]? = if i ∈ vs then (if i < env.length then some none else none) else env[i]?
  | [], env, i => by simp [MP.wipe]
  | v :: vs, env, i => by
    have hlen : ∀ vs : List Nat, (MP.wipe env vs).length = env.length := by
      intro vs
      induction vs with
      | nil => rfl
      | cons a l ih => unfold MP.wipe; rw [List.length_set, ih]
    unfold MP.wipe
    by_cases hv : v = i
    · subst hv
      by_cases hl : v < env.length
      · rw [List.getElem?_set_self (by rw [hlen]; exact hl)]
        simp [hl]
      · rw [List.getElem?_eq_none (by rw [List.length_set, hlen]; omega)]
        simp [hl]
    · rw [List.getElem?_set_ne hv, wipeE_get vs env i]
      have : (i ∈ v :: vs) ↔ i ∈ vs := by
        constructor
        · intro h
          rcases List.mem_cons.mp h with h | h
          · exact absurd h.symm hv
          · exact h
        · exact List.mem_cons_of_mem _
      simp only [this]
theorem wipeE_len (env : Env) : ∀ vs : List Nat, (MP.wipe env vs).length = env.length
  | [] => rfl
  | a :: l => by unfold MP.wipe; rw [List.length_set, wipeE_len env l]
theorem ER.wipe {F : FS} {ρ : List Addr} {K : Fg} {H : Hp} {env : Env} {σ : L2.St} (h : ER F ρ K H env σ) (vs : List Nat) : ER F ρ K H (MP.wipe env vs) (L2.wipe σ vs) := by
  refine ⟨by rw [wipeE_len, wipe_length, h.1], fun i t e => ?_⟩
  rw [wipeE_get] at e
  split at e
  · split at e <;> cases e
  · rename_i hi
    obtain ⟨v, e1, e2⟩ := h.2 i t e
    exact ⟨v, by rw [wipe_get, if_neg hi]; exact e1, e2⟩
theorem wipe_out {vs ws : List Nat} {σ σ' : L2.St} (h : Out vs (L2.wipe σ ws) σ') (hs : ∀ i ∈ vs, i ∈ ws) : L2.wipe σ' ws = L2.wipe σ ws := by
  apply List.ext_getElem?
  intro i
  have hl : σ'.length = σ.length := by rw [h.1, wipe_length]
  rw [wipe_get]
  by_cases hi : i ∈ ws
  · rw [if_pos hi, wipe_get, if_pos hi, hl]
  · rw [if_neg hi, h.2 i fun z => hi (hs i z)]
abbrev RBb_ : FS → List Addr → Hp → Bool → Bool → Prop := fun _ _ _ b b' => b' = b
def tCs (K : Fg) (cl : Nat → Value) (W : WX) (cf : CF) (cs : List E) : TT := fun σ H Q => Sta K σ H fun F ρ env st => Post RBb_ cl W σ F ρ K H (evalCs cf cs env st) Q
abbrev W0 : WX := fun _ _ _ _ => False
section
variable {G : Gb} {N : List Str} {sc : Scope} {fn : Str → Bool} {cl : Nat → Value} {W : WX} {cf : CF} {X : Cx} {pos : Pos}
theorem c_nil : PTs X [] (tCs X.K cl W cf []) := by
  have h := pts_nil (X := X)
  refine ⟨fun pins s σ H Q I q => h.run pins s σ H Q I ?_⟩
  obtain ⟨F, ρ, env, st, hS, hE, p⟩ := q
  simp only [evalCs] at p
  exact p F ρ H true .refl hS rfl
theorem c_one {c : E} {e : Expr} (h1 : PTx X cl W cf c e) : PTs X [e] (tCs X.K cl W cf [c]) := by
  have h := pts_one h1
  refine ⟨fun pins s σ H Q I q => h.run pins s σ H Q I ?_⟩
  obtain ⟨F, ρ, env, st, hS, hE, p⟩ := q
  simp only [evalCs] at p
  refine tC_bind hS hE p fun F2 ρ2 H2 x st2 q2 e2 p2 => ?_
  cases hx : truthD x with
  | true => rw [hx] at p2; exact p2 F2 ρ2 H2 true .refl q2 rfl
  | false => rw [hx] at p2; exact p2 F2 ρ2 H2 false .refl q2 rfl
/-- one turn's body -/
abbrev bodyC (cf : CF) (own : List Nat) (p : Pat) (conds : List E) (elt : E) (env : Env) : D → Store → Res (Option D) := fun x st => (lift (bindP st p (.d x) (MP.wipe env own)) st).bind fun env' st2 => (evalCs cf conds env' st2).bind fun b st3 =>
      if b then (settled (evalE cf elt env' st3)).bind fun v st4 => lift ((pureT v).map some) st4 else .ok none st3
theorem noexc_ok {α : Type} {r : Res α} {a : α} {st : Store} (h : r.noexc = .ok a st) : r = .ok a st := by
  cases r <;> first | exact h | cases h
theorem comp_imp {own : List Nat} {p : Pat} {it elt : E} {conds : List E} (hv : ∀ i ∈ patVars p, i ∈ own) {σ : L2.St} {H : Hp} {Q : VK} (q : tE X.K cl W cf (.comp own p it conds elt) σ H Q) :
    tLc (tI X.K cl W cf it) (tP X.K p) (tCs X.K cl W0 cf conds) (tS X.K cl W0 cf elt) own σ H Q := by
  obtain ⟨F, ρ, env, st, hS, hE, pp⟩ := q
  simp only [evalE] at pp
  refine ⟨F, ρ, env, st, hS, hE, Post.bind pp fun src st1 F1 ρ1 H1 J s1 q1 r1 p1 => ?_⟩
  have hE1 := s1.er hE
  intro A hA
  -- the whole loop comes to its end
  cases hL : (loopSrc (bodyC cf own p conds elt env) src st1).noexc with
  | exc _ _ _ => cases hL' : loopSrc (bodyC cf own p conds elt env) src st1 <;> rw [hL'] at hL <;> cases hL
  | stuck => rw [hL] at p1; exact p1.elim
  | ok res st5 =>
    rw [hL] at p1
    have pf : ∀ (F' : FS) (ρ' : List Addr) (H' : Hp) (b : V), Stp F1 ρ1 H1 F' ρ' H' → SR F' ρ' X.K st5 H' → RVR F' ρ' X.K H' (.new res) b → Q b H' := p1
    obtain ⟨k0, hk0⟩ := loopSrc_G (noexc_ok hL)
    obtain ⟨t1, t2, ⟨nf, nu⟩, nρ⟩ := q1.grow (o := .lst []) hA
    have W1 : ∃ W : Nat → Nat → Hp → Prop, W = fun i m H' => ∃ (F' : FS) (ρ' : List Addr) (st' : Store) (ad : List D) (av : List V) (rest : List D), SR F' ρ' X.K st' H' ∧ (∀ a, F'.u a ↔ (F1.u a ∨ a = A)) ∧ Lat F1 ρ1 H1 F' ρ' H' ∧
        (∀ a, F1.u a → H' a = H1 a) ∧ H' A = some (.lst av) ∧ RDs F' X.K H' ad av ∧ ad.length ≤ i ∧ ad.length ≤ big ∧ (∀ xs, src = .fz xs → i ≤ xs.length) ∧ compG (nxOf src) (bodyC cf own p conds elt env) m i st' = .ok rest st5 ∧ res = ad ++ rest := ⟨_, rfl⟩
    obtain ⟨Wv, eW⟩ := W1
    refine ⟨Wv, ⟨k0, ?_⟩, fun i m H' hW => ?_⟩
    · rw [eW]
      have q2 : SR ⟨F1.f, fun a => F1.u a ∨ a = A⟩ ρ1 X.K st1 (upd H1 A (.lst [])) := t2.reU (fun a ha => by
          rcases ha with ha | ha
          · exact q1.uf a ha
          · subst ha; exact nf) (fun a ha z => by
          rcases z with z | z
          · exact q1.un a ha z
          · exact nρ (z ▸ ha)) (fun a ha => by
          rcases ha with ha | ha
          · exact t2.ud a ha
          · exact ⟨_, by rw [ha, upd_same]⟩)
      exact ⟨_, ρ1, st1, [], [], res, q2, fun a => Iff.rfl, ⟨fun a ha => ⟨ha, t1.h a ha⟩, List.prefix_refl _⟩, fun a ha => t1.k a ha, upd_same, .nil, Nat.zero_le _, Nat.zero_le _, fun _ _ => Nat.zero_le _, hk0, rfl⟩
    · rw [eW] at hW
      obtain ⟨F', ρ', st', ad, av, rest, q', hu, lat, ku, hD, hR, hlen, hbig, hfz, hrun, hres⟩ := hW
      have uA : F'.u A := (hu A).mpr (.inr rfl)
      cases m with
      | zero => simp [compG] at hrun
      | succ m =>
        rw [compG] at hrun
        cases hn : nxOf src i st' with
        | none => rw [hn] at hrun; cases hrun
        | some o =>
          rw [hn] at hrun
          cases o with
          | none =>
            simp only at hrun
            cases hrun
            refine .inl ⟨src_stop r1 lat q' hn hfz, ?_⟩
            rw [List.append_nil] at hres
            subst hres
            have q3 : SR ⟨F'.f, F1.u⟩ ρ' X.K st5 H' := q'.reU (fun a ha => q'.uf a ((hu a).mpr (.inl ha))) (fun a ha z => q'.un a ha ((hu a).mpr (.inl z))) (fun a ha => q'.ud a ((hu a).mpr (.inl ha)))
            refine pf ⟨F'.f, F1.u⟩ ρ' H' (.ref A) ⟨fun a ha => (lat.1 a ha).1, fun a ha => (lat.1 a ha).2, lat.2, rfl, ku⟩ q3 ?_
            exact ⟨A, av, rfl, ⟨q'.uf A uA, nu⟩, fun z => q'.un A z uA, hD, hbig, RDs.mono (F := F') (F' := ⟨F'.f, F1.u⟩) (fun b h => ⟨h, rfl⟩) _ _ hR⟩
          | some xx =>
            simp only at hrun
            obtain ⟨ib, go, yl⟩ := src_go r1 lat q' hn
            have hfz' : ∀ xs, src = .fz xs → i + 1 ≤ xs.length := fun xs e => by
              subst e
              simp only [nxOf, Option.some.injEq] at hn
              exact (List.getElem?_eq_some_iff.mp hn).1
            refine .inr ⟨go, fun H'' => Wv (i + 1) m H'', fun H'' h => ⟨m, Nat.lt_succ_self m, h⟩, fun v H'' y => ?_⟩
            obtain ⟨F2, s2, q2, r2⟩ := yl v H'' y
            obtain ⟨o, stb, hb1, hb2⟩ := bind_ok hrun
            obtain ⟨rest', stc, hb3, hb4⟩ := bind_ok hb2
            obtain ⟨env', st2, hb5, hb6⟩ := bind_ok hb1
            obtain ⟨b, st3, hb7, hb8⟩ := bind_ok hb6
            have hbind : bindP st' p (.d xx) (MP.wipe env own) = some env' ∧ st2 = st' := by
              cases hbp : bindP st' p (.d xx) (MP.wipe env own) with
              | none => rw [hbp] at hb5; cases hb5
              | some w => rw [hbp] at hb5; cases hb5; exact ⟨rfl, rfl⟩
            obtain ⟨hbp, rfl⟩ := hbind
            cases hb4
            have lat2 : Lat F1 ρ1 H1 F2 ρ' H'' := lat.trans s2.lat
            refine ⟨F2, ρ', MP.wipe env own, st2, .d xx, env', q2, (lat2.er hE1).wipe own, r2, hbp, fun σ2 e1 e2 => ⟨wipe_out e2 hv, ?_⟩⟩
            refine ⟨F2, ρ', env', st2, q2, e1, ?_⟩
            show Post RBb_ cl W0 σ2 F2 ρ' X.K H'' (evalCs cf conds env' st2) _
            rw [hb7]
            intro F3 ρ3 H3 b' s3 q3 eb
            cases (show b' = b from eb)
            have u3 : F3.u = F'.u := s3.u.trans s2.u
            have stay : ∀ (F4 : FS) (ρ4 : List Addr) (H4 : Hp), Stp F' ρ' H' F4 ρ4 H4 → (∀ a, F1.u a → H4 a = H1 a) ∧ H4 A = some (.lst av) ∧ Lat F1 ρ1 H1 F4 ρ4 H4 ∧ RDs F4 X.K H4 ad av ∧ F4.u A ∧ (∀ a, F4.u a ↔ (F1.u a ∨ a = A)) := fun F4 ρ4 H4 s4 =>
              ⟨fun a ha => (s4.k a ((hu a).mpr (.inl ha))).trans (ku a ha), (s4.k A uA).trans hD, lat.trans s4.lat, s4.rds hR, by rw [s4.u]; exact uA, fun a => by rw [s4.u]; exact hu a⟩
            cases b with
            | false =>
              rw [if_neg (by decide)] at hb8
              cases hb8
              obtain ⟨g1, g2, g3, g4, g5, g6⟩ := stay F3 ρ3 H3 (s2.trans s3)
              rw [if_neg (by decide)]
              rw [eW]
              exact ⟨F3, ρ3, stb, ad, av, rest', q3, g6, g3, g1, g2, g4, by omega, hbig, hfz', hb3, hres⟩
            | true =>
              rw [if_pos rfl] at hb8
              rw [if_pos rfl]
              refine ⟨F3, ρ3, env', st3, q3, s3.er e1, ?_⟩
              obtain ⟨t, st4, hc1, hc2⟩ := bind_ok hb8
              show Post (RT_ X.K) cl W0 σ2 F3 ρ3 X.K H3 (settled (evalE cf elt env' st3)) _
              rw [hc1]
              intro F4 ρ4 H4 w s4 q4 r4
              cases t with
              | ref n => cases hc2
              | d yy =>
                have hc2' : (Res.ok (some yy) st4 : Res (Option D)) = .ok o stb := hc2
                cases hc2'
                obtain ⟨g1, g2, g3, g4, g5, g6⟩ := stay F4 ρ4 H4 ((s2.trans s3).trans s4)
                refine ⟨av, g2, by rw [← g4.length, ← big_size]; omega, ?_⟩
                obtain ⟨q5, k5⟩ := q4.updU (o := .lst (av ++ [w])) g5
                have mono5 : ∀ a, F4.f a → F4.f a ∧ upd H4 A (.lst (av ++ [w])) a = H4 a := fun a ha => ⟨ha, k5 a ha⟩
                rw [eW]
                refine ⟨F4, ρ4, _, ad ++ [yy], av ++ [w], rest', q5, g6, ?_, fun a ha => ?_, upd_same, RDs.mono mono5 _ _ (g4.append (.one r4)), by rw [List.length_append, List.length_singleton]; omega,
                  by rw [List.length_append, List.length_singleton]; omega, hfz', hb3, ?_⟩
                · exact g3.trans ⟨mono5, List.prefix_refl _⟩
                · have ne : a ≠ A := by
                    rintro rfl
                    exact nu ha
                  rw [upd_ne ne]
                  exact g1 a ha
                · rw [hres, List.append_assoc]
                  rfl
theorem e_comp (x : XOk G N sc fn cl W cf X) {own : List Nat} {p : Pat} {it elt : E} {conds : List E} {e tg iter : Expr} {ifs : List Expr} {scope : Scope} (hi : PI X tg iter (tI X.K cl W cf it)) (hset : isSet iter = false)
    (hb : blkC N sc scope (own.map fun i => (N.getD i "", i)) = true) (hg : ∀ X', XOk G N (relS scope sc) (cellFn scope) cl W0 cf X' → PG X' tg (tP X'.K p)) (ht : ∀ X', XOk G N (relS scope sc) (cellFn scope) cl W0 cf X' → PTs X' ifs (tCs X'.K cl W0 cf conds))
    (he : ∀ X', XOk G N (relS scope sc) (cellFn scope) cl W0 cf X' → PEx X' cl W0 cf elt e) (hv : ∀ i ∈ patVars p, i ∈ own) : PEx X cl W cf (.comp own p it conds elt) (.ListComp e [⟨tg, iter, ifs, 0⟩] scope pos) := by
  have bo : BlkOk X.N X.env.scope scope (own.map fun i => (N.getD i "", i)) := by rw [x.hN, x.hsc]; exact blkOk_by hb
  have eo : (own.map fun i => (N.getD i "", i)).map (fun q => q.2) = own := by
    rw [List.map_map]
    exact List.map_id own
  refine PE.imp (pe_lc (pos := pos) (g := tP X.K p) (tt := tCs X.K cl W0 cf conds) (te := tS X.K cl W0 cf elt) x.calm (by rw [x.hN]; exact x.nd) hi bo (fun s H C cs fp => hg _ (x.blk s H scope C cs fp)) (fun s H C cs fp => ht _ (x.blk s H scope C cs fp)) (fun s H C cs fp => (he _ (x.blk s H scope C cs fp)).s) (noFold hset)) fun σ H Q q => ?_
  rw [eo]
  exact comp_imp hv q
end
end MP


/-! MP, part q: soundness of all expressions. -/
namespace MP
open PySem PySem.Spec L2
section
variable {G : Gb} {N : List Str} {sc : Scope} {fn : Str → Bool} {cl : Nat → Value} {W : WX} {cf : CF} {X : Cx} {pos : Pos}
theorem i_rng1 (x : XOk G N sc fn cl W cf X) {tg y : Expr} {a : E} {p : Pos} (hg : gl sc "range" = true) (hf : ("range" : Str) ∈ G.free) (h : PEx X cl W cf a y) (hs : notStar y = true) : PI X tg (.Call (.Name "range" p) [y] [] pos) (tI X.K cl W cf (.rng [a])) := by
  refine PI.imp (pi_range1 (gl_ok x hg) (x.free _ hf) (pa_cons h.r pa_nil (star_ok hs)) (star_ok hs)) fun σ H R q => ?_
  obtain ⟨F, ρ, env, st, hS, hE, p⟩ := q
  simp only [evalIt] at p
  refine tS_tR hS hE p fun F2 ρ2 H2 d vx st2 q2 e2 r p2 => ?_
  cases d with
  | int n =>
    simp only at p2
    split at p2
    · rename_i hn
      have h1 := hn.1
      have h2 := hn.2
      refine ⟨n, by rw [r.int_iff], by simp only [big] at h1; omega, by simp only [big] at h2; omega, p2 F2 ρ2 H2 _ .refl q2 (itf_rng ?_)⟩
      simp only [big] at h2 ⊢
      omega
    · exact p2.elim
  | _ => exact p2.elim
theorem i_rng2 (x : XOk G N sc fn cl W cf X) {tg y z : Expr} {a b : E} {p : Pos} (hg : gl sc "range" = true) (hf : ("range" : Str) ∈ G.free) (h : PEx X cl W cf a y) (hs : notStar y = true) (h' : PEx X cl W cf b z) (hs' : notStar z = true) :
    PI X tg (.Call (.Name "range" p) [y, z] [] pos) (tI X.K cl W cf (.rng [a, b])) := by
  refine PI.imp (pi_range2 (gl_ok x hg) (x.free _ hf) (pa_cons h.r (pa_cons h'.r pa_nil (star_ok hs')) (star_ok hs)) (by rw [star_ok hs, star_ok hs']; rfl) (star_ok hs')) fun σ H R q => ?_
  obtain ⟨F, ρ, env, st, hS, hE, p⟩ := q
  simp only [evalIt] at p
  refine tS_tR hS hE p fun F2 ρ2 H2 d vx st2 q2 e2 r p2 => ?_
  refine tS_tR q2 e2 p2 fun F3 ρ3 H3 d' vx' st3 q3 e3 r' p3 => ?_
  cases d with
  | int i =>
    cases d' with
    | int j =>
      simp only at p3
      split at p3
      · rename_i hn
        obtain ⟨h1, h2, h3, h4⟩ := hn
        simp only [big] at h1 h2 h3 h4
        refine ⟨i, j, by rw [r.int_iff, r'.int_iff], ⟨by omega, by omega, by omega, by omega⟩, p3 F3 ρ3 H3 _ .refl q3 (itf_rng ?_)⟩
        simp only [big]
        omega
      · exact p3.elim
    | _ => exact p3.elim
  | _ => exact p3.elim
/-- what is to be shown of an expression -/
def PEok (c : E) : Prop := ∀ {G : Gb} {N : List Str} {sc : Scope} {fn : Str → Bool} {cl : Nat → Value} {W : WX} {cf : CF} {X : Cx} (x : XOk G N sc fn cl W cf X) (e : Expr), okE G N c sc e = true → PEx X cl W cf c e
def PTok (c : E) : Prop := ∀ {G : Gb} {N : List Str} {sc : Scope} {fn : Str → Bool} {cl : Nat → Value} {W : WX} {cf : CF} {X : Cx} (x : XOk G N sc fn cl W cf X) (e : Expr), okE G N c sc e = true → PTx X cl W cf c e
def PIok (c : E) : Prop := ∀ {G : Gb} {N : List Str} {sc : Scope} {fn : Str → Bool} {cl : Nat → Value} {W : WX} {cf : CF} {X : Cx} (x : XOk G N sc fn cl W cf X) (tg e : Expr), okE G N c sc e = true → PI X tg e (tI X.K cl W cf c)
structure Ex (c : E) : Prop where
  e : PEok c
  t : PTok c
  i : PIok c
structure Exs (cs : List E) : Prop where
  a : ∀ {G : Gb} {N : List Str} {sc : Scope} {fn : Str → Bool} {cl : Nat → Value} {W : WX} {cf : CF} {X : Cx} (x : XOk G N sc fn cl W cf X) (es : List Expr), okEs G N cs sc es = true → PA X es (tTs X.K cl W cf cs)
  d : ∀ {G : Gb} {N : List Str} {sc : Scope} {fn : Str → Bool} {cl : Nat → Value} {W : WX} {cf : CF} {X : Cx} (x : XOk G N sc fn cl W cf X) (es : List Expr), okEs G N cs sc es = true → PA X es (tDs X.K cl W cf cs)
  c : ∀ {G : Gb} {N : List Str} {sc : Scope} {fn : Str → Bool} {cl : Nat → Value} {W : WX} {cf : CF} {X : Cx} (x : XOk G N sc fn cl W cf X) (es : List Expr), okCs G N cs sc es = true → PTs X es (tCs X.K cl W cf cs)
  all : ∀ c ∈ cs, Ex c
/-- an expression whose test is its value's truth -/
def plainTest : Expr → Bool
  | .UnaryOp .Not _ _ => false
  | .BoolOp .. => false
  | .IfExp .. => false
  | .Compare .. => false
  | _ => true
theorem plainTest_ok {e : Expr} {env : PySem.Env} (h : plainTest e = true) : ∀ whole, PySem.isTrue e env whole = (do let v ← whole; standAt e.pos; holding [v] (truthy v)) := by
  intro whole
  cases e <;> first | rfl | (cases h; done) | skip
  rename_i op x p
  cases op <;> first | rfl | cases h
theorem Ex.mk1 {c : E} (hc : isIt c = false) (h : PEok c) (ht : ∀ {G : Gb} {N : List Str} {sc : Scope} (e : Expr), okE G N c sc e = true → plainTest e = true) : Ex c where
  e := h
  t := fun x e o => t_of (h x e o) (plainTest_ok (ht e o))
  i := fun x tg e o => i_plain x (h x e o) hc
theorem Ex.mk2 {c : E} (hc : isIt c = false) (h : PEok c) (ht : PTok c) : Ex c where
  e := h
  t := ht
  i := fun x tg e o => i_plain x (h x e o) hc
theorem ex_var (i : Nat) : Ex (.var i) := .mk1 rfl (fun x e h => by
    cases e <;> first | exact e_var x h | (simp [okE] at h; done)) (fun e h => by cases e <;> first | rfl | (simp [okE] at h; done))
theorem ex_con (v : D) : Ex (.con v) := .mk1 rfl (fun x e h => by
    cases e <;> first | exact e_con x h | (simp [okE] at h; done)) (fun e h => by cases e <;> first | rfl | (simp [okE] at h; done))
theorem ex_glo (y : Str) (v : D) : Ex (.glo y v) := .mk1 rfl (fun x e h => by
    cases v <;> cases e <;> first | exact e_glo x h | (simp [okE] at h; done)) (fun e h => by cases v <;> cases e <;> first | rfl | (simp [okE] at h; done))
theorem ex_hole : Ex .hole := .mk1 rfl (fun x e h => by cases e <;> (simp [okE] at h; done)) (fun e h => by cases e <;> first | rfl | (simp [okE] at h; done))
theorem ex_op {o : Op} {a b : E} (ha : Ex a) (hb : Ex b) : Ex (.op o a b) := .mk1 rfl (fun x e h => by
    cases e <;> first | (simp [okE] at h; done) | skip
    simp only [okE, Bool.and_eq_true, decide_eq_true_eq] at h
    obtain ⟨⟨rfl, h1⟩, h2⟩ := h
    exact e_op x (ha.e x _ h1) (hb.e x _ h2)) (fun e h => by cases e <;> first | rfl | (simp [okE] at h; done))
theorem ex_neg {a : E} (ha : Ex a) : Ex (.neg a) := .mk1 rfl (fun x e h => by
    cases e <;> first | (simp [okE] at h; done) | skip
    rename_i op y p
    cases op <;> first | (simp [okE] at h; done) | skip
    simp only [okE] at h
    exact e_neg x (ha.e x _ h)) (fun e h => by
    cases e <;> first | rfl | (simp [okE] at h; done) | skip
    rename_i op y p
    cases op <;> first | rfl | (simp [okE] at h; done))
theorem cmp_inv {c : Cm} {a b : E} {e : Expr} (h : okE G N (.cmp c a b) sc e = true) : ∃ l r p, e = .Compare l [c.py] [r] p ∧ okE G N a sc l = true ∧ okE G N b sc r = true ∧ isSet r = false := by
  cases e <;> first | (simp [okE] at h; done) | skip
  rename_i l ops cs p
  match ops, cs, h with
  | [op], [r], h =>
    simp only [okE, Bool.and_eq_true, decide_eq_true_eq, Bool.not_eq_true'] at h
    obtain ⟨⟨⟨rfl, h1⟩, h2⟩, h3⟩ := h
    exact ⟨l, r, p, rfl, h1, h2, h3⟩
  | [], _, h => simp [okE] at h
  | [_], [], h => simp [okE] at h
  | [_], _ :: _ :: _, h => simp [okE] at h
  | _ :: _ :: _, _, h => simp [okE] at h
theorem ex_cmp {c : Cm} {a b : E} (ha : Ex a) (hb : Ex b) : Ex (.cmp c a b) := .mk2 rfl (fun x e h => by
    obtain ⟨l, r, p, rfl, h1, h2, h3⟩ := cmp_inv h
    exact e_cmp x (ha.e x _ h1) (hb.e x _ h2) h3) (fun x e h => by
    obtain ⟨l, r, p, rfl, h1, h2, h3⟩ := cmp_inv h
    exact t_cmp x (ha.e x _ h1) (hb.e x _ h2) h3)
theorem chain_inv {c c' : Cm} {a b d : E} {e : Expr} (h : okE G N (.chain c c' a b d) sc e = true) : ∃ l r r' p, e = .Compare l [c.py, c'.py] [r, r'] p ∧ okE G N a sc l = true ∧ okE G N b sc r = true ∧ okE G N d sc r' = true ∧ isSet r = false ∧ isSet r' = false := by
  cases e <;> first | (simp [okE] at h; done) | skip
  rename_i l ops cs p
  match ops, cs, h with
  | [op, op'], [r, r'], h =>
    simp only [okE, Bool.and_eq_true, decide_eq_true_eq, Bool.not_eq_true'] at h
    obtain ⟨⟨⟨⟨⟨⟨rfl, rfl⟩, h1⟩, h2⟩, h3⟩, h4⟩, h5⟩ := h
    exact ⟨l, r, r', p, rfl, h1, h2, h3, h4, h5⟩
  | [], _, h => simp [okE] at h
  | [_], _, h => simp [okE] at h
  | [_, _], [], h => simp [okE] at h
  | [_, _], [_], h => simp [okE] at h
  | [_, _], _ :: _ :: _ :: _, h => simp [okE] at h
  | _ :: _ :: _ :: _, _, h => simp [okE] at h
theorem ex_chain {c c' : Cm} {a b d : E} (ha : Ex a) (hb : Ex b) (hd : Ex d) : Ex (.chain c c' a b d) := .mk2 rfl (fun x e h => by
    obtain ⟨l, r, r', p, rfl, h1, h2, h3, h4, h5⟩ := chain_inv h
    exact e_chain x (ha.e x _ h1) (hb.e x _ h2) (hd.e x _ h3) h4 h5) (fun x e h => by
    obtain ⟨l, r, r', p, rfl, h1, h2, h3, h4, h5⟩ := chain_inv h
    exact t_chain x (ha.e x _ h1) (hb.e x _ h2) (hd.e x _ h3) h4 h5)
theorem and_inv {a b : E} {e : Expr} (h : okE G N (.and a b) sc e = true) : ∃ l p, (∃ r, e = .BoolOp .And [l, r] p ∧ okE G N b sc r = true) ∧ okE G N a sc l = true ∨ (∃ r rs, e = .BoolOp .And (l :: r :: rs) p ∧ okE G N b sc (.BoolOp .And (r :: rs) p) = true) ∧ okE G N a sc l = true := by
  cases e <;> first | (simp [okE] at h; done) | skip
  rename_i op vs p
  cases op <;> first | (simp [okE] at h; done) | skip
  match vs, h with
  | [], h => simp [okE] at h
  | [_], h => simp [okE] at h
  | [l, r], h =>
    simp only [okE, Bool.and_eq_true] at h
    exact ⟨l, p, .inl ⟨⟨r, rfl, h.2⟩, h.1⟩⟩
  | l :: r :: z :: rs, h =>
    simp only [okE, Bool.and_eq_true] at h
    exact ⟨l, p, .inr ⟨⟨r, z :: rs, rfl, h.2⟩, h.1⟩⟩
theorem or_inv {a b : E} {e : Expr} (h : okE G N (.or a b) sc e = true) : ∃ l p, (∃ r, e = .BoolOp .Or [l, r] p ∧ okE G N b sc r = true) ∧ okE G N a sc l = true ∨ (∃ r rs, e = .BoolOp .Or (l :: r :: rs) p ∧ okE G N b sc (.BoolOp .Or (r :: rs) p) = true) ∧ okE G N a sc l = true := by
  cases e <;> first | (simp [okE] at h; done) | skip
  rename_i op vs p
  cases op <;> first | (simp [okE] at h; done) | skip
  match vs, h with
  | [], h => simp [okE] at h
  | [_], h => simp [okE] at h
  | [l, r], h =>
    simp only [okE, Bool.and_eq_true] at h
    exact ⟨l, p, .inl ⟨⟨r, rfl, h.2⟩, h.1⟩⟩
  | l :: r :: z :: rs, h =>
    simp only [okE, Bool.and_eq_true] at h
    exact ⟨l, p, .inr ⟨⟨r, z :: rs, rfl, h.2⟩, h.1⟩⟩
theorem ex_and {a b : E} (ha : Ex a) (hb : Ex b) : Ex (.and a b) := .mk2 rfl (fun x e h => by
    obtain ⟨l, p, ⟨⟨r, rfl, h2⟩, h1⟩ | ⟨⟨r, rs, rfl, h2⟩, h1⟩⟩ := and_inv h
    · exact e_and2 x (ha.e x _ h1) (hb.e x _ h2)
    · exact e_and x (ha.e x _ h1) (hb.e x _ h2)) (fun x e h => by
    obtain ⟨l, p, ⟨⟨r, rfl, h2⟩, h1⟩ | ⟨⟨r, rs, rfl, h2⟩, h1⟩⟩ := and_inv h
    · exact t_and2 x (ha.t x _ h1) (hb.t x _ h2)
    · exact t_and x (ha.t x _ h1) (hb.t x _ h2))
theorem ex_or {a b : E} (ha : Ex a) (hb : Ex b) : Ex (.or a b) := .mk2 rfl (fun x e h => by
    obtain ⟨l, p, ⟨⟨r, rfl, h2⟩, h1⟩ | ⟨⟨r, rs, rfl, h2⟩, h1⟩⟩ := or_inv h
    · exact e_or2 x (ha.e x _ h1) (hb.e x _ h2)
    · exact e_or x (ha.e x _ h1) (hb.e x _ h2)) (fun x e h => by
    obtain ⟨l, p, ⟨⟨r, rfl, h2⟩, h1⟩ | ⟨⟨r, rs, rfl, h2⟩, h1⟩⟩ := or_inv h
    · exact t_or2 x (ha.t x _ h1) (hb.t x _ h2)
    · exact t_or x (ha.t x _ h1) (hb.t x _ h2))
theorem not_inv {a : E} {e : Expr} (h : okE G N (.not a) sc e = true) : ∃ l p, e = .UnaryOp .Not l p ∧ okE G N a sc l = true := by
  cases e <;> first | (simp [okE] at h; done) | skip
  rename_i op y p
  cases op <;> first | (simp [okE] at h; done) | skip
  simp only [okE] at h
  exact ⟨y, p, rfl, h⟩
theorem ex_not {a : E} (ha : Ex a) : Ex (.not a) := .mk2 rfl (fun x e h => by
    obtain ⟨l, p, rfl, h1⟩ := not_inv h
    exact e_not x (ha.e x _ h1)) (fun x e h => by
    obtain ⟨l, p, rfl, h1⟩ := not_inv h
    exact t_not x (ha.t x _ h1))
theorem ite_inv {c a b : E} {e : Expr} (h : okE G N (.ite c a b) sc e = true) : ∃ t l r p, e = .IfExp t l r p ∧ okE G N c sc t = true ∧ okE G N a sc l = true ∧ okE G N b sc r = true := by
  cases e <;> first | (simp [okE] at h; done) | skip
  rename_i t l r p
  simp only [okE, Bool.and_eq_true] at h
  exact ⟨t, l, r, p, rfl, h.1.1, h.1.2, h.2⟩
theorem ex_ite {c a b : E} (hc : Ex c) (ha : Ex a) (hb : Ex b) : Ex (.ite c a b) := .mk2 rfl (fun x e h => by
    obtain ⟨t, l, r, p, rfl, h1, h2, h3⟩ := ite_inv h
    exact e_ite x (hc.t x _ h1) (ha.e x _ h2) (hb.e x _ h3)) (fun x e h => by
    obtain ⟨t, l, r, p, rfl, h1, h2, h3⟩ := ite_inv h
    exact t_ite x (hc.t x _ h1) (ha.t x _ h2) (hb.t x _ h3))
end
end MP


/-! MP, part r: soundness of all expressions, continued. -/
namespace MP
open PySem PySem.Spec L2
section
variable {G : Gb} {N : List Str} {sc : Scope} {fn : Str → Bool} {cl : Nat → Value} {W : WX} {cf : CF} {X : Cx} {pos : Pos}
theorem ex_tup {es : List E} (h : Exs es) : Ex (.tup es) := .mk1 rfl (fun x e o => by
    cases e <;> first | (simp [okE] at o; done) | skip
    simp only [okE, Bool.and_eq_true, decide_eq_true_eq] at o
    exact e_tup x (h.d x _ o.1) o.2) (fun e o => by cases e <;> first | rfl | (simp [okE] at o; done))
theorem ex_lst {es : List E} (h : Exs es) : Ex (.lst es) := .mk1 rfl (fun x e o => by
    cases e <;> first | (simp [okE] at o; done) | skip
    simp only [okE, Bool.and_eq_true, decide_eq_true_eq] at o
    exact e_lst x (h.d x _ o.1) o.2) (fun e o => by cases e <;> first | rfl | (simp [okE] at o; done))
/-- a written dict with one pair -/
theorem e_dct1 (x : XOk G N sc fn cl W cf X) {k : D} {e : E} {c : Const} {n : Nat} {p1 : Pos} {v : Expr} (hc : conOk k c = true) (hk : (keyD k).isSome = true) (he : PEx X cl W cf e v) : PEx X cl W cf (.dct [k] [e]) (.Dict [some (.Constant c n p1)] [v] pos) := by
  obtain ⟨k', hk⟩ := Option.isSome_iff_exists.mp hk
  refine PE.imp (pe_disp (pps_cons (e_con (pos := p1) (k := n) (v := k) x (by simp only [okE]; exact hc)) he.s pps_nil) rfl rfl (by simp) (by simp)) fun σ H Q q => ?_
  obtain ⟨F, ρ, env, st, hS, hE, pp⟩ := q
  simp only [evalE, evalDs] at pp
  intro p hp
  obtain ⟨t1, t2, ⟨nf, nu⟩, nρ⟩ := hS.grow (o := .dK []) hp
  have q2 : SR ⟨F.f, fun a => F.u a ∨ a = p⟩ ρ X.K st (upd H p (.dK [])) := t2.reU (fun a ha => ha.elim (hS.uf a) fun z => z ▸ nf) (fun a ha z => z.elim (hS.un a ha) fun z => nρ (z ▸ ha)) (fun a ha => ha.elim (t2.ud a) fun z => ⟨.dK [], by rw [z]; exact upd_same⟩)
  have mono1 : ∀ a, F.f a → F.f a ∧ upd H p (.dK []) a = H a := fun a ha => ⟨ha, t1.h a ha⟩
  have hE1 : ER ⟨F.f, fun a => F.u a ∨ a = p⟩ ρ X.K (upd H p (.dK [])) env σ := ⟨hE.1, fun i t e => by
    obtain ⟨v, e1, e2⟩ := hE.2 i t e
    refine ⟨v, e1, ?_⟩
    cases t with
    | d y => exact RD.mono (F := F) (F' := ⟨F.f, fun a => F.u a ∨ a = p⟩) mono1 _ _ e2
    | ref n => exact e2⟩
  -- what a later state is for the outer state
  have back : ∀ {F' : FS} {ρ' : List Addr} {H' : Hp} {st' : Store}, Stp ⟨F.f, fun a => F.u a ∨ a = p⟩ ρ (upd H p (.dK [])) F' ρ' H' → SR F' ρ' X.K st' H' → Stp F ρ H ⟨F'.f, F.u⟩ ρ' H' ∧ SR ⟨F'.f, F.u⟩ ρ' X.K st' H' := fun {F' ρ' H' st'} s q => by
    have hu : ∀ a, F.u a → F'.u a := fun a ha => by rw [s.u]; exact .inl ha
    exact ⟨⟨s.f, fun a ha => (s.h a ha).trans (t1.h a ha), s.p, rfl, fun a ha => (s.k a (.inl ha)).trans (t1.k a ha)⟩, q.reU (fun a ha => q.uf a (hu a ha)) (fun a ha z => q.un a ha (hu a z)) fun a ha => q.ud a (hu a ha)⟩
  refine ⟨_, ρ, env, st, q2, hE1, ?_⟩
  simp only [evalE]
  intro F0 ρ0 H0 xk s0 q0 r0
  have ek : xk = kV k' := by
    cases k <;> simp [keyD] at hk
    · subst hk
      have r0' : RD F0 X.K H0 (.int _) xk := r0
      unfold RD at r0'
      exact r0'
    · subst hk
      have r0' : RD F0 X.K H0 (.str _) xk := r0
      unfold RD at r0'
      exact r0'.1
  refine ⟨F0, ρ0, env, st, q0, s0.er hE1, ?_⟩
  cases hr : settled (evalE cf e env st) with
  | stuck => rw [hr] at pp; exact pp.elim
  | exc c2 x2 st2 =>
    rw [hr] at pp ⊢
    show XQ cl W σ F0 ρ0 X.K H0 c2 x2 st2
    intro F' ρ' H' w d s q r hd
    obtain ⟨b1, b2⟩ := back (s0.trans s) q
    refine pp ⟨F'.f, F.u⟩ ρ' H' w d b1 b2 ?_ hd
    cases x2 with
    | d y => exact RD.mono (F := F') (F' := ⟨F'.f, F.u⟩) (fun a ha => ⟨ha, rfl⟩) _ _ r
    | ref n => exact r
  | ok t st1 =>
    rw [hr] at pp ⊢
    show ∀ (F' : FS) (ρ' : List Addr) (H' : Hp) (y : V), Stp F0 ρ0 H0 F' ρ' H' → SR F' ρ' X.K st1 H' → TR F' ρ' X.K H' t y → _
    intro F' ρ' H' y s q r
    have sA := s0.trans s
    have uP : F'.u p := by rw [sA.u]; exact .inr rfl
    have hP : H' p = some (.dK []) := by rw [sA.k p (.inr rfl), upd_same]
    cases t with
    | ref n => exact pp.elim
    | d y' =>
      simp only [Res.bind, pureT, MP.lift] at pp
      split at pp
      · refine ⟨hP, [(k', y)], by rw [ek]; rfl, by simp, ?_⟩
        obtain ⟨u1, u2⟩ := q.updU (o := .dK (mergeK [] [(k', y)])) uP
        obtain ⟨b1, b2⟩ := back sA q
        have nfp : ¬ F'.f p := q.uf p uP
        have npρ : p ∉ ρ' := fun z => q.un p z uP
        have neU : ∀ a, F.u a → a ≠ p := fun a ha z => by subst z; exact nu ha
        have mono2 : ∀ a, F'.f a → (F'.f a ∨ a = p) ∧ upd H' p (.dK (mergeK [] [(k', y)])) a = H' a := fun a ha => ⟨.inl ha, u2 a ha⟩
        refine pp ⟨fun a => F'.f a ∨ a = p, F.u⟩ ρ' _ (.ref p) ⟨fun a ha => .inl (b1.f a ha), fun a ha => (u2 a (b1.f a ha)).trans (b1.h a ha), b1.p, rfl, fun a ha => by rw [upd_ne (neU a ha)]; exact b1.k a ha⟩ ?_ ?_
        · refine ⟨q.len, q.nd, fun a ha z => z.elim (q.nf a ha) fun z => npρ (z ▸ ha), fun a z => z.elim (u1.fd a) fun z => ⟨.dK (mergeK [] [(k', y)]), by rw [z]; exact upd_same⟩, fun a ha z => z.elim (b2.uf a ha) fun z => neU a ha z, b2.un, fun a ha => by rw [upd_ne (neU a ha)]; exact b2.ud a ha, fun i c a e1 e2 => ?_⟩
          have cc := u1.cells i c a e1 e2
          cases c with
          | lst xs =>
            obtain ⟨vs, k1, k2, k3⟩ := cc
            exact ⟨vs, k1, k2, RDs.mono (F := F') (F' := ⟨fun a => F'.f a ∨ a = p, F.u⟩) (fun b h => ⟨.inl h, rfl⟩) _ _ k3⟩
          | dead => exact cc
        · show RD _ _ _ _ _
          unfold RD
          refine ⟨p, [(k', y)], rfl, .inr rfl, upd_same, by show 1 ≤ big; decide, ?_⟩
          show RDk _ _ _ [(k, y')] _
          unfold RDk
          refine ⟨k', y, [], rfl, hk, RD.mono (F := F') (F' := ⟨fun a => F'.f a ∨ a = p, F.u⟩) mono2 _ _ r, ?_⟩
          unfold RDk
          rfl
      · exact pp.elim
theorem dct_inv {ks : List D} {es : List E} {e : Expr} (h : okE G N (.dct ks es) sc e = true) : (∃ q, ks = [] ∧ es = [] ∧ e = .Dict [] [] q) ∨ ∃ k c n p1 e1 v q, ks = [k] ∧ es = [e1] ∧ e = .Dict [some (.Constant c n p1)] [v] q ∧ conOk k c = true ∧ (keyD k).isSome = true ∧ okE G N e1 sc v = true := by
  unfold okE at h
  split at h <;> first | (cases h; done) | (rename_i hb; cases hb)
  · exact .inl ⟨_, rfl, rfl, rfl⟩
  · simp only [Bool.and_eq_true] at h
    exact .inr ⟨_, _, _, _, _, _, _, rfl, rfl, rfl, h.1.1, h.1.2, h.2⟩
theorem ex_dct {ks : List D} {es : List E} (h : Exs es) : Ex (.dct ks es) := .mk1 rfl (fun x e o => by
    rcases dct_inv o with ⟨q, rfl, rfl, rfl⟩ | ⟨k, c, n, p1, e1, v, q, rfl, rfl, rfl, h1, h2, h3⟩
    · exact e_dct0 x
    · exact e_dct1 x h1 h2 ((h.all e1 (by simp)).e x _ h3)) (fun e o => by
    rcases dct_inv o with ⟨q, rfl, rfl, rfl⟩ | ⟨k, c, n, p1, e1, v, q, rfl, rfl, rfl, h1, h2, h3⟩ <;> rfl)
theorem ex_call {f : Nat} {es : List E} (h : Exs es) : Ex (.call f es) := .mk1 rfl (fun x e o => by
    cases e <;> first | (simp [okE] at o; done) | skip
    rename_i fe args kws p
    cases fe <;> first | (simp [okE] at o; done) | skip
    cases args <;> first | (simp [okE] at o; done) | skip
    cases kws <;> first | (simp [okE] at o; done) | skip
    simp only [okE, Bool.and_eq_true, decide_eq_true_eq] at o
    exact e_call x o.1.1.1 o.1.1.2 o.1.2 (h.a x _ o.2) o.2) (fun e o => by cases e <;> first | rfl | (simp [okE] at o; done))
theorem ex_prim {p : Prim} {es : List E} (h : Exs es) : Ex (.prim p es) := .mk1 rfl (fun x e o => by
    cases e <;> first | (simp [okE] at o; done) | skip
    rename_i fe args kws q
    cases fe <;> first | (simp [okE] at o; done) | skip
    cases args <;> first | (simp [okE] at o; done) | skip
    cases kws <;> first | (simp [okE] at o; done) | skip
    simp only [okE, Bool.and_eq_true, decide_eq_true_eq] at o
    obtain ⟨⟨⟨⟨rfl, o1⟩, o2⟩, o3⟩, o4⟩ := o
    exact e_prim x o1 (memB_ok o2) o3 (h.a x _ o4) o4) (fun e o => by cases e <;> first | rfl | (simp [okE] at o; done))
theorem isi_inv {a : E} {t : Ty} {e : Expr} (h : okE G N (.isi a t) sc e = true) : ∃ y p1 p2 p, e = .Call (.Name "isinstance" p1) [y, .Name (t.py : String) p2] [] p ∧ gl sc "isinstance" = true ∧ ("isinstance" : Str) ∈ G.free ∧ gl sc (t.py : String) = true ∧ ((t.py : String) : Str) ∈ G.free ∧ okE G N a sc y = true ∧ notStar y = true := by
  cases e <;> first | (simp [okE] at h; done) | skip
  rename_i fe args kws q
  cases fe <;> first | (simp [okE] at h; done) | skip
  rename_i nm p1
  match args, kws, h with
  | [y, z], [], h =>
    cases z <;> first | (simp [okE] at h; done) | skip
    rename_i zn p2
    simp only [okE, Bool.and_eq_true, decide_eq_true_eq] at h
    obtain ⟨⟨⟨⟨⟨⟨⟨rfl, h1⟩, h2⟩, rfl⟩, h3⟩, h4⟩, h5⟩, h6⟩ := h
    exact ⟨y, p1, p2, q, rfl, h1, memB_ok h2, h3, memB_ok h4, h5, h6⟩
  | [], _, h => simp [okE] at h
  | [_], _, h => simp [okE] at h
  | _ :: _ :: _ :: _, _, h => simp [okE] at h
  | [_, _], _ :: _, h => simp [okE] at h
theorem ex_isi {a : E} {t : Ty} (h : Ex a) : Ex (.isi a t) := .mk1 rfl (fun x e o => by
    obtain ⟨y, p1, p2, p, rfl, h1, h2, h3, h4, h5, h6⟩ := isi_inv o
    exact e_isi x h1 h2 h3 h4 (h.e x _ h5) h6) (fun e o => by
    obtain ⟨y, p1, p2, p, rfl, _⟩ := isi_inv o
    rfl)
theorem ex_ix {a i : E} (ha : Ex a) (hi : Ex i) : Ex (.ix a i) := .mk1 rfl (fun x e o => by
    cases e <;> first | (simp [okE] at o; done) | skip
    simp only [okE, Bool.and_eq_true, Bool.not_eq_true'] at o
    exact e_ix x (ha.e x _ o.1.1) (hi.e x _ o.1.2) o.2) (fun e o => by cases e <;> first | rfl | (simp [okE] at o; done))
theorem o_of (x : XOk G N sc fn cl W cf X) {c : E} {o : Option Expr} (h : Ex c) (ho : okOp (isHole c) (okE G N c sc) o = true) : PO X o (tO X.K cl W cf c) := by
  cases o with
  | none =>
    have ho' : isHole c = true := ho
    cases c <;> first | exact o_none | (cases ho'; done)
  | some e =>
    have ho' : okE G N c sc e = true := ho
    by_cases hc : c = .hole
    · subst hc
      simp [okE] at ho'
    · exact o_some (h.e x e ho') hc
theorem sl_inv {a lo hi : E} {e : Expr} (h : okE G N (.sl a lo hi) sc e = true) : ∃ v l u p1 p, e = .Subscript v (.Slice l u none p1) p ∧ okE G N a sc v = true ∧ okOp (isHole lo) (okE G N lo sc) l = true ∧ okOp (isHole hi) (okE G N hi sc) u = true := by
  cases e <;> first | (simp [okE] at h; done) | skip
  rename_i v s p
  cases s <;> first | (simp [okE] at h; done) | skip
  rename_i l u stp p1
  cases stp <;> first | (simp [okE] at h; done) | skip
  simp only [okE, Bool.and_eq_true] at h
  exact ⟨v, l, u, p1, p, rfl, h.1.1, h.1.2, h.2⟩
theorem ex_sl {a lo hi : E} (ha : Ex a) (hl : Ex lo) (hh : Ex hi) : Ex (.sl a lo hi) := .mk1 rfl (fun x e o => by
    obtain ⟨v, l, u, p1, p, rfl, h1, h2, h3⟩ := sl_inv o
    exact e_sl x (ha.e x _ h1) (o_of x hl h2) (o_of x hh h3)) (fun e o => by
    obtain ⟨v, l, u, p1, p, rfl, _⟩ := sl_inv o
    rfl)
theorem meth_inv {m : Meth} {o : E} {es : List E} {e : Expr} (h : okE G N (.meth m o es) sc e = true) : ∃ v xs ap p, e = .Call (.Attribute v m.nm ap) xs [] p ∧ okE G N o sc v = true ∧ okEs G N es sc xs = true ∧ isCall0 v = false ∧ (ap.endLine == p.line) = true ∧ xs.length < 20 := by
  cases e <;> first | (simp [okE] at h; done) | skip
  rename_i fe args kws q
  cases fe <;> first | (simp [okE] at h; done) | skip
  rename_i v nm ap
  cases kws <;> first | (simp [okE] at h; done) | skip
  simp only [okE, Bool.and_eq_true, decide_eq_true_eq, Bool.not_eq_true'] at h
  obtain ⟨⟨⟨⟨⟨rfl, h1⟩, h2⟩, h3⟩, h4⟩, h5⟩ := h
  exact ⟨v, args, ap, q, rfl, h1, h2, h3, h4, h5⟩
theorem ex_meth {m : Meth} {o : E} {es : List E} (ho : Ex o) (h : Exs es) : Ex (.meth m o es) := .mk1 rfl (fun x e k => by
    obtain ⟨v, xs, ap, p, rfl, h1, h2, h3, h4, h5⟩ := meth_inv k
    exact e_meth x (ho.e x _ h1) (h.d x _ h2) h3 h4 h5 h2) (fun e k => by
    obtain ⟨v, xs, ap, p, rfl, _⟩ := meth_inv k
    rfl)
theorem comp_inv {own : List Nat} {p : Pat} {it elt : E} {conds : List E} {e : Expr} (h : okE G N (.comp own p it conds elt) sc e = true) : ∃ el tg iter ifs scope q, e = .ListComp el [⟨tg, iter, ifs, 0⟩] scope q ∧ okE G N it sc iter = true ∧ isSet iter = false ∧
    blkC N sc scope (own.map fun i => (N.getD i "", i)) = true ∧ okP N (relS scope sc) (cellFn scope) p tg = true ∧ okCs G N conds (relS scope sc) ifs = true ∧ okE G N elt (relS scope sc) el = true ∧ ∀ i ∈ patVars p, i ∈ own := by
  cases e <;> first | (simp [okE] at h; done) | skip
  rename_i el gens scope q
  match gens, h with
  | [⟨tg, iter, ifs, a⟩], h =>
    simp only [okE, Bool.and_eq_true, Bool.not_eq_true', List.all_eq_true, decide_eq_true_eq] at h
    obtain ⟨⟨⟨⟨⟨⟨⟨h0, h1⟩, h2⟩, h3⟩, h4⟩, h5⟩, h6⟩, h7⟩ := h
    subst h0
    exact ⟨el, tg, iter, ifs, scope, q, rfl, h1, h2, h3, h4, h5, h6, fun i hi => memB_ok (h7 i hi)⟩
  | [], h => simp [okE] at h
  | _ :: _ :: _, h => simp [okE] at h
theorem ex_comp {own : List Nat} {p : Pat} {it elt : E} {conds : List E} (hi : Ex it) (hc : Exs conds) (he : Ex elt) : Ex (.comp own p it conds elt) := .mk1 rfl (fun x e k => by
    obtain ⟨el, tg, iter, ifs, scope, q, rfl, h1, h2, h3, h4, h5, h6, h7⟩ := comp_inv k
    exact e_comp x (hi.i x tg _ h1) h2 h3 (fun X' x' => g_pat x' _ _ h4) (fun X' x' => hc.c x' _ h5) (fun X' x' => he.e x' _ h6) h7) (fun e k => by
    obtain ⟨el, tg, iter, ifs, scope, q, rfl, _⟩ := comp_inv k
    rfl)
theorem rng1_inv {a : E} {e : Expr} (h : okE G N (.rng [a]) sc e = true) : ∃ y p1 p, e = .Call (.Name "range" p1) [y] [] p ∧ gl sc "range" = true ∧ ("range" : Str) ∈ G.free ∧ okE G N a sc y = true ∧ notStar y = true := by
  cases e <;> first | (simp [okE] at h; done) | skip
  rename_i fe args kws q
  cases fe <;> first | (simp [okE] at h; done) | skip
  rename_i nm p1
  match args, kws, h with
  | [y], [], h =>
    simp only [okE, Bool.and_eq_true, decide_eq_true_eq] at h
    obtain ⟨⟨⟨⟨rfl, o1⟩, o2⟩, o3⟩, o4⟩ := h
    exact ⟨y, p1, q, rfl, o1, memB_ok o2, o3, o4⟩
  | [], _, h => simp [okE] at h
  | _ :: _ :: _, _, h => simp [okE] at h
  | [_], _ :: _, h => simp [okE] at h
theorem rng2_inv {a b : E} {e : Expr} (h : okE G N (.rng [a, b]) sc e = true) : ∃ y z p1 p, e = .Call (.Name "range" p1) [y, z] [] p ∧ gl sc "range" = true ∧ ("range" : Str) ∈ G.free ∧ okE G N a sc y = true ∧ notStar y = true ∧ okE G N b sc z = true ∧ notStar z = true := by
  cases e <;> first | (simp [okE] at h; done) | skip
  rename_i fe args kws q
  cases fe <;> first | (simp [okE] at h; done) | skip
  rename_i nm p1
  match args, kws, h with
  | [y, z], [], h =>
    simp only [okE, Bool.and_eq_true, decide_eq_true_eq] at h
    obtain ⟨⟨⟨⟨⟨⟨rfl, o1⟩, o2⟩, o3⟩, o4⟩, o5⟩, o6⟩ := h
    exact ⟨y, z, p1, q, rfl, o1, memB_ok o2, o3, o4, o5, o6⟩
  | [], _, h => simp [okE] at h
  | [_], _, h => simp [okE] at h
  | _ :: _ :: _ :: _, _, h => simp [okE] at h
  | [_, _], _ :: _, h => simp [okE] at h
theorem ex_rng {es : List E} (h : Exs es) : Ex (.rng es) where
  e := fun x e o => ⟨fun pins s σ H Q I q => by
    obtain ⟨F, ρ, env, st, _, _, p⟩ := q
    simp only [evalE] at p
    exact p.elim⟩
  t := fun x e o => ⟨fun pins s σ H Q I q => by
    obtain ⟨F, ρ, env, st, _, _, p⟩ := q
    simp only [evalE] at p
    exact p.elim⟩
  i := fun x tg e o => by
    match es, h, o with
    | [], _, o => simp [okE] at o
    | [a], h, o =>
      obtain ⟨y, p1, p, rfl, o1, o2, o3, o4⟩ := rng1_inv o
      exact i_rng1 x o1 o2 ((h.all a (by simp)).e x _ o3) o4
    | [a, b], h, o =>
      obtain ⟨y, z, p1, p, rfl, o1, o2, o3, o4, o5, o6⟩ := rng2_inv o
      exact i_rng2 x o1 o2 ((h.all a (by simp)).e x _ o3) o4 ((h.all b (by simp)).e x _ o5) o6
    | _ :: _ :: _ :: _, _, o => simp [okE] at o
theorem ex_enm (a : E) : Ex (.enm a) := ⟨fun x e o => by simp [okE] at o, fun x e o => by simp [okE] at o, fun x tg e o => by simp [okE] at o⟩
theorem ex_zp (a b : E) : Ex (.zp a b) := ⟨fun x e o => by simp [okE] at o, fun x e o => by simp [okE] at o, fun x tg e o => by simp [okE] at o⟩
theorem exs_nil : Exs [] where
  a := fun x es o => by cases es <;> first | exact a_nil | (simp [okEs] at o; done)
  d := fun x es o => by cases es <;> first | exact d_nil | (simp [okEs] at o; done)
  c := fun x es o => by cases es <;> first | exact c_nil | (simp [okCs] at o; done)
  all := fun c hc => by cases hc
theorem exs_cons {c : E} {cs : List E} (h : Ex c) (hs : Exs cs) : Exs (c :: cs) where
  a := fun x es o => by
    cases es with
    | nil => simp [okEs] at o
    | cons e es =>
      simp only [okEs, Bool.and_eq_true] at o
      exact a_cons (h.e x _ o.1.1) (hs.a x _ o.2) o.1.2
  d := fun x es o => by
    cases es with
    | nil => simp [okEs] at o
    | cons e es =>
      simp only [okEs, Bool.and_eq_true] at o
      exact d_cons (h.e x _ o.1.1) (hs.d x _ o.2) o.1.2
  c := fun x es o => by
    match cs, es, o with
    | [], [e], o =>
      simp only [okCs] at o
      exact c_one (h.t x _ o)
    | [], [], o => simp [okCs] at o
    | [], _ :: _ :: _, o => simp [okCs] at o
    | _ :: _, _, o => simp [okCs] at o
  all := fun d hd => by
    rcases List.mem_cons.mp hd with rfl | hd
    · exact h
    · exact hs.all d hd
mutual
theorem ex_all : ∀ c : E, Ex c
  | .hole => ex_hole
  | .var i => ex_var i
  | .con v => ex_con v
  | .glo x v => ex_glo x v
  | .op o a b => ex_op (ex_all a) (ex_all b)
  | .neg a => ex_neg (ex_all a)
  | .cmp c a b => ex_cmp (ex_all a) (ex_all b)
  | .chain c c' a b e => ex_chain (ex_all a) (ex_all b) (ex_all e)
  | .and a b => ex_and (ex_all a) (ex_all b)
  | .or a b => ex_or (ex_all a) (ex_all b)
  | .not a => ex_not (ex_all a)
  | .ite c a b => ex_ite (ex_all c) (ex_all a) (ex_all b)
  | .tup es => ex_tup (exs_all es)
  | .lst es => ex_lst (exs_all es)
  | .dct ks es => ex_dct (exs_all es)
  | .call f es => ex_call (exs_all es)
  | .prim p es => ex_prim (exs_all es)
  | .isi a t => ex_isi (ex_all a)
  | .ix a i => ex_ix (ex_all a) (ex_all i)
  | .sl a lo hi => ex_sl (ex_all a) (ex_all lo) (ex_all hi)
  | .comp own p it conds elt => ex_comp (ex_all it) (exs_all conds) (ex_all elt)
  | .meth m o es => ex_meth (ex_all o) (exs_all es)
  | .rng es => ex_rng (exs_all es)
  | .enm a => ex_enm a
  | .zp a b => ex_zp a b
theorem exs_all : ∀ cs : List E, Exs cs
  | [] => exs_nil
  | c :: cs => exs_cons (ex_all c) (exs_all cs)
end
end
end MP


/-! MP, part s: statements. -/
namespace MP
open PySem PySem.Spec L2
def PostS (K : Fg) (cl : Nat → Value) (W : WX) (F : FS) (ρ : List Addr) (H : Hp) (r : RS) (D : Ends) : Prop :=
  match r with
  | .ok fl env st => ∀ (F' : FS) (ρ' : List Addr) (H' : Hp) (σ' : L2.St), Stp F ρ H F' ρ' H' → SR F' ρ' K st H' → ER F' ρ' K H' env σ' → match fl with
    | .next => D.nx σ' H'
    | .brk => D.bk σ' H'
    | .cont => D.ct σ' H'
    | .ret v => ∀ u, RVR F' ρ' K H' v u → D.rt u H'
  | .exc c x env st => ∀ (F' : FS) (ρ' : List Addr) (H' : Hp) (σ' : L2.St) (w : V) (d : Addr), Stp F ρ H F' ρ' H' → SR F' ρ' K st H' → ER F' ρ' K H' env σ' → TR F' ρ' K H' x w → H' d = some (.xd [("value", w)]) → W (cl c) (some d) σ' H'
  | .stuck => False
section
variable {K : Fg} {cl : Nat → Value} {W : WX} {cf : CF} {wf : Nat} {F F' : FS} {ρ ρ' : List Addr} {H H' : Hp}
theorem PostS.step {r : RS} {D : Ends} (s : Stp F ρ H F' ρ' H') (h : PostS K cl W F ρ H r D) : PostS K cl W F' ρ' H' r D := by
  cases r with
  | ok fl env st => exact fun F2 ρ2 H2 σ t q p => h F2 ρ2 H2 σ (s.trans t) q p
  | exc c x env st => exact fun F2 ρ2 H2 σ w d t => h F2 ρ2 H2 σ w d (s.trans t)
  | stuck => exact h
/-- an expression of a statement -/
theorem PostS.then {α β : Type} {R : FS → List Addr → Hp → α → β → Prop} {r : Res α} {env : Env} {f : α → Store → RS} {D : Ends} {σ : L2.St} {Q : β → Hp → Prop} (hE : ER F ρ K H env σ) (h : PostS K cl W F ρ H (r.then env f) D)
    (k : ∀ (a : α) (st : Store) (F' : FS) (ρ' : List Addr) (H' : Hp) (b : β), Stp F ρ H F' ρ' H' → SR F' ρ' K st H' → R F' ρ' H' a b → PostS K cl W F' ρ' H' (f a st) D → Q b H') : Post R cl W σ F ρ K H r Q := by
  cases r with
  | ok a st => exact fun F2 ρ2 H2 b t q p => k a st F2 ρ2 H2 b t q p (PostS.step t h)
  | exc c x st => exact fun F2 ρ2 H2 w d t q p e => h F2 ρ2 H2 σ w d t q (t.er hE) p e
  | stuck => exact h
def tSt (K : Fg) (cl : Nat → Value) (W : WX) (cf : CF) (wf : Nat) (s : S) : TS := fun D σ H => Sta K σ H fun F ρ env st => PostS K cl W F ρ H (exec cf wf s env st) D
def tSts (K : Fg) (cl : Nat → Value) (W : WX) (cf : CF) (wf : Nat) (s : List S) : TS := fun D σ H => Sta K σ H fun F ρ env st => PostS K cl W F ρ H (execs cf wf s env st) D
theorem seq_imp {s : S} {ss : List S} {D : Ends} {σ : L2.St} (h : tSts K cl W cf wf (s :: ss) D σ H) : tSeq (tSt K cl W cf wf s) (tSts K cl W cf wf ss) D σ H := by
  obtain ⟨F, ρ, env, st, hS, hE, p⟩ := h
  refine ⟨F, ρ, env, st, hS, hE, ?_⟩
  simp only [execs] at p
  cases hr : exec cf wf s env st with
  | ok fl env1 st1 =>
    rw [hr] at p ⊢
    cases fl with
    | next =>
      intro F2 ρ2 H2 σ2 t q e
      exact ⟨F2, ρ2, env1, st1, q, e, PostS.step t p⟩
    | brk => exact p
    | cont => exact p
    | ret v => exact p
  | exc c x env1 st1 => rw [hr] at p ⊢; exact p
  | stuck => rw [hr] at p ⊢; exact p
end
/-! ### which statements -/
def notTup : Expr → Bool
  | .Tuple .. => false
  | _ => true
def isName : Expr → Bool
  | .Name .. => true
  | _ => false
/-- two names in a row on one line, stored from a display of two that is not all constants -/
def parOk (sc : Scope) (x y : Str) (px py : Pos) (u v : Expr) : Bool := decide (sc.names.lookup x = some .local) && decide (sc.names.lookup y = some .local) && (py.line == px.line) && !(foldedForSure 8 u && foldedForSure 8 v) && !(constantsAlone 8 u && constantsAlone 8 v)
def parNo (sc : Scope) (x y : Str) : Bool := !decide (sc.names.lookup x = some .local) || !decide (sc.names.lookup y = some .local)
mutual
def okS (G : Gb) (N : List Str) (sc : Scope) (fn : Str → Bool) : S → Stmt → Bool
  | .set (.nm i) e, .Assign [.Name x _] v _ => decide (N[i]? = some x) && loc fn sc x && okE G N e sc v
  | .set (.tp ps) e, .Assign [.Tuple es _ _] v _ => okPs N sc fn ps es && okE G N e sc v && notTup v && !isComp v
  | .setM i e, .Assign [.Name x _] v _ => decide (N[i]? = some x) && loc fn sc x && okE G N e sc v
  | .par i j _ _ a b, .Assign [.Tuple [.Name x px, .Name y py] _ _] (.Tuple [u, v] _ _) _ => decide (N[i]? = some x) && decide (N[j]? = some y) && decide (i ≠ j) && loc fn sc x && loc fn sc y && okE G N a sc u && okE G N b sc v && notStar u && notStar v &&
      (parOk sc x y px py u v || parNo sc x y)
  | .setI o i e, .Assign [.Subscript o' i' _] v _ => okE G N o sc o' && okE G N i sc i' && okE G N e sc v && !isSlice i' && !isComp v
  | .expr e, .Expr v _ => okE G N e sc v && !isComp v
  | .ret e, .Return (some v) _ => okE G N e sc v
  | .retN, .Return none _ => true
  | .ife c a b, .If t x y _ => okE G N c sc t && okSs G N sc fn a x && okSs G N sc fn b y
  | .for p it body, .For tg iter bd [] _ => okE G N it sc iter && !isSet iter && okP N sc fn p tg && okSs G N sc fn body bd
  | .whl c body, .While t bd [] _ => okE G N c sc t && okSs G N sc fn body bd
  | .pass, .Pass _ => true
  | .brk, .Break _ => true
  | .cont, .Continue _ => true
  | _, _ => false
def okSs (G : Gb) (N : List Str) (sc : Scope) (fn : Str → Bool) : List S → List Stmt → Bool
  | [], [] => true
  | s :: ss, t :: ts => okS G N sc fn s t && okSs G N sc fn ss ts
  | _, _ => false
end
/-- a context in which statements run -/
structure XS (G : Gb) (N : List Str) (sc : Scope) (fn : Str → Bool) (cl : Nat → Value) (W : WX) (cf : CF) (X : Cx) : Prop extends XOk G N sc fn cl W cf X where
  own : PassesOwn (model X.prog X.w) X.A X.env X.xe
section
variable {G : Gb} {N : List Str} {sc : Scope} {fn : Str → Bool} {cl : Nat → Value} {W : WX} {cf : CF} {wf : Nat} {X : Cx} {pos : Pos}
abbrev PSx (X : Cx) (cl : Nat → Value) (W : WX) (cf : CF) (wf : Nat) (c : S) (s : Stmt) : Prop := PS X s (tSt X.K cl W cf wf c)
abbrev PSsx (X : Cx) (cl : Nat → Value) (W : WX) (cf : CF) (wf : Nat) (c : List S) (s : List Stmt) : Prop := PSs X s (tSts X.K cl W cf wf c)
theorem ss_nil : PSsx X cl W cf wf [] [] := PSs.imp pss_nil fun D σ H h => by
  obtain ⟨F, ρ, env, st, hS, hE, p⟩ := h
  simp only [execs] at p
  exact p F ρ H σ .refl hS hE
theorem ss_cons {c : S} {cs : List S} {s : Stmt} {ss : List Stmt} (h1 : PSx X cl W cf wf c s) (h2 : PSsx X cl W cf wf cs ss) : PSsx X cl W cf wf (c :: cs) (s :: ss) := PSs.imp (pss_cons h1 h2) fun D σ H h => seq_imp h
theorem set_imp {i : Nat} {e : E} {D : Ends} {σ : L2.St} {H : Hp} (h : tSt X.K cl W cf wf (.set (.nm i) e) D σ H) : tAsg (tS X.K cl W cf e) (gName i) D σ H := by
  obtain ⟨F, ρ, env, st, hS, hE, p⟩ := h
  simp only [exec] at p
  refine ⟨F, ρ, env, st, hS, hE, PostS.then hE p fun t st1 F1 ρ1 H1 u s1 q1 r1 p1 => ?_⟩
  simp only [bindP] at p1
  exact p1 F1 ρ1 H1 _ .refl q1 ((s1.er hE).set r1)
def tF (K : Fg) (cl : Nat → Value) (W : WX) (cf : CF) (m : Bool) (c : E) : TE := fun σ H Q => Sta K σ H fun F ρ env st => Post (RT_ K) cl W σ F ρ K H (evalF m (evalE cf c env st)) Q
theorem tF_E {K : Fg} {m : Bool} {c : E} {σ : L2.St} {H : Hp} {Q : VK} (h : tF K cl W cf m c σ H Q) : tE K cl W cf c σ H Q := by
  obtain ⟨F, ρ, env, st, hS, hE, p⟩ := h
  unfold evalF at p
  cases m with
  | false => exact tS_E ⟨F, ρ, env, st, hS, hE, p⟩
  | true =>
    rw [if_pos rfl] at p
    refine ⟨F, ρ, env, st, hS, hE, Post.bind p fun a st1 F1 ρ1 H1 b s q r p1 => ?_⟩
    cases a with
    | t v => exact p1 F1 ρ1 H1 b .refl q r
    | new xs =>
      obtain ⟨ρ2, s2, q2, r2⟩ := q.alloc r
      exact p1 F1 ρ2 H1 b s2 q2 r2
theorem setM_imp {i : Nat} {e : E} {D : Ends} {σ : L2.St} {H : Hp} (h : tSt X.K cl W cf wf (.setM i e) D σ H) : tAsg (tF X.K cl W cf true e) (gName i) D σ H := by
  obtain ⟨F, ρ, env, st, hS, hE, p⟩ := h
  simp only [exec] at p
  refine ⟨F, ρ, env, st, hS, hE, PostS.then hE p fun t st1 F1 ρ1 H1 u s1 q1 r1 p1 => ?_⟩
  exact p1 F1 ρ1 H1 _ .refl q1 ((s1.er hE).set r1)
end
end MP


/-! MP, part t: soundness of statements. -/
namespace MP
open PySem PySem.Spec L2
theorem par_swap {x y : Str} {px py pt pt2 : Pos} {kt k2 : Nat} {u v : Expr} {env : PySem.Env} (hk : env.scope.kind = .function) (hx : env.scope.names.lookup x = some .local) (hy : env.scope.names.lookup y = some .local) (hl : (py.line == px.line) = true) (hxy : x ≠ y)
    (hu : notStar u = true) (hv : notStar v = true) (hf : (foldedForSure 8 u && foldedForSure 8 v) = false) (hc : (constantsAlone 8 u && constantsAlone 8 v) = false) :
    swappedStores [.Tuple [.Name x px, .Name y py] kt pt] (.Tuple [u, v] k2 pt2) env = pure (some [x, y]) := by
  have kx : env.kindOf x = some .local := hx
  have ky : env.kindOf y = some .local := hy
  have hb : env.blockKind = .function := by unfold Env.blockKind; rw [hk]; rfl
  have hd : ([x, y] : List Str).eraseDups = [x, y] := by
    simp [List.eraseDups_cons, hxy, Ne.symm hxy]
  unfold swappedStores
  simp only [hb, kx, ky, hl, hf, hc, Expr.pos, List.filterMap, List.length, List.head?, Option.map, Option.getD, List.any, List.all, Bool.and_true, hd]
  simp [hl, hd]
  rintro (h | h)
  · cases u <;> first | (cases h; done) | (cases hu; done)
  · cases v <;> first | (cases h; done) | (cases hv; done)
theorem par_noswap {x y : Str} {px py pt pt2 : Pos} {kt k2 : Nat} {u v : Expr} {env : PySem.Env} (hn : parNo env.scope x y = true) :
    swappedStores [.Tuple [.Name x px, .Name y py] kt pt] (.Tuple [u, v] k2 pt2) env = pure none := by
  unfold parNo at hn
  simp only [Bool.or_eq_true, Bool.not_eq_true', decide_eq_false_iff_not] at hn
  have hk : ¬ (env.kindOf x = some .local ∧ env.kindOf y = some .local) := fun z => hn.elim (fun h => h z.1) fun h => h z.2
  unfold swappedStores
  by_cases hx : env.kindOf x = some .local
  · have hy : ¬ env.kindOf y = some .local := fun z => hk ⟨hx, z⟩
    simp [hx, hy, List.filterMap, Expr.pos]
  · by_cases hy : env.kindOf y = some .local
    · simp only [List.filterMap, Expr.pos, List.head?, Option.map, Option.getD]
      by_cases hl : py.line = px.line
      · simp [hx, hy, hl]
      · simp [hx, hy, hl]
    · simp [hx, hy, List.filterMap]

section
variable {G : Gb} {N : List Str} {sc : Scope} {fn : Str → Bool} {cl : Nat → Value} {W : WX} {cf : CF} {wf : Nat} {X : Cx} {pos : Pos}
theorem noSwap1 {e t : Expr} {l : Nat} {env : PySem.Env} (h : isComp e = false) : swapsWithSole [t] e l env = pure false := by
  unfold swapsWithSole
  exact noSwap h
/-- name = value, whatever the value -/
theorem asg_any (x : XS G N sc fn cl W cf X) {i : Nat} {y : Str} {e : E} {v : Expr} {pn : Pos} (hi : N[i]? = some y) (hl : loc fn sc y = true) (ho : okE G N e sc v = true) : PS X (.Assign [.Name y pn] v pos) (tAsg (tE X.K cl W cf e) (gName i)) := by
  obtain ⟨l1, l2⟩ := loc_ok x.toXOk hl
  have nd : X.N.Nodup := by rw [x.hN]; exact x.nd
  have hi' : X.N[i]? = some y := by rw [x.hN]; exact hi
  have pe := (ex_all e).e x.toXOk v ho
  by_cases hc : isComp v = false
  · exact ps_set nd hi' l1 pe (noSwap hc) l2
  · cases e with
    | comp own p it conds elt =>
      obtain ⟨el, tg, iter, ifs, scope, q, rfl, h1, h2, h3, h4, h5, h6, h7⟩ := comp_inv ho
      have hsw : ∃ b, swapsWith (.ListComp el [⟨tg, iter, ifs, 0⟩] scope q) (some (.Name y pn)) pos.line X.env = pure b ∧ (b = true → X.env.kindOf y = some .local) := by
        refine ⟨X.env.blockKind == .function && X.env.kindOf y == some .local && pn.line == q.line && !(scope.names.any fun (n, k) => n == y && (k == .local || k == .cell)), rfl, fun h => ?_⟩
        simp only [Bool.and_eq_true, beq_iff_eq] at h
        exact h.1.1.2
      obtain ⟨b, hb, hb2⟩ := hsw
      cases b with
      | false => exact ps_set nd hi' l1 pe hb l2
      | true =>
        have bo : BlkOk X.N X.env.scope scope (own.map fun i => (N.getD i "", i)) := by rw [x.hN, x.hsc]; exact blkOk_by h3
        have eo : (own.map fun i => (N.getD i "", i)).map (fun q => q.2) = own := by
          rw [List.map_map]
          exact List.map_id own
        refine PS.imp (ps_setLc (i := i) (y := y) (g := tP X.K p) (tt := tCs X.K cl W0 cf conds) (te := tS X.K cl W0 cf elt) x.calm nd hi' (hb2 rfl) hb ((ex_all it).i x.toXOk tg _ h1) bo
          (fun s H C cs fp => g_pat (x.toXOk.blk s H scope C cs fp) _ _ h4) (fun s H C cs fp => (exs_all conds).c (x.toXOk.blk s H scope C cs fp) _ h5) (fun s H C cs fp => ((ex_all elt).e (x.toXOk.blk s H scope C cs fp) _ h6).s) (noFold h2)) fun D σ H h => ?_
        rw [eo]
        exact comp_imp h7 h
    | _ =>
      exfalso
      apply hc
      cases v <;> first | rfl | (simp [okE] at ho; done)
theorem s_set (x : XS G N sc fn cl W cf X) {i : Nat} {y : Str} {e : E} {v : Expr} {pn : Pos} (hi : N[i]? = some y) (hl : loc fn sc y = true) (ho : okE G N e sc v = true) : PSx X cl W cf wf (.set (.nm i) e) (.Assign [.Name y pn] v pos) :=
  PS.imp (asg_any x hi hl ho) fun D σ H h => tS_E (set_imp h)
theorem s_setM (x : XS G N sc fn cl W cf X) {i : Nat} {y : Str} {e : E} {v : Expr} {pn : Pos} (hi : N[i]? = some y) (hl : loc fn sc y = true) (ho : okE G N e sc v = true) : PSx X cl W cf wf (.setM i e) (.Assign [.Name y pn] v pos) :=
  PS.imp (asg_any x hi hl ho) fun D σ H h => tF_E (setM_imp h)
theorem s_tup (x : XS G N sc fn cl W cf X) {ps : List Pat} {e : E} {v : Expr} {es : List Expr} {k : Nat} {q : Pos} (hp : okPs N sc fn ps es = true) (ho : okE G N e sc v = true) (ht : notTup v = true) (hc : isComp v = false) : PSx X cl W cf wf (.set (.tp ps) e) (.Assign [.Tuple es k q] v pos) := by
  have hw : swappedStores [.Tuple es k q] v X.env = pure none := by cases v <;> first | rfl | (cases ht; done)
  have hp' : okP N sc fn (.tp ps) (.Tuple es k q) = true := by simp only [okP]; exact hp
  refine PS.imp (ps_asg ((ex_all e).e x.toXOk v ho).s (g_pat x.toXOk _ _ hp') (noSwap1 hc) hw (by rw [asg_star rfl]; rfl)) fun D σ H h => ?_
  obtain ⟨F, ρ, env, st, hS, hE, p⟩ := h
  simp only [exec] at p
  refine ⟨F, ρ, env, st, hS, hE, PostS.then hE p fun t st1 F1 ρ1 H1 u s1 q1 r1 p1 => ?_⟩
  cases hb : bindP st1 (.tp ps) t env with
  | none => rw [hb] at p1; exact p1.elim
  | some env' =>
    rw [hb] at p1
    exact ⟨F1, ρ1, env, st1, t, env', q1, s1.er hE, r1, hb, fun σ' e1 e2 => p1 F1 ρ1 H1 σ' .refl q1 e1⟩
theorem s_expr (x : XS G N sc fn cl W cf X) {e : E} {v : Expr} (ho : okE G N e sc v = true) (hc : isComp v = false) : PSx X cl W cf wf (.expr e) (.Expr v pos) := by
  refine PS.imp (ps_expr ((ex_all e).e x.toXOk v ho) (noSwap hc)) fun D σ H h => ?_
  obtain ⟨F, ρ, env, st, hS, hE, p⟩ := h
  simp only [exec] at p
  refine ⟨F, ρ, env, st, hS, hE, PostS.then hE p fun t st1 F1 ρ1 H1 u s1 q1 r1 p1 => ?_⟩
  exact p1 F1 ρ1 H1 σ .refl q1 (s1.er hE)
theorem s_ret (x : XS G N sc fn cl W cf X) {e : E} {v : Expr} (ho : okE G N e sc v = true) : PSx X cl W cf wf (.ret e) (.Return (some v) pos) := by
  refine PS.imp (ps_ret ((ex_all e).e x.toXOk v ho)) fun D σ H h => ?_
  obtain ⟨F, ρ, env, st, hS, hE, p⟩ := h
  simp only [exec] at p
  refine ⟨F, ρ, env, st, hS, hE, PostS.then hE p fun t st1 F1 ρ1 H1 u s1 q1 r1 p1 => ?_⟩
  exact p1 F1 ρ1 H1 σ .refl q1 (s1.er hE) u r1
theorem s_retN : PSx X cl W cf wf .retN (.Return none pos) := by
  refine PS.imp ps_retN fun D σ H h => ?_
  obtain ⟨F, ρ, env, st, hS, hE, p⟩ := h
  simp only [exec] at p
  exact p F ρ H σ .refl hS hE _ rv_none
theorem s_pass : PSx X cl W cf wf .pass (.Pass pos) := by
  refine PS.imp ps_pass fun D σ H h => ?_
  obtain ⟨F, ρ, env, st, hS, hE, p⟩ := h
  simp only [exec] at p
  exact p F ρ H σ .refl hS hE
theorem s_brk : PSx X cl W cf wf .brk (.Break pos) := by
  refine PS.imp ps_break fun D σ H h => ?_
  obtain ⟨F, ρ, env, st, hS, hE, p⟩ := h
  simp only [exec] at p
  exact p F ρ H σ .refl hS hE
theorem s_cont : PSx X cl W cf wf .cont (.Continue pos) := by
  refine PS.imp ps_continue fun D σ H h => ?_
  obtain ⟨F, ρ, env, st, hS, hE, p⟩ := h
  simp only [exec] at p
  exact p F ρ H σ .refl hS hE
theorem s_if (x : XS G N sc fn cl W cf X) {c : E} {a b : List S} {t : Expr} {u v : List Stmt} (ho : okE G N c sc t = true) (ha : PSsx X cl W cf wf a u) (hb : PSsx X cl W cf wf b v) : PSx X cl W cf wf (.ife c a b) (.If t u v pos) := by
  refine PS.imp (ps_if ((ex_all c).t x.toXOk t ho) ha hb) fun D σ H h => ?_
  obtain ⟨F, ρ, env, st, hS, hE, p⟩ := h
  simp only [exec] at p
  refine ⟨F, ρ, env, st, hS, hE, PostS.then hE p fun d st1 F1 ρ1 H1 k s1 q1 r1 p1 => ?_⟩
  cases (show k = truthD d from r1)
  cases hd : truthD d with
  | true => rw [hd] at p1; exact ⟨F1, ρ1, env, st1, q1, s1.er hE, p1⟩
  | false => rw [hd] at p1; exact ⟨F1, ρ1, env, st1, q1, s1.er hE, p1⟩
theorem s_setI (x : XS G N sc fn cl W cf X) {o i e : E} {o' i' v : Expr} {pt : Pos} (h1 : okE G N o sc o' = true) (h2 : okE G N i sc i' = true) (h3 : okE G N e sc v = true) (hs : isSlice i' = false) (hc : isComp v = false) : PSx X cl W cf wf (.setI o i e) (.Assign [.Subscript o' i' pt] v pos) := by
  have hg := pg_sub (X := X) (pos := pt) ((ex_all o).e x.toXOk o' h1).s ((ex_all i).e x.toXOk i' h2).r ob_set (by intro w; cases i' <;> first | rfl | (cases hs; done))
  refine PS.imp (ps_asg ((ex_all e).e x.toXOk v h3).s hg (noSwap1 hc) (by cases v <;> rfl) (by rw [asg_star rfl]; rfl)) fun D σ H h => ?_
  obtain ⟨F, ρ, env, st, hS, hE, p⟩ := h
  simp only [exec] at p
  refine ⟨F, ρ, env, st, hS, hE, PostS.then hE p fun t st1 F1 ρ1 H1 u s1 q1 r1 p1 => ?_⟩
  refine ⟨F1, ρ1, env, st1, q1, s1.er hE, PostS.then (s1.er hE) p1 fun t2 st2 F2 ρ2 H2 u2 s2 q2 r2 p2 => ?_⟩
  refine ⟨F2, ρ2, env, st2, q2, s2.er (s1.er hE), PostS.then (s2.er (s1.er hE)) p2 fun k st3 F3 ρ3 H3 u3 s3 q3 r3 p3 => ?_⟩
  cases t with
  | ref n => exact p3.elim
  | d y =>
    cases t2 with
    | d z => exact p3.elim
    | ref n =>
      cases k with
      | int k =>
        simp only at p3
        cases hc : st3[n]? with
        | none => rw [hc] at p3; exact p3.elim
        | some cc =>
          cases cc with
          | dead => rw [hc] at p3; exact p3.elim
          | lst xs =>
            rw [hc] at p3
            simp only at p3
            cases hj : MP.ixN xs.length k with
            | none => rw [hj] at p3; exact p3.elim
            | some j =>
              rw [hj] at p3
              obtain ⟨a, hn, rfl⟩ := s3.tr r2
              refine ⟨F3, ρ3, st3, n, a, xs, k, j, y, q3, hn, rfl, r3.int_iff, hc, hj, s3.rd (s2.rd r1), fun H' t1 t2 => ?_⟩
              exact p3 F3 ρ3 H' σ t1 t2 (t1.er (s3.er (s2.er (s1.er hE))))
      | _ => exact p3.elim
end
end MP


/-! MP, part u: pairs, loops, all statements. -/
namespace MP
open PySem PySem.Spec L2
def forG (nx : Nat → Store → Option (Option D)) (f : D → Env → Store → RS) : Nat → Nat → Env → Store → RS
  | 0, _, _, _ => .stuck
  | k + 1, i, env, st => match nx i st with
    | some (some x) => (f x env st).turn fun env' st' => forG nx f k (i + 1) env' st'
    | some none => .ok .next env st
    | none => .stuck
theorem forL_G {f : D → Env → Store → RS} : ∀ (m : Nat) {xs : List D} {i : Nat} {env : Env} {st : Store}, m = xs.length - i → i ≤ xs.length → forL f (xs.drop i) env st = forG (nxOf (.fz xs)) f (m + 1) i env st
  | 0, xs, i, env, st, h, hi => by
    have e : xs.drop i = [] := List.drop_eq_nil_of_le (by omega)
    have e2 : xs[i]? = none := List.getElem?_eq_none (by omega)
    rw [e]
    simp only [forL, forG, nxOf, e2]
  | m + 1, xs, i, env, st, h, hi => by
    have hlt : i < xs.length := by omega
    have e : xs.drop i = xs[i] :: xs.drop (i + 1) := List.drop_eq_getElem_cons hlt
    have e2 : xs[i]? = some xs[i] := List.getElem?_eq_getElem hlt
    rw [e, forG]
    simp only [forL, nxOf, e2]
    congr 1
    funext env' st'
    rw [forL_G m (by omega) (by omega)]
theorem forC_G {f : D → Env → Store → RS} {n : Nat} : ∀ (k i : Nat) (env : Env) (st : Store), forC f n k i env st = forG (nxOf (.cell n)) f k i env st
  | 0, _, _, _ => rfl
  | k + 1, i, env, st => by
    rw [forC, forG]
    simp only [nxOf]
    cases st[n]? with
    | none => rfl
    | some c =>
      cases c with
      | dead => rfl
      | lst xs =>
        simp only
        cases xs[i]? with
        | none => rfl
        | some x =>
          simp only
          congr 1
          funext env' st'
          rw [forC_G k]
theorem forSrc_G {f : D → Env → Store → RS} {src : Src} {env : Env} {st : Store} : forSrc f src env st = .stuck ∨ ∃ k, forSrc f src env st = forG (nxOf src) f k 0 env st := by
  cases src with
  | fz xs =>
    refine .inr ⟨xs.length + 1, ?_⟩
    rw [← forL_G xs.length (by omega) (by omega)]
    rfl
  | cell n =>
    simp only [forSrc]
    split
    · rename_i xs _
      exact .inr ⟨xs.length + 1, forC_G _ _ _ _⟩
    · exact .inl rfl
theorem then_bind {α β : Type} {r : Res α} {g : α → β} {env : Env} {k : β → Store → RS} : (r.bind fun x st => Res.ok (g x) st).then env k = r.then env fun x st => k (g x) st := by
  cases r <;> rfl
section
variable {G : Gb} {N : List Str} {sc : Scope} {fn : Str → Bool} {cl : Nat → Value} {W : WX} {cf : CF} {wf : Nat} {X : Cx} {pos : Pos}
/-- a turn's end -/
theorem turn_post {K : Fg} {F : FS} {ρ : List Addr} {H : Hp} {r : RS} {k : Env → Store → RS} {D : Ends} {M : L2.St → Hp → Prop} (h : PostS K cl W F ρ H (r.turn k) D)
    (hM : ∀ (env : Env) (st : Store) (F' : FS) (ρ' : List Addr) (H' : Hp) (σ' : L2.St), Stp F ρ H F' ρ' H' → SR F' ρ' K st H' → ER F' ρ' K H' env σ' → PostS K cl W F' ρ' H' (k env st) D → M σ' H') :
    PostS K cl W F ρ H r { D with nx := M, ct := M, bk := D.nx } := by
  cases r with
  | ok fl env st =>
    cases fl with
    | next => exact fun F' ρ' H' σ' t q e => hM env st F' ρ' H' σ' t q e (PostS.step t h)
    | cont => exact fun F' ρ' H' σ' t q e => hM env st F' ρ' H' σ' t q e (PostS.step t h)
    | brk => exact h
    | ret v => exact h
  | exc c x env st => exact h
  | stuck => exact h
theorem s_for (x : XS G N sc fn cl W cf X) {p : Pat} {it : E} {body : List S} {tg iter : Expr} {bd : List Stmt} (hi : okE G N it sc iter = true) (hs : isSet iter = false) (hp : okP N sc fn p tg = true) (hb : PSsx X cl W cf wf body bd) :
    PSx X cl W cf wf (.for p it body) (.For tg iter bd [] pos) := by
  refine PS.imp (ps_for x.own x.calm ((ex_all it).i x.toXOk tg iter hi) (g_pat x.toXOk p tg hp) hb (noFold hs)) fun D σ H h => ?_
  obtain ⟨F, ρ, env, st, hS, hE, pp⟩ := h
  simp only [exec] at pp
  refine ⟨F, ρ, env, st, hS, hE, PostS.then hE pp fun src st1 F1 ρ1 H1 J s1 q1 r1 p1 => ?_⟩
  rcases forSrc_G (f := fun y env st => bindThen (bindP st p (.d y) env) fun env' => execs cf wf body env' st) (src := src) (env := env) (st := st1) with hstk | ⟨k0, hk0⟩
  · rw [hstk] at p1
    exact p1.elim
  · rw [hk0] at p1
    have W1 : ∃ Wv : Nat → Nat → L2.St → Hp → Prop, Wv = fun i m σ' H' => ∃ (F' : FS) (ρ' : List Addr) (env' : Env) (st' : Store), SR F' ρ' X.K st' H' ∧ ER F' ρ' X.K H' env' σ' ∧ Stp F1 ρ1 H1 F' ρ' H' ∧ (∀ xs, src = .fz xs → i ≤ xs.length) ∧
        PostS X.K cl W F' ρ' H' (forG (nxOf src) (fun y env st => bindThen (bindP st p (.d y) env) fun env' => execs cf wf body env' st) m i env' st') D := ⟨_, rfl⟩
    obtain ⟨Wv, eW⟩ := W1
    refine ⟨Wv, ⟨k0, by rw [eW]; exact ⟨F1, ρ1, env, st1, q1, s1.er hE, .refl, fun _ _ => Nat.zero_le _, p1⟩⟩, fun i m σ' H' hW => ?_⟩
    rw [eW] at hW
    obtain ⟨F', ρ', env', st', q', e', sp, hfz, pw⟩ := hW
    cases m with
    | zero => exact pw.elim
    | succ m =>
      rw [forG] at pw
      cases hn : nxOf src i st' with
      | none => rw [hn] at pw; exact pw.elim
      | some o =>
        rw [hn] at pw
        cases o with
        | none => exact .inl ⟨src_stop r1 sp.lat q' hn hfz, pw F' ρ' H' σ' .refl q' e'⟩
        | some xx =>
          obtain ⟨ib, go, yl⟩ := src_go r1 sp.lat q' hn
          have hfz' : ∀ xs, src = .fz xs → i + 1 ≤ xs.length := fun xs e => by
            subst e
            simp only [nxOf, Option.some.injEq] at hn
            exact (List.getElem?_eq_some_iff.mp hn).1
          refine .inr ⟨go, fun σ2 H2 => Wv (i + 1) m σ2 H2, fun σ2 H2 h => ⟨m, Nat.lt_succ_self m, h⟩, fun v H'' y => ?_⟩
          obtain ⟨F2, s2, q2, r2⟩ := yl v H'' y
          have pw' := PostS.step s2 pw
          simp only at pw'
          cases hbp : bindP st' p (.d xx) env' with
          | none => rw [hbp] at pw'; exact pw'.elim
          | some env2 =>
            rw [hbp] at pw'
            refine ⟨F2, ρ', env', st', .d xx, env2, q2, s2.er e', r2, hbp, fun σ2 e1 _ => ?_⟩
            refine ⟨F2, ρ', env2, st', q2, e1, turn_post pw' fun env3 st3 F3 ρ3 H3 σ3 t3 q3 e3 p3 => ?_⟩
            rw [eW]
            exact ⟨F3, ρ3, env3, st3, q3, e3, (sp.trans s2).trans t3, hfz', p3⟩
theorem s_whl (x : XS G N sc fn cl W cf X) {c : E} {body : List S} {t : Expr} {bd : List Stmt} (hc : okE G N c sc t = true) (hb : PSsx X cl W cf wf body bd) : PSx X cl W cf wf (.whl c body) (.While t bd [] pos) := by
  refine PS.imp (ps_while x.own ((ex_all c).t x.toXOk t hc) hb) fun D σ H h => ?_
  obtain ⟨F, ρ, env, st, hS, hE, pp⟩ := h
  simp only [exec] at pp
  have W1 : ∃ Wv : Nat → L2.St → Hp → Prop, Wv = fun m σ' H' => ∃ (F' : FS) (ρ' : List Addr) (env' : Env) (st' : Store), SR F' ρ' X.K st' H' ∧ ER F' ρ' X.K H' env' σ' ∧
      PostS X.K cl W F' ρ' H' (whileL (fun env st => (readD (evalE cf c env st)).bind fun x st1 => .ok (truthD x) st1) (fun env st => execs cf wf body env st) m env' st') D := ⟨_, rfl⟩
  obtain ⟨Wv, eW⟩ := W1
  refine ⟨Wv, ⟨wf, by rw [eW]; exact ⟨F, ρ, env, st, hS, hE, pp⟩⟩, fun m σ' H' hW => ?_⟩
  rw [eW] at hW
  obtain ⟨F', ρ', env', st', q', e', pw⟩ := hW
  cases m with
  | zero => exact pw.elim
  | succ m =>
    rw [whileL, then_bind] at pw
    refine ⟨F', ρ', env', st', q', e', PostS.then e' pw fun d st1 F1 ρ1 H1 k s1 q1 r1 p1 => ?_⟩
    cases (show k = truthD d from r1)
    cases hd : truthD d with
    | false =>
      rw [hd] at p1
      rw [if_neg (by decide)] at p1 ⊢
      exact p1 F1 ρ1 H1 σ' .refl q1 (s1.er e')
    | true =>
      rw [hd] at p1
      rw [if_pos rfl] at p1 ⊢
      refine ⟨fun σ2 H2 => Wv m σ2 H2, fun σ2 H2 h => ⟨m, Nat.lt_succ_self m, h⟩, F1, ρ1, env', st1, q1, s1.er e', turn_post p1 fun env3 st3 F3 ρ3 H3 σ3 t3 q3 e3 p3 => ?_⟩
      rw [eW]
      exact ⟨F3, ρ3, env3, st3, q3, e3, p3⟩
theorem s_par (x : XS G N sc fn cl W cf X) {i j : Nat} {mi mj : Bool} {a b : E} {y z : Str} {py pz pt pt2 : Pos} {kt k2 : Nat} {u v : Expr} (hi : N[i]? = some y) (hj : N[j]? = some z) (hij : i ≠ j) (ly : loc fn sc y = true) (lz : loc fn sc z = true)
    (hk : sc.kind = .function) (ha : okE G N a sc u = true) (hb : okE G N b sc v = true) (hu : notStar u = true) (hv : notStar v = true) (hp : (parOk sc y z py pz u v || parNo sc y z) = true) :
    PSx X cl W cf wf (.par i j mi mj a b) (.Assign [.Tuple [.Name y py, .Name z pz] kt pt] (.Tuple [u, v] k2 pt2) pos) := by
  have nd : X.N.Nodup := by rw [x.hN]; exact x.nd
  have hi' : X.N[i]? = some y := by rw [x.hN]; exact hi
  have hj' : X.N[j]? = some z := by rw [x.hN]; exact hj
  have hyz : y ≠ z := fun e => by
    subst e
    exact hij (nodup_ix nd hi' hj')
  have pa : PA X [u, v] (tCons (tF X.K cl W cf mi a) (tCons (tF X.K cl W cf mj b) tNil)) :=
    pa_cons (PE.imp ((ex_all a).e x.toXOk u ha) fun _ _ _ => tF_E) (pa_cons (PE.imp ((ex_all b).e x.toXOk v hb) fun _ _ _ => tF_E) pa_nil (star_ok hv)) (star_ok hu)
  have core : ∀ {D : Ends} {σ : L2.St} {H : Hp}, tSt X.K cl W cf wf (.par i j mi mj a b) D σ H → tF X.K cl W cf mi a σ H fun w1 H1 => tF X.K cl W cf mj b σ H1 fun w2 H2 => ∃ F2 ρ2 st2 env2, SR F2 ρ2 X.K st2 H2 ∧ ER F2 ρ2 X.K H2 env2 ((σ.set i (some w1)).set j (some w2)) ∧
      PostS X.K cl W F2 ρ2 H2 (.ok .next env2 st2) D := by
    intro D σ H h
    obtain ⟨F, ρ, env, st, hS, hE, p⟩ := h
    simp only [exec] at p
    refine ⟨F, ρ, env, st, hS, hE, PostS.then hE p fun t1 st1 F1 ρ1 H1 w1 s1 q1 r1 p1 => ?_⟩
    refine ⟨F1, ρ1, env, st1, q1, s1.er hE, PostS.then (s1.er hE) p1 fun t2 st2 F2 ρ2 H2 w2 s2 q2 r2 p2 => ?_⟩
    exact ⟨F2, ρ2, st2, _, q2, ((s2.er (s1.er hE)).set (s2.tr r1)).set r2, p2⟩
  rw [Bool.or_eq_true] at hp
  rcases hp with hp | hp
  · unfold parOk at hp
    simp only [Bool.and_eq_true, decide_eq_true_eq, Bool.not_eq_true'] at hp
    obtain ⟨⟨⟨⟨h1, h2⟩, h3⟩, h4⟩, h5⟩ := hp
    have sk : X.env.scope.kind = .function := by rw [x.hsc]; exact hk
    refine PS.imp (ps_par x.calm nd hi' hj' hij (by rw [x.hsc]; exact h1) (by rw [x.hsc]; exact h2) pa (par_swap sk (by rw [x.hsc]; exact h1) (by rw [x.hsc]; exact h2) h3 hyz hu hv h4 h5) (noSwap1 rfl)) fun D σ H h => ?_
    obtain ⟨F, ρ, env, st, hS, hE, p⟩ := core h
    refine ⟨F, ρ, env, st, hS, hE, Post.map p fun t1 st1 F1 ρ1 H1 w1 er s1 q1 r1 => ?_⟩
    rw [er] at p
    obtain ⟨F2, ρ2, env2, st2, q2, e2, p2⟩ := p F1 ρ1 H1 w1 s1 q1 r1
    refine ⟨F2, ρ2, env2, st2, q2, e2, Post.map p2 fun t3 st3 F3 ρ3 H3 w3 er3 s3 q3 r3 => ?_⟩
    rw [er3] at p2
    obtain ⟨F4, ρ4, st4, env4, q4, e4, p4⟩ := p2 F3 ρ3 H3 w3 s3 q3 r3
    exact ⟨w1, w3, rfl, p4 F4 ρ4 H3 _ .refl q4 e4⟩
  · obtain ⟨l1, l2⟩ := loc_ok x.toXOk ly
    obtain ⟨l3, l4⟩ := loc_ok x.toXOk lz
    have pg := pg_tup (X := X) (k := kt) (pos := pt) x.calm (pgs_cons (pg_name (pos := py) nd hi' l1 l2) (pgs_cons (pg_name (pos := pz) nd hj' l3 l4) pgs_nil))
    refine PS.imp (ps_asg (pe_tup (x1 := k2) (pos := pt2) pa) pg (noSwap1 rfl) (par_noswap (by rw [x.hsc]; exact hp)) (by rw [asg_star rfl]; rfl)) fun D σ H h => ?_
    obtain ⟨F, ρ, env, st, hS, hE, p⟩ := core h
    refine ⟨F, ρ, env, st, hS, hE, Post.map p fun t1 st1 F1 ρ1 H1 w1 er s1 q1 r1 => ?_⟩
    rw [er] at p
    obtain ⟨F2, ρ2, env2, st2, q2, e2, p2⟩ := p F1 ρ1 H1 w1 s1 q1 r1
    refine ⟨F2, ρ2, env2, st2, q2, e2, Post.map p2 fun t3 st3 F3 ρ3 H3 w3 er3 s3 q3 r3 => ?_⟩
    rw [er3] at p2
    obtain ⟨F4, ρ4, st4, env4, q4, e4, p4⟩ := p2 F3 ρ3 H3 w3 s3 q3 r3
    refine ⟨by show 2 ≤ sizeLine; decide, fun pp hpp => ?_⟩
    obtain ⟨t1', t2', _, _⟩ := q4.grow (o := .tup [w1, w3]) hpp
    refine ⟨pp, [w1, w3], rfl, SqT.of upd_same, rfl, w1, [w3], rfl, w3, [], rfl, rfl, ?_⟩
    exact p4 F4 ρ4 _ _ t1' t2' (t1'.er e4)
end
end MP


/-! MP, part v: all statements. -/
namespace MP
open PySem PySem.Spec L2
section
variable {G : Gb} {N : List Str} {sc : Scope} {fn : Str → Bool}
structure SSnd (G : Gb) (N : List Str) (sc : Scope) (fn : Str → Bool) (c : S) : Prop where
  s : ∀ {cl : Nat → Value} {W : WX} {cf : CF} {wf : Nat} {X : Cx}, XS G N sc fn cl W cf X → sc.kind = .function → ∀ t, okS G N sc fn c t = true → PSx X cl W cf wf c t
structure SSnds (G : Gb) (N : List Str) (sc : Scope) (fn : Str → Bool) (c : List S) : Prop where
  s : ∀ {cl : Nat → Value} {W : WX} {cf : CF} {wf : Nat} {X : Cx}, XS G N sc fn cl W cf X → sc.kind = .function → ∀ t, okSs G N sc fn c t = true → PSsx X cl W cf wf c t
theorem set_inv {p : Pat} {e : E} {t : Stmt} (h : okS G N sc fn (.set p e) t = true) : (∃ i y pn v q, p = .nm i ∧ t = .Assign [.Name y pn] v q ∧ N[i]? = some y ∧ loc fn sc y = true ∧ okE G N e sc v = true) ∨
    ∃ ps es k pt v q, p = .tp ps ∧ t = .Assign [.Tuple es k pt] v q ∧ okPs N sc fn ps es = true ∧ okE G N e sc v = true ∧ notTup v = true ∧ isComp v = false := by
  unfold okS at h
  split at h <;> first | (cases h; done) | (rename_i hb; cases hb)
  · simp only [Bool.and_eq_true, decide_eq_true_eq] at h
    exact .inl ⟨_, _, _, _, _, rfl, rfl, h.1.1, h.1.2, h.2⟩
  · simp only [Bool.and_eq_true, Bool.not_eq_true'] at h
    exact .inr ⟨_, _, _, _, _, _, rfl, rfl, h.1.1.1, h.1.1.2, h.1.2, h.2⟩
theorem sn_set (p : Pat) (e : E) : SSnd G N sc fn (.set p e) := ⟨fun x hk t h => by
  rcases set_inv h with ⟨_, _, _, _, _, rfl, rfl, h1, h2, h3⟩ | ⟨_, _, _, _, _, _, rfl, rfl, h1, h2, h3, h4⟩
  · exact s_set x h1 h2 h3
  · exact s_tup x h1 h2 h3 h4⟩
theorem sn_setM (i : Nat) (e : E) : SSnd G N sc fn (.setM i e) := ⟨fun x hk t h => by
  unfold okS at h
  split at h <;> first | (cases h; done) | (rename_i hb; cases hb)
  simp only [Bool.and_eq_true, decide_eq_true_eq] at h
  exact s_setM x h.1.1 h.1.2 h.2⟩
theorem par_inv {i j : Nat} {mi mj : Bool} {a b : E} {t : Stmt} (h : okS G N sc fn (.par i j mi mj a b) t = true) : ∃ y py z pz kt pt u v k2 pt2 q, t = .Assign [.Tuple [.Name y py, .Name z pz] kt pt] (.Tuple [u, v] k2 pt2) q ∧
    N[i]? = some y ∧ N[j]? = some z ∧ i ≠ j ∧ loc fn sc y = true ∧ loc fn sc z = true ∧ okE G N a sc u = true ∧ okE G N b sc v = true ∧ notStar u = true ∧ notStar v = true ∧ (parOk sc y z py pz u v || parNo sc y z) = true := by
  unfold okS at h
  split at h <;> first | (cases h; done) | (rename_i hb; cases hb)
  rw [Bool.and_eq_true] at h
  obtain ⟨h, hp⟩ := h
  simp only [Bool.and_eq_true, decide_eq_true_eq] at h
  obtain ⟨⟨⟨⟨⟨⟨⟨⟨h1, h2⟩, h3⟩, h4⟩, h5⟩, h6⟩, h7⟩, h8⟩, h9⟩ := h
  exact ⟨_, _, _, _, _, _, _, _, _, _, _, rfl, h1, h2, h3, h4, h5, h6, h7, h8, h9, hp⟩
theorem sn_par (i j : Nat) (mi mj : Bool) (a b : E) : SSnd G N sc fn (.par i j mi mj a b) := ⟨fun x hk t h => by
  obtain ⟨_, _, _, _, _, _, _, _, _, _, _, rfl, h1, h2, h3, h4, h5, h6, h7, h8, h9, hp⟩ := par_inv h
  exact s_par x h1 h2 h3 h4 h5 hk h6 h7 h8 h9 hp⟩
theorem sn_setI (o i e : E) : SSnd G N sc fn (.setI o i e) := ⟨fun x hk t h => by
  unfold okS at h
  split at h <;> first | (cases h; done) | (rename_i hb; cases hb)
  simp only [Bool.and_eq_true, Bool.not_eq_true'] at h
  exact s_setI x h.1.1.1.1 h.1.1.1.2 h.1.1.2 h.1.2 h.2⟩
theorem sn_aug (i : Nat) (o : Op) (e : E) : SSnd G N sc fn (.aug i o e) := ⟨fun x hk t h => by cases t <;> (simp [okS] at h; done)⟩
theorem sn_rais (c : Nat) (e : E) : SSnd G N sc fn (.rais c e) := ⟨fun x hk t h => by cases t <;> (simp [okS] at h; done)⟩
theorem sn_expr (e : E) : SSnd G N sc fn (.expr e) := ⟨fun x hk t h => by
  cases t <;> first | (simp [okS] at h; done) | skip
  simp only [okS, Bool.and_eq_true, Bool.not_eq_true'] at h
  exact s_expr x h.1 h.2⟩
theorem sn_ret (e : E) : SSnd G N sc fn (.ret e) := ⟨fun x hk t h => by
  cases t <;> first | (simp [okS] at h; done) | skip
  rename_i v q
  cases v with
  | none => simp [okS] at h
  | some v =>
    simp only [okS] at h
    exact s_ret x h⟩
theorem sn_retN : SSnd G N sc fn .retN := ⟨fun x hk t h => by
  cases t <;> first | (simp [okS] at h; done) | skip
  rename_i v q
  cases v with
  | none => exact s_retN
  | some v => simp [okS] at h⟩
theorem sn_pass : SSnd G N sc fn .pass := ⟨fun x hk t h => by
  cases t <;> first | (simp [okS] at h; done) | skip
  exact s_pass⟩
theorem sn_brk : SSnd G N sc fn .brk := ⟨fun x hk t h => by
  cases t <;> first | (simp [okS] at h; done) | skip
  exact s_brk⟩
theorem sn_cont : SSnd G N sc fn .cont := ⟨fun x hk t h => by
  cases t <;> first | (simp [okS] at h; done) | skip
  exact s_cont⟩
theorem sn_ife {c : E} {a b : List S} (ha : SSnds G N sc fn a) (hb : SSnds G N sc fn b) : SSnd G N sc fn (.ife c a b) := ⟨fun x hk t h => by
  cases t <;> first | (simp [okS] at h; done) | skip
  simp only [okS, Bool.and_eq_true] at h
  exact s_if x h.1.1 (ha.s x hk _ h.1.2) (hb.s x hk _ h.2)⟩
theorem sn_for {p : Pat} {it : E} {b : List S} (hb : SSnds G N sc fn b) : SSnd G N sc fn (.for p it b) := ⟨fun x hk t h => by
  cases t <;> first | (simp [okS] at h; done) | skip
  rename_i tg iter bd els q
  cases els with
  | cons _ _ => simp [okS] at h
  | nil =>
    simp only [okS, Bool.and_eq_true, Bool.not_eq_true'] at h
    exact s_for x h.1.1.1 h.1.1.2 h.1.2 (hb.s x hk _ h.2)⟩
theorem sn_whl {c : E} {b : List S} (hb : SSnds G N sc fn b) : SSnd G N sc fn (.whl c b) := ⟨fun x hk t h => by
  cases t <;> first | (simp [okS] at h; done) | skip
  rename_i tg bd els q
  cases els with
  | cons _ _ => simp [okS] at h
  | nil =>
    simp only [okS, Bool.and_eq_true] at h
    exact s_whl x h.1 (hb.s x hk _ h.2)⟩
theorem sn_nil : SSnds G N sc fn [] := ⟨fun x hk t h => by
  cases t with
  | nil => exact ss_nil
  | cons _ _ => simp [okSs] at h⟩
theorem sn_cons {c : S} {cs : List S} (h1 : SSnd G N sc fn c) (h2 : SSnds G N sc fn cs) : SSnds G N sc fn (c :: cs) := ⟨fun x hk t h => by
  cases t with
  | nil => simp [okSs] at h
  | cons t ts =>
    simp only [okSs, Bool.and_eq_true] at h
    exact ss_cons (h1.s x hk _ h.1) (h2.s x hk _ h.2)⟩
mutual
theorem sn_all : ∀ c : S, SSnd G N sc fn c
  | .set p e => sn_set p e
  | .setM i e => sn_setM i e
  | .par i j mi mj a b => sn_par i j mi mj a b
  | .setI o i e => sn_setI o i e
  | .aug i o e => sn_aug i o e
  | .expr e => sn_expr e
  | .ret e => sn_ret e
  | .retN => sn_retN
  | .ife c a b => sn_ife (sns_all a) (sns_all b)
  | .for p it b => sn_for (sns_all b)
  | .whl c b => sn_whl (sns_all b)
  | .pass => sn_pass
  | .brk => sn_brk
  | .cont => sn_cont
  | .rais c e => sn_rais c e
theorem sns_all : ∀ cs : List S, SSnds G N sc fn cs
  | [] => sn_nil
  | c :: cs => sn_cons (sn_all c) (sns_all cs)
end
end
end MP


/-! MP, part w: defs. -/
namespace MP
open PySem PySem.Spec PyProof.Rows L2
section
variable {F F' : FS} {ρ ρ' : List Addr} {K : Fg} {H H' : Hp} {st st' : Store} {cl : Nat → Value}
theorem Stp.take (s : Stp F ρ H F' ρ' H') : ρ'.take ρ.length = ρ := by
  obtain ⟨t, e⟩ := s.p
  rw [← e, List.take_left']
  rfl
theorem Stp.pop (s : Stp F ρ H F' ρ' H') : Stp F ρ H F' ρ H' := ⟨s.f, s.h, List.prefix_refl _, s.u, s.k⟩
theorem SR.pop (s : Stp F ρ H F' ρ' H') (q : SR F' ρ' K st' H') : SR F' ρ K (st'.take ρ.length) H' := by
  have e := s.take
  have hsub : ∀ a ∈ ρ, a ∈ ρ' := fun a ha => s.p.subset ha
  have hl : ρ.length ≤ ρ'.length := s.p.length_le
  refine ⟨?_, q.nd.sublist s.p.sublist, fun a ha => q.nf a (hsub a ha), q.fd, q.uf, fun a ha => q.un a (hsub a ha), q.ud, fun i c a e1 e2 => ?_⟩
  · rw [List.length_take, ← q.len]
    omega
  · have hi : i < ρ.length := (List.getElem?_eq_some_iff.mp e2).1
    rw [List.getElem?_take_of_lt hi] at e1
    exact q.cells i c a e1 (s.get e2)
theorem rv_pop (s : Stp F ρ H F' ρ' H') (q : SR F' ρ' K st' H') {v : RV} {r : RV} {st2 : Store} {u : V} (e : leave ρ.length st' v = .ok r st2) (h : RVR F' ρ' K H' v u) : st2 = st'.take ρ.length ∧ RVR F' ρ K H' r u := by
  cases v with
  | new xs =>
    simp only [leave, Res.ok.injEq] at e
    obtain ⟨rfl, rfl⟩ := e
    obtain ⟨a, vs, h1, h2, h3, h4⟩ := h
    exact ⟨rfl, a, vs, h1, h2, fun z => h3 (s.p.subset z), h4⟩
  | t x =>
    cases x with
    | d y =>
      simp only [leave, Res.ok.injEq] at e
      obtain ⟨rfl, rfl⟩ := e
      exact ⟨rfl, h⟩
    | ref n =>
      obtain ⟨a, h1, rfl⟩ := h
      simp only [leave] at e
      split at e
      · rename_i hn
        simp only [Res.ok.injEq] at e
        obtain ⟨rfl, rfl⟩ := e
        refine ⟨rfl, a, ?_, rfl⟩
        rw [← s.take, List.getElem?_take_of_lt hn]
        exact h1
      · rename_i hn
        split at e
        · rename_i xs hc
          simp only [Res.ok.injEq] at e
          obtain ⟨rfl, rfl⟩ := e
          obtain ⟨vs, q1, q2, q3⟩ := q.cells n _ a hc h1
          have ha : a ∈ ρ' := List.mem_of_getElem? h1
          refine ⟨rfl, a, vs, rfl, ⟨q.nf a ha, q.un a ha⟩, fun z => hn ?_, q1, q2, q3⟩
          obtain ⟨i, hi, ei⟩ := List.mem_iff_getElem.mp z
          have e2 : ρ'[i]? = some a := s.get (by rw [List.getElem?_eq_getElem hi, ei])
          obtain ⟨l1, w1⟩ := List.getElem?_eq_some_iff.mp h1
          obtain ⟨l2, w2⟩ := List.getElem?_eq_some_iff.mp e2
          have := (List.getElem_inj q.nd).mp (w1.trans w2.symm)
          omega
        · cases e
/-- from what a call wants to what the body wants -/
theorem fin_post {E : XK} {Q : VK} {r : RS} {n0 : Nat} (hn : ρ.length = n0) (h : Post (RV_ K) cl (fun c d _ H => E c d H) [] F ρ K H (finish n0 r) Q) :
    PostS K cl (fun c d _ H => E c d H) F ρ H r { nx := fun _ H' => Q .non H', rt := Q } := by
  subst hn
  cases r with
  | stuck => exact h
  | exc c x env st =>
    cases x with
    | d y => exact fun F' ρ' H' σ' w d s q e r1 hd => h F' ρ H' w d s.pop (q.pop s) r1 hd
    | ref n =>
      simp only [finish] at h
      split at h
      · rename_i hlt
        intro F' ρ' H' σ' w d s q e r1 hd
        obtain ⟨a, h1, rfl⟩ := r1
        refine h F' ρ H' _ d s.pop (q.pop s) ⟨a, ?_, rfl⟩ hd
        rw [← s.take, List.getElem?_take_of_lt hlt]
        exact h1
      · exact h.elim
  | ok fl env st =>
    cases fl with
    | next =>
      intro F' ρ' H' σ' s q e
      exact h F' ρ H' .non s.pop (q.pop s) (by show RD F' K H' .none .non; unfold RD; rfl)
    | brk => exact h.elim
    | cont => exact h.elim
    | ret v =>
      intro F' ρ' H' σ' s q e u r1
      simp only [finish] at h
      cases hv : leave ρ.length st v with
      | stuck => rw [hv] at h; exact h.elim
      | exc c x s2 =>
        exfalso
        cases v with
        | new xs => cases hv
        | t t0 =>
          cases t0 with
          | d y => cases hv
          | ref n =>
            simp only [leave] at hv
            split at hv
            · cases hv
            · split at hv <;> cases hv
      | ok r2 st2 =>
        rw [hv] at h
        obtain ⟨rfl, r3⟩ := rv_pop s q hv r1
        exact h F' ρ H' u s.pop (q.pop s) r3
theorem TRs.len : ∀ {xs : List T} {vs : List V}, TRs F ρ K H xs vs → xs.length = vs.length
  | [], vs, h => by cases (show vs = [] from h); rfl
  | x :: xs, vs, h => by
    obtain ⟨v, r, rfl, _, h2⟩ := h
    simp [TRs.len h2]
theorem TRs.nth : ∀ {xs : List T} {vs : List V} {i : Nat} {t : T}, TRs F ρ K H xs vs → xs[i]? = some t → ∃ v, vs[i]? = some v ∧ TR F ρ K H t v
  | [], _, _, _, _, e => by simp at e
  | x :: xs, vs, 0, t, h, e => by
    obtain ⟨v, r, rfl, h1, _⟩ := h
    simp at e
    subst e
    exact ⟨v, rfl, h1⟩
  | x :: xs, vs, i + 1, t, h, e => by
    obtain ⟨v, r, rfl, _, h2⟩ := h
    obtain ⟨u, q1, q2⟩ := TRs.nth (i := i) h2 (by simpa using e)
    exact ⟨u, by simpa using q1, q2⟩
theorem er_start {N : List Str} {d : Def} {args : List T} {vs : List V} (hn : N.length = d.n) (h : TRs F ρ K H args vs) : ER F ρ K H (startE d args) (L2.start N vs) := by
  have hl := h.len
  refine ⟨?_, fun i t e => ?_⟩
  · unfold startE L2.start
    simp only [List.length_append, List.length_map, List.length_replicate]
    omega
  · have hi : i < args.length := by
      by_cases hi : i < args.length
      · exact hi
      · unfold startE at e
        rw [List.getElem?_append_right (by simpa using hi), List.getElem?_replicate] at e
        split at e <;> cases e
    have ea : args[i]? = some t := by
      unfold startE at e
      rw [List.getElem?_append_left (by simpa using hi), List.getElem?_map] at e
      cases q : args[i]? with
      | none => rw [q] at e; cases e
      | some z => rw [q] at e; cases e; rfl
    obtain ⟨v, q1, q2⟩ := h.nth ea
    refine ⟨v, ?_, q2⟩
    unfold L2.start
    rw [List.getElem?_append_left (by simpa [← hl] using hi), List.getElem?_map, q1]
    rfl
end
/-! ### a def by its body, the guards known -/
theorem fnG {P : Program} {w : World} {K : Fg} {mg : Str → Option Value} {base : Heap} {k : Nat} {f : Addr} {name qual : Str} {params : Arguments} {body : List Stmt} {scope : Scope} {dV kV doc pm cdv ct oc : Value} {an od : Option Addr}
    {osl : Array (Option Value)} {N ps : List Str} {sp : Sp} (lk : K.lookup f = some ⟨oc, od, .func (PySem.W.fnOf name qual params body scope dV kV doc pm an cdv ct), osl⟩) (hcd : PySem.W.codeIn K cdv qual = true) (S : FnScope N ps scope)
    (len : ∀ vs H Q E, sp vs H Q E → vs.length = ps.length)
    (hbody : ∀ (A : Around) (outer : List PySem.Env) (s : Shared) (H : Hp) (vs : List V) (Q : VK) (E : XK), A.guards = some [] → Room k (A.deeper (envOfC qual scope s.heap.objs.size f cdv)) → sp vs H Q E →
      ∃ t, PSs (cxOf (L2.CX P w) P w K mg base N qual scope f cdv A outer s H E) body t ∧ t { nx := fun _ H' => Q .non H', rt := Q } (L2.start N vs) H) :
    FnG P w K mg base (k + 1) f (PySem.W.fnOf name qual params body scope dV kV doc pm an cdv ct) ps sp where
  len := len
  run := by
    intro A outer s H args us vs Q E room hgu e0 hbi hvs hsp
    have up : ∀ b o, base.get? b = some o → s.heap.get? b = some o := fun b o e => (e0.bs b o e).1
    have kin : K.In s.heap := e0.mod.kin.keeps up
    have kinds : ∀ y ∈ ps.zip us, scope.names.lookup y.1 = some .local ∨ (scope.names.lookup y.1 = some .cell ∧ ((cellsFrom (s.heap.objs.size + 1) scope.names []).lookup y.1).isSome = true) := by
      rintro ⟨n, v⟩ hy
      exact (S.par n (List.of_mem_zip hy).1).imp id fun q => ⟨q, PySem.W.cellsFrom_some _ _ _ (.inl q)⟩
    refine codeAny_call_function room.depth (kin _ _ lk) rfl S.co S.gen rfl (PySem.W.codeRec_of kin hcd) (hbi _ _ _ _ (wpAny_newFunctionEnv_cells S.kind kinds fun env he s1 x => ?_))
    subst he
    refine ⟨(e0.mod.nolimit.keeps up).keeps x.toInCall.keep, codeAny_func ?_⟩
    obtain ⟨t, ht, hq⟩ := hbody A outer s H vs Q E hgu (room.deeper _) hsp
    refine wpAny_mono (ht.run [] s1 (L2.start N vs) H _ (inv_start S room.hd e0 (len _ _ _ _ hsp) hvs x) hq) (fun fl s' hs => ?_) fun e s' hs => hs
    cases fl with
    | brk => exact hs.elim fun _ ⟨_, _, z⟩ => False.elim z
    | cont => exact hs.elim fun _ ⟨_, _, z⟩ => False.elim z
    | next =>
      obtain ⟨σ', H', J, q⟩ := hs
      exact ⟨.non, H', J.os, J.bare, J.base, J.hok, rfl, q⟩
    | ret u =>
      obtain ⟨v, σ', H', J, rv, q⟩ := hs
      exact ⟨v, H', J.os, J.bare, J.base, J.hok, rv, q⟩
/-- a def of the table stands in the module -/
def DefAt (K : Fg) (mg : Str → Option Value) (G : Gb) (x : Str) (d : Def) : Prop :=
  ∃ (fa : Addr) (name qual : Str) (params : Arguments) (body : List Stmt) (scope : Scope) (dV kV doc pm cdv ct oc : Value) (an od : Option Addr) (osl : Array (Option Value)) (N ps : List Str),
    mg x = some (.ref fa) ∧ PySem.W.keepIn K (.ref fa) = true ∧ K.lookup fa = some ⟨oc, od, .func (PySem.W.fnOf name qual params body scope dV kV doc pm an cdv ct), osl⟩ ∧ PySem.W.codeIn K cdv qual = true ∧ FnScope N ps scope ∧
      ps.length = d.np ∧ N.length = d.n ∧ okSs G N scope (fun _ => true) d.body body = true ∧ Binds K (PySem.W.fnOf name qual params body scope dV kV doc pm an cdv ct) ps []
theorem fns_ok {P : Program} {w : World} {K : Fg} {mg : Str → Option Value} {base : Heap} {G : Gb} {cl : Nat → Value} {tbl : List Def} {wf : Nat} (hd : ∀ (f : Nat) (x : Str), G.fns[f]? = some x → ∃ d, tbl[f]? = some d ∧ DefAt K mg G x d)
    (hfree : ∀ x ∈ G.free, mg x = none) (hnums : ∀ p ∈ G.nums, ∃ t, mg p.1 = some (.int p.2 t)) : ∀ (n f : Nat) (x : Str), G.fns[f]? = some x →
      ∃ (fa : Addr) (fd : FuncData) (ps : List Str), mg x = some (.ref fa) ∧ PySem.W.keepIn K (.ref fa) = true ∧ FnG P w K mg base n fa fd ps (spF K cl (callN tbl wf n) f) ∧ Binds K fd ps []
  | 0, f, x, hx => by
    obtain ⟨d, _, fa, name, qual, params, body, scope, dV, kV, doc, pm, cdv, ct, oc, an, od, osl, N, ps, h1, h2, h3, h4, h5, h6, h7, h8, h9⟩ := hd f x hx
    refine ⟨fa, _, ps, h1, h2, ⟨?_, ?_⟩, h9⟩
    · rintro vs H Q E ⟨F, ρ, st, args, _, _, p⟩
      exact p.elim
    · rintro A outer s H args us vs Q E _ _ _ _ _ ⟨F, ρ, st, as, _, _, p⟩
      exact p.elim
  | n + 1, f, x, hx => by
    obtain ⟨d, hf, fa, name, qual, params, body, scope, dV, kV, doc, pm, cdv, ct, oc, an, od, osl, N, ps, h1, h2, h3, h4, h5, h6, h7, h8, h9⟩ := hd f x hx
    refine ⟨fa, _, ps, h1, h2, fnG h3 h4 h5 ?_ ?_, h9⟩
    · rintro vs H Q E ⟨F, ρ, st, args, _, ht, p⟩
      simp only [callN, hf] at p
      split at p
      · rename_i hl
        rw [← ht.len, hl, h6]
      · exact p.elim
    · rintro A outer s H vs Q E hg room ⟨F, ρ, st, args, hS, ht, p⟩
      simp only [callN, hf] at p
      split at p
      · refine ⟨_, (sns_all d.body).s (cl := cl) (W := fun c d _ H => E c d H) (cf := callN tbl wf n) (wf := wf) ⟨⟨rfl, rfl, h5.nd, rfl, hg, room.units, fun _ _ => rfl, hfree, hnums, fun f' x' hx' => ?_, takes_of rfl rfl rfl rfl⟩, passes_of rfl⟩ h5.kind body h8, ?_⟩
        · obtain ⟨fa', fd', ps', a1, a2, a3, a4⟩ := fns_ok (P := P) (w := w) (base := base) (cl := cl) (wf := wf) hd hfree hnums n f' x' hx'
          exact ⟨n, fa', fd', ps', a1, a2, a3, room, a4⟩
        · exact ⟨F, ρ, startE d args, st, hS, er_start h7 ht, fin_post hS.len p⟩
      · exact p.elim
end MP


/-! MP, part x: the law's end. -/
namespace MP
open PySem PySem.Spec PyProof.Rows L2
/-! ### the written part without the script -/
def lessK (K : Fg) (a : Addr) : Fg := K.filter fun p => !(p.1 == a)
theorem lessK_ne {a b : Addr} (h : b ≠ a) : ∀ K : Fg, (lessK K a).lookup b = K.lookup b
  | [] => rfl
  | (c, o) :: K => by
    unfold lessK
    by_cases hc : c = a
    · have e1 : (!(c == a)) = false := by simp [hc]
      have e2 : (b == c) = false := by simp [hc, h]
      rw [List.filter_cons_of_neg (by simp [hc])]
      rw [List.lookup_cons, e2]
      exact lessK_ne h K
    · rw [List.filter_cons_of_pos (by simp [hc])]
      rw [List.lookup_cons, List.lookup_cons]
      cases (b == c) with
      | true => rfl
      | false => exact lessK_ne h K
theorem lessK_eq {a : Addr} : ∀ K : Fg, (lessK K a).lookup a = none
  | [] => rfl
  | (c, o) :: K => by
    unfold lessK
    by_cases hc : c = a
    · rw [List.filter_cons_of_neg (by simp [hc])]
      exact lessK_eq K
    · rw [List.filter_cons_of_pos (by simp [hc]), List.lookup_cons]
      have e2 : (a == c) = false := by simp [Ne.symm hc]
      rw [e2]
      exact lessK_eq K
theorem lessK_in {K : Fg} {a : Addr} {h : Heap} (X : K.In h) : (lessK K a).In h := fun b o e => by
  by_cases hb : b = a
  · rw [hb, lessK_eq] at e
    cases e
  · rw [lessK_ne hb] at e
    exact X b o e
theorem lessK_same {K : Fg} {a : Addr} {h : Heap} (X : K.In h) {ob : Obj} (ha : h.get? a = some ob) {b : Addr} {o : Obj} (e : K.lookup b = some o) (ne : o ≠ ob) : (lessK K a).lookup b = some o := by
  rw [lessK_ne (fun z => ?_)]
  · exact e
  · subst z
    have q := X b o e
    rw [ha] at q
    cases q
    exact ne rfl
theorem codeIn_less {K : Fg} {a : Addr} {h : Heap} (X : K.In h) {vs : List Value} {n : Nat} (ha : h.get? a = some { cls := .type "list", data := .seq vs.toArray n }) {cd : Value} {q : Str} (e : PySem.W.codeIn K cd q = true) : PySem.W.codeIn (lessK K a) cd q = true := by
  unfold PySem.W.codeIn at e ⊢
  cases cd with
  | ref c =>
    simp only at e ⊢
    cases hc : K.lookup c with
    | none => rw [hc] at e; cases e
    | some o =>
      rw [hc] at e
      have hne : o ≠ { cls := .type "list", data := .seq vs.toArray n } := fun z => by
        subst z
        cases e
      rw [lessK_same X ha hc hne]
      exact e
  | _ => cases e
/-- a def of the head, as the table wants it -/
theorem defAt_of {K : Fg} {a : Addr} {h : Heap} {mg : Str → Option Value} {G : Gb} {x : Str} {params : Arguments} {body : List Stmt} {scope : Scope} {fd : FuncData} {N ps : List Str} {d : Def} {f : Addr} {vs : List Value} {n : Nat} (X : K.In h)
    (ha : h.get? a = some { cls := .type "list", data := .seq vs.toArray n }) (D : FunD K x x params body scope [] [] f fd) (hm : mg x = some (.ref f)) (S : FnScope N ps scope) (h1 : ps.length = d.np) (h2 : N.length = d.n) (ok : okSs G N scope (fun _ => true) d.body body = true)
    (hB : ∀ (kV doc pm : Value) (an : Option Addr) (cdv ct : Value) (us : List Value), us.length = ps.length → bindArgs (PySem.W.fnOf x x params body scope .none kV doc pm an cdv ct) ⟨us, []⟩ = pure (ps.zip us)) : DefAt (lessK K a) mg G x d := by
  obtain ⟨oc, od, dV, kV, doc, pm, an, cdv, ct, osl, rfl, lk, hcd, hD, _⟩ := D.ex
  rcases hD with ⟨_, rfl⟩ | ⟨e, _⟩
  · have lk2 : (lessK K a).lookup f = some _ := lessK_same X ha lk (fun z => by cases z)
    refine ⟨f, x, x, params, body, scope, .none, kV, doc, pm, cdv, ct, oc, an, od, osl, N, ps, hm, ?_, lk2, codeIn_less X ha hcd, S, h1, h2, ok, .all (hB kV doc pm an cdv ct)⟩
    unfold PySem.W.keepIn
    simp only [lk2]
  · exact absurd rfl e
/-! ### the script alone in the abstract heap -/
def H0 (a : Addr) (vs : List Value) (ns : List Int) : Hp := fun b => if b = a then some (.frz { cls := .type "list", data := .seq vs.toArray } (.lst (ns.map V.int))) else none
theorem law_callG {P : Program} {w : World} {K : Fg} {mg mb : Str → Option Value} {k : Nat} {fa a : Addr} {fd : FuncData} {ps : List Str} {sp : Sp} {s₁ : Shared} {vs : List Value} {ns : List Int}
    (kin : K.In s₁.heap) (hka : K.lookup a = none) (hns : s₁.heap.Ns mainGlobals mg) (hb : s₁.heap.Ns builtinsNs mb) (hbb : ∀ x : Str, x ≠ "__name__" → mb x = bootBuiltins x) (hlim : s₁.heap.NoLimit) (hg : s₁.gens = #[])
    (ha : s₁.heap.get? a = some { cls := .type "list", data := .seq vs.toArray }) (hi : IntsAre vs ns) (hl : ns.length ≤ sizeLine) (hr : Room k callerA)
    (hF : FnG P w K mg (hidT s₁.heap (H0 a vs ns)) k fa fd ps sp) (hbind : Binds K fd ps [])
    (hsp : sp [.ref a] (H0 a vs ns) (fun v _ => v = .bl true) fun _ _ _ => False) :
    codeAny (model P w) callerA (.call (.ref fa) ⟨[.ref a], []⟩) (fun r s' => r = .ok (.ret (.bool true)) ∧ OldK s₁.heap s'.heap ∧ s'.os = s₁.os ∧ AllBare s'.gens) s₁ := by
  have at_a : H0 a vs ns a = some (.frz { cls := .type "list", data := .seq vs.toArray } (.lst (ns.map V.int))) := if_pos rfl
  have off_a : ∀ b, b ≠ a → H0 a vs ns b = none := fun b h => if_neg h
  have hok : HOk P w (H0 a vs ns) s₁.heap := fun b u z => by
    by_cases e : b = a
    · subst e
      rw [at_a] at z
      cases z
      exact ⟨ha, by rw [List.length_map]; exact hl, vs, _, vals_ints hi, ha⟩
    · rw [off_a b e] at z
      cases z
  have dicts : ∀ {b : Addr} {o : Obj} {es : Array DictEntry} {ep : Nat}, s₁.heap.get? b = some o → o.data = .dict es ep → H0 a vs ns b = none := by
    intro b o es ep e d
    refine off_a b fun z => ?_
    subst z
    rw [ha] at e
    cases e
    cases d
  have names : ∀ {b : Addr} {m : Str → Option Value}, s₁.heap.Ns b m → (hidT s₁.heap (H0 a vs ns)).Ns b m := fun ⟨o, es, ep, e, d, r⟩ => ⟨o, es, ep, hidT_get e (dicts e d), d, r⟩
  have kbase : K.In (hidT s₁.heap (H0 a vs ns)) := fun b o e => hidT_get (kin b o e) (off_a b fun z => by rw [z, hka] at e; cases e)
  have hM : Mod K mg (hidT s₁.heap (H0 a vs ns)) := ⟨kbase, names hns, ⟨mb, names hb, hbb⟩, let ⟨mc, h1, h2⟩ := hlim; ⟨mc, names h1, h2⟩⟩
  have e0 : Env0 P w K mg (hidT s₁.heap (H0 a vs ns)) callerA [] s₁ (H0 a vs ns) := ⟨rfl, hM, fun b o e => of_hidT e, Nat.le_of_eq (hidT_size _ _), trivial, fun b z => absurd (show b ∈ ([] : List Addr) from z) (by simp), hok, .of_eq hg⟩
  refine codeAny_mono (hF.run callerA [] s₁ (H0 a vs ns) ⟨[.ref a], []⟩ [.ref a] [.ref a] _ _ hr rfl e0 (hbind s₁ [.ref a] kin (hF.len _ _ _ _ hsp)) (.cons rfl .nil) hsp) fun r s' h => ?_
  match r, h with
  | .error e, h =>
    obtain ⟨_, _, _, _, _, _, _, _, _, _, _, _, z⟩ := h
    exact z.elim
  | .ok .next, h => exact False.elim h
  | .ok .brk, h => exact False.elim h
  | .ok .cont, h => exact False.elim h
  | .ok (.ret u), h =>
    obtain ⟨v, H', os, bare, un, hok', r', q⟩ := h
    cases (show v = .bl true from q)
    obtain rfl : u = Value.bool true := r'
    refine ⟨rfl, OldK.of_keep fun b o e => ?_, os, bare⟩
    by_cases hba : b = a
    · subst hba
      obtain ⟨e1, _⟩ := hok b _ at_a
      obtain ⟨e2, _⟩ := hok' b _ (un.frzs b _ _ at_a)
      rw [e] at e1
      cases e1
      exact e2
    · exact un.keep b o e (off_a b hba) (by intro z; exact absurd (show b ∈ ([] : List Addr) from z) (by simp)) (by simp)
/-- THE END: a law by its MP run -/
theorem walk_mp {l : PySem.W.OpenLaw} {n k i : Nat} {q : Program} {loose : List Str} {XP : (Str → Option Value) → Heap → Prop} {YP : World → Heap → Prop} {d : DefRec} {G : Gb} {tbl : List Def} {wf : Nat}
    (hn : l.most = some n) (hn2 : n ≤ big) (hdf : d.params.defaults = []) (hr : Room k callerA) (hi : G.fns[i]? = some d.name)
    (F : ∀ (w : World) (mg : Str → Option Value) (fa a : Addr) (h : Heap) (vs : List Value), YP w h → h.Ns mainGlobals mg → mg d.name = some (.ref fa) → h.get? a = some { cls := .type "list", data := .seq vs.toArray } →
      ∃ K : Fg, K.In h ∧ (∀ y ∈ G.free, mg y = none) ∧ (∀ p ∈ G.nums, ∃ t, mg p.1 = some (.int p.2 t)) ∧ ∀ (f : Nat) (y : Str), G.fns[f]? = some y → ∃ d, tbl[f]? = some d ∧ DefAt (lessK K a) mg G y d)
    (hrun : ∀ ns : List Int, ns.length ≤ n → (∀ z ∈ ns, Builtin.Int.intBits z ≤ 1048576) → ∃ st, callN tbl wf k i [.d (.list (ns.map .int))] [] = .ok (.t (.d (.bool true))) st) :
    PySem.W.WalkO q loose XP YP l.row.toRowW d [] (fun f vs => PySem.call f vs) := by
  refine Att.attach_callB hn hdf fun w s₀ s₁ mg mb fa o pm cd doc a vs ns G' Y ho hd hcd hmg hobj hints hlen hbits hg => ?_
  obtain ⟨K, KX, hfree, hnums, hdefs⟩ := F w mg fa a _ vs Y G'.T.g hmg hobj
  obtain ⟨st, hst⟩ := hrun ns hlen hbits
  obtain ⟨fa', fd, ps, e1, e2, hF, hB⟩ := fns_ok (P := l.prog) (w := w) (base := hidT s₁.heap (H0 a vs ns)) (cl := fun _ => .none) (wf := wf) hdefs hfree hnums k i d.name hi
  have e3 : fa' = fa := by
    rw [hmg] at e1
    cases e1
    rfl
  subst e3
  refine law_callG (lessK_in KX) (lessK_eq K) G'.T.g G'.T.b G'.T.builtins G'.T.nolimit hg hobj hints (Nat.le_trans hlen (big_size ▸ hn2)) hr hF hB ?_
  refine ⟨⟨fun b => b = a, fun _ => False⟩, [], [], [.d (.list (ns.map .int))], ⟨rfl, List.nodup_nil, fun _ h => (nomatch h), fun b hb => ⟨_, if_pos hb⟩, fun _ h => h.elim, fun _ h => (nomatch h), fun _ h => h.elim, fun i c b e => by simp at e⟩, ⟨.ref a, [], rfl, ?_, rfl⟩, ?_⟩
  · show RD _ _ _ _ _
    unfold RD
    exact ⟨a, ns.map V.int, rfl, ⟨rfl, .inr ⟨_, if_pos rfl⟩⟩, by rw [List.length_map]; exact Nat.le_trans hlen hn2, RDs.ofInts ns⟩
  · rw [hst]
    intro F' ρ' H' b _ _ r
    exact r
end MP


/-! MQ: what a run of MP gives, in plain words. -/
namespace MP
open PySem
def Res.wp {α : Type} (r : Res α) (P : α → Store → Prop) : Prop := match r with
  | .ok a st => P a st
  | _ => False
def RS.wp (r : RS) (P : Flow → Env → Store → Prop) : Prop := match r with
  | .ok f env st => P f env st
  | _ => False
section
variable {α β : Type} {P Q : α → Store → Prop} {st : Store}
@[simp] theorem wp_ok {a : α} : (Res.ok a st).wp P = P a st := rfl
@[simp] theorem wp_stuck : (Res.stuck : Res α).wp P = False := rfl
@[simp] theorem wp_bind {r : Res β} {f : β → Store → Res α} : (r.bind f).wp P = r.wp fun b s => (f b s).wp P := by cases r <;> rfl
@[simp] theorem wp_then {r : Res β} {env : Env} {f : β → Store → RS} {P : Flow → Env → Store → Prop} : (r.then env f).wp P = r.wp fun b s => (f b s).wp P := by cases r <;> rfl
@[simp] theorem wp_lift {o : Option α} : (lift o st).wp P = ∃ a, o = some a ∧ P a st := by
  cases o with
  | none => simp [lift]
  | some a => simp [lift]
@[simp] theorem wp_settled {r : Res RV} {P : T → Store → Prop} : (settled r).wp P = r.wp fun v s => P v.settle s := by unfold settled; rw [wp_bind]; rfl
@[simp] theorem wp_readD {r : Res RV} {P : D → Store → Prop} : (readD r).wp P = r.wp fun v s => ∃ x, rd s v.settle = some x ∧ P x s := by unfold readD; rw [wp_bind]; simp only [wp_lift]
theorem Res.wp.mono {r : Res α} (h : r.wp P) (k : ∀ a s, P a s → Q a s) : r.wp Q := by
  cases r with
  | ok a s => exact k _ _ h
  | exc _ _ _ => exact h
  | stuck => exact h
theorem Res.wp.get {r : Res α} (h : r.wp P) : ∃ a s, r = .ok a s ∧ P a s := by
  cases r with
  | ok a s => exact ⟨a, s, rfl, h⟩
  | exc _ _ _ => exact h.elim
  | stuck => exact h.elim
end
section
variable {P Q : Flow → Env → Store → Prop} {st : Store} {env : Env}
@[simp] theorem wps_ok {f : Flow} : (RS.ok f env st).wp P = P f env st := rfl
@[simp] theorem wps_stuck : (RS.stuck).wp P = False := rfl
@[simp] theorem wps_bindThen {o : Option Env} {k : Env → RS} : (bindThen o k).wp P = ∃ e, o = some e ∧ (k e).wp P := by
  cases o with
  | none => simp [bindThen]
  | some a => simp [bindThen]
theorem RS.wp.mono {r : RS} (h : r.wp P) (k : ∀ a e s, P a e s → Q a e s) : r.wp Q := by
  cases r with
  | ok a e s => exact k _ _ _ h
  | exc _ _ _ _ => exact h
  | stuck => exact h
/-- what the rest of a block wants of a statement -/
def nxt (P : Flow → Env → Store → Prop) (f : Env → Store → RS) : Flow → Env → Store → Prop
  | .next, e, s => (f e s).wp P
  | fl, e, s => P fl e s
@[simp] theorem nxt_next {f : Env → Store → RS} : nxt P f .next env st = (f env st).wp P := rfl
@[simp] theorem nxt_ret {f : Env → Store → RS} {v : RV} : nxt P f (.ret v) env st = P (.ret v) env st := rfl
@[simp] theorem nxt_brk {f : Env → Store → RS} : nxt P f .brk env st = P .brk env st := rfl
@[simp] theorem nxt_cont {f : Env → Store → RS} : nxt P f .cont env st = P .cont env st := rfl
@[simp] theorem wps_seq {r : RS} {f : Env → Store → RS} : (r.seq f).wp P = r.wp (nxt P f) := by
  cases r with
  | ok fl e s => cases fl <;> rfl
  | exc _ _ _ _ => rfl
  | stuck => rfl
def trn (P : Flow → Env → Store → Prop) (f : Env → Store → RS) : Flow → Env → Store → Prop
  | .next, e, s => (f e s).wp P
  | .cont, e, s => (f e s).wp P
  | .brk, e, s => P .next e s
  | .ret v, e, s => P (.ret v) e s
@[simp] theorem wps_turn {r : RS} {f : Env → Store → RS} : (r.turn f).wp P = r.wp (trn P f) := by
  cases r with
  | ok fl e s => cases fl <;> rfl
  | exc _ _ _ _ => rfl
  | stuck => rfl
/-- a loop over what stands still: an invariant -/
theorem forL_inv {f : D → Env → Store → RS} (I : List D → Env → Store → Prop) : ∀ {xs : List D} {env : Env} {st : Store}, I xs env st → (∀ x xs env st, I (x :: xs) env st → (f x env st).wp fun fl e s => (fl = .next ∨ fl = .cont) ∧ I xs e s) →
    (∀ e s, I [] e s → P .next e s) → (forL f xs env st).wp P
  | [], env, st, h, _, k => k _ _ h
  | x :: xs, env, st, h, hb, k => by
    rw [forL, wps_turn]
    refine (hb x xs env st h).mono fun fl e s ⟨hf, hI⟩ => ?_
    rcases hf with rfl | rfl
    · exact forL_inv I hI hb k
    · exact forL_inv I hI hb k
/-- the same, a return allowed -/
theorem forL_invR {f : D → Env → Store → RS} (I : List D → Env → Store → Prop) : ∀ {xs : List D} {env : Env} {st : Store}, I xs env st → (∀ x xs env st, I (x :: xs) env st → (f x env st).wp fun fl e s => match fl with
      | .next => I xs e s
      | .cont => I xs e s
      | .brk => P .next e s
      | .ret v => P (.ret v) e s) →
    (∀ e s, I [] e s → P .next e s) → (forL f xs env st).wp P
  | [], env, st, h, _, k => k _ _ h
  | x :: xs, env, st, h, hb, k => by
    rw [forL, wps_turn]
    refine (hb x xs env st h).mono fun fl e s hI => ?_
    cases fl with
    | next => exact forL_invR I hI hb k
    | cont => exact forL_invR I hI hb k
    | brk => exact hI
    | ret v => exact hI
theorem while_inv {c : Env → Store → Res Bool} {f : Env → Store → RS} (I : Nat → Env → Store → Prop) : ∀ {k m : Nat} {env : Env} {st : Store}, m < k → I m env st →
    (∀ m env st, I m env st → (c env st).wp fun b s => if b then (f env s).wp fun fl e s => fl = .next ∧ ∃ m', m' < m ∧ I m' e s else P .next env s) → (whileL c f k env st).wp P
  | 0, m, env, st, h, _, _ => by omega
  | k + 1, m, env, st, h, hI, hb => by
    rw [whileL, wp_then]
    refine (hb m env st hI).mono fun b s hq => ?_
    cases b with
    | false => exact hq
    | true =>
      rw [if_pos rfl] at hq
      rw [if_pos rfl, wps_turn]
      refine RS.wp.mono hq fun fl e s' ⟨e1, m', hm, hI'⟩ => ?_
      subst e1
      exact while_inv I (by omega) hI' hb
end
theorem compL_inv {g : D → Store → Res (Option D)} (I : List D → Store → Prop) (R : Option D → Prop) {P : List D → Store → Prop} : ∀ {xs : List D} {st : Store} {Q : List D → Store → Prop}, I xs st → (∀ x xs st, I (x :: xs) st → (g x st).wp fun o s => R o ∧ I xs s) →
    (∀ (os : List (Option D)) (s : Store), os.length = xs.length → (∀ o ∈ os, R o) → I [] s → Q (os.filterMap id) s) → (compL g xs st).wp Q
  | [], st, Q, h, _, k => by
    rw [compL]
    exact k [] _ rfl (by simp) h
  | x :: xs, st, Q, h, hb, k => by
    rw [compL, wp_bind]
    refine (hb x xs st h).mono fun o s ⟨hR, hI⟩ => ?_
    rw [wp_bind]
    refine compL_inv I R (P := P) hI hb fun os s' hl hos hI' => ?_
    rw [wp_ok]
    have e : consO o (os.filterMap id) = (o :: os).filterMap id := by cases o <;> rfl
    rw [e]
    exact k (o :: os) s' (by simp [hl]) (by
      intro z hz
      rcases List.mem_cons.mp hz with rfl | hz
      · exact hR
      · exact hos z hz) hI'
/-- a comprehension whose turns are known and leave the store -/
theorem compL_map {g : D → Store → Res (Option D)} {st : Store} {h : D → Option D} : ∀ {xs : List D}, (∀ x ∈ xs, g x st = .ok (h x) st) → compL g xs st = .ok (xs.filterMap h) st
  | [], _ => rfl
  | x :: xs, hb => by
    rw [compL, hb x (by simp)]
    show (compL g xs st).bind _ = _
    rw [compL_map (fun y hy => hb y (by simp [hy]))]
    show Res.ok _ _ = _
    cases e : h x <;> simp [consO, e]
end MP


/-! MQ, part b: a run step by step; what comes after a step has a name. -/
namespace MP
abbrev KR := RV → Store → Prop
abbrev KT := List T → Store → Prop
abbrev KDs := List D → Store → Prop
abbrev KS := Flow → Env → Store → Prop
abbrev KJ := Src → Store → Prop
def oK {α : Type} (o : Option α) (k : α → Prop) : Prop := ∃ a, o = some a ∧ k a
theorem oK_some {α : Type} {a : α} {k : α → Prop} : oK (some a) k = k a := propext ⟨fun ⟨b, e, h⟩ => by cases e; exact h, fun h => ⟨a, rfl, h⟩⟩
section
variable (cf : CF) (wf : Nat)
def kOp1 (o : Op) (b : E) (env : Env) (k : KR) : KR := fun v st => (evalE cf b env st).wp fun w st2 => ∃ x y r, rd st2 v.settle = some x ∧ rd st2 w.settle = some y ∧ binD o x y = some r ∧ k r st2
def kOp2 (o : Op) (v : T) (k : KR) : KR := fun w st2 => ∃ x y r, rd st2 v = some x ∧ rd st2 w.settle = some y ∧ binD o x y = some r ∧ k r st2
def kNeg (k : KR) : KR := fun v st => ∃ i, rd st v.settle = some (.int i) ∧ k (.t (.d (.int (-i)))) st
def kCm1 (c : Cm) (b : E) (env : Env) (k : KR) : KR := fun v st => (evalE cf b env st).wp fun w st2 => ∃ x y r, rd st2 v.settle = some x ∧ rd st2 w.settle = some y ∧ cmpD c x y = some r ∧ k (tB r) st2
def kCm2 (c : Cm) (v : T) (k : KR) : KR := fun w st2 => ∃ x y r, rd st2 v = some x ∧ rd st2 w.settle = some y ∧ cmpD c x y = some r ∧ k (tB r) st2
def kCh1 (c c' : Cm) (b e : E) (env : Env) (k : KR) : KR := fun v st => ((settled (evalE cf b env st)).bind fun y st2 =>
      (lift ((rd st2 v.settle).bind fun x => (rd st2 y).bind fun y => cmpD c x y) st2).bind fun k st2 => if k then (settled (evalE cf e env st2)).bind fun z st3 => lift (((rd st3 y).bind fun y => (rd st3 z).bind fun z => cmpD c' y z).map tB) st3 else .ok (tB false) st2).wp k
def kCh2 (c c' : Cm) (e : E) (env : Env) (v : T) (k : KR) : KR := fun w st2 => ∃ x y b, rd st2 v = some x ∧ rd st2 w.settle = some y ∧ cmpD c x y = some b ∧ if b then ((settled (evalE cf e env st2)).bind fun z st3 => lift (((rd st3 w.settle).bind fun y => (rd st3 z).bind fun z => cmpD c' y z).map tB) st3).wp k else k (tB false) st2
def kAnd (b : E) (env : Env) (k : KR) : KR := fun v st => ∃ x, rd st v.settle = some (.bool x) ∧ if x then (evalE cf b env st).wp k else k (tB false) st
def kOr (b : E) (env : Env) (k : KR) : KR := fun v st => ∃ x, rd st v.settle = some (.bool x) ∧ if x then k (tB true) st else (evalE cf b env st).wp k
def kNot (k : KR) : KR := fun v st => ∃ x, rd st v.settle = some x ∧ k (tB (!truthD x)) st
def kIte (a b : E) (env : Env) (k : KR) : KR := fun v st => ∃ x, rd st v.settle = some x ∧ if truthD x then (evalE cf a env st).wp k else (evalE cf b env st).wp k
def kTup (k : KR) : KDs := fun xs st => k (.t (.d (.tuple xs))) st
def kLst (k : KR) : KDs := fun xs st => k (.new xs) st
def kCall (f : Nat) (k : KR) : KT := fun xs st => (cf f xs st).wp k
def kPrim (p : Prim) (k : KR) : KT := fun xs st => ∃ ys r, xs.mapM (rd st) = some ys ∧ primD p ys = some r ∧ k r st
def kIsi (t : Ty) (k : KR) : KR := fun v st => ∃ x, rd st v.settle = some x ∧ k (tB (isiD t x)) st
def kIx1 (i : E) (env : Env) (k : KR) : KR := fun v st => (evalE cf i env st).wp fun w st2 => ∃ x y r, rd st2 v.settle = some x ∧ rd st2 w.settle = some y ∧ ixD x y = some r ∧ k (.t (.d r)) st2
def kIx2 (v : T) (k : KR) : KR := fun w st2 => ∃ x y r, rd st2 v = some x ∧ rd st2 w.settle = some y ∧ ixD x y = some r ∧ k (.t (.d r)) st2
def kTs1 (es : List E) (env : Env) (k : KT) : KR := fun v st => (evalTs cf es env st).wp fun vs st2 => k (v.settle :: vs) st2
def kTs2 (v : T) (k : KT) : KT := fun vs st => k (v :: vs) st
def kDs1 (es : List E) (env : Env) (k : KDs) : KR := fun v st => ∃ x, v.settle = .d x ∧ (evalDs cf es env st).wp fun vs st2 => k (x :: vs) st2
def kDs2 (x : D) (k : KDs) : KDs := fun vs st => k (x :: vs) st
/-! statements -/
def kSet (p : Pat) (env : Env) (k : KS) : KR := fun v st => ∃ e, bindP st p v.settle env = some e ∧ k .next e st
def kSetM (i : Nat) (env : Env) (k : KS) : KR := fun v st => match v with
  | .t v => k .next (env.set i (some v)) st
  | .new xs => k .next (env.set i (some (.ref st.length))) (st ++ [.lst xs])
def kExpr (env : Env) (k : KS) : KR := fun _ st => k .next env st
def kRet (env : Env) (k : KS) : KR := fun v st => k (.ret v) env st
def kIf (a b : List S) (env : Env) (k : KS) : KR := fun v st => ∃ x, rd st v.settle = some x ∧ if truthD x then (execs cf wf a env st).wp k else (execs cf wf b env st).wp k
def kFor (p : Pat) (body : List S) (env : Env) (k : KS) : KJ := fun src st => (forSrc (fun x env st => bindThen (bindP st p (.d x) env) fun env' => execs cf wf body env' st) src env st).wp k
def kFin (n0 : Nat) (k : KR) : KS := fun fl _ st => match fl with
  | .ret v => (leave n0 st v).wp k
  | .next => k (.t (.d .none)) (st.take n0)
  | _ => False
end
section
variable {cf : CF} {wf : Nat} {env : Env} {st : Store} {k : KR} {kt : KT} {kd : KDs} {ks : KS} {kj : KJ}
def kVar (k : KR) (st : Store) : Option T → Prop := fun o => match o with
  | some v => k (.t v) st
  | none => False
theorem w_var {i : Nat} : (evalE cf (.var i) env st).wp k = oK (env[i]?) (kVar k st) := by
  simp only [evalE]
  cases h : env[i]? with
  | none => exact propext ⟨fun p => p.elim, fun ⟨_, e, _⟩ => by cases e⟩
  | some o =>
    rw [oK_some]
    cases o <;> rfl
theorem a_var {v : T} : kVar k st (some v) = k (.t v) st := rfl
theorem w_con {v : D} : (evalE cf (.con v) env st).wp k = k (.t (.d v)) st := by simp only [evalE, wp_ok]
theorem w_glo {x : PySem.Str} {v : D} : (evalE cf (.glo x v) env st).wp k = k (.t (.d v)) st := by simp only [evalE, wp_ok]
theorem lift2 {α : Type} {o1 o2 : Option D} {f : D → D → Option α} {P : α → Prop} : (∃ a, (o1.bind fun x => o2.bind fun y => f x y) = some a ∧ P a) = ∃ x y r, o1 = some x ∧ o2 = some y ∧ f x y = some r ∧ P r := by
  refine propext ⟨fun ⟨a, e, p⟩ => ?_, fun ⟨x, y, r, e1, e2, e3, p⟩ => ⟨r, by rw [e1, e2]; exact e3, p⟩⟩
  cases o1 with
  | none => cases e
  | some x => cases o2 with
    | none => cases e
    | some y => exact ⟨x, y, a, rfl, rfl, e, p⟩
theorem lift2m {α β : Type} {o1 o2 : Option D} {f : D → D → Option α} {g : α → β} {P : β → Prop} : (∃ a, ((o1.bind fun x => o2.bind fun y => f x y).map g) = some a ∧ P a) = ∃ x y r, o1 = some x ∧ o2 = some y ∧ f x y = some r ∧ P (g r) := by
  refine propext ⟨fun ⟨a, e, p⟩ => ?_, fun ⟨x, y, r, e1, e2, e3, p⟩ => ⟨g r, by rw [e1, e2]; show (f x y).map g = _; rw [e3]; rfl, p⟩⟩
  cases o1 with
  | none => cases e
  | some x => cases o2 with
    | none => cases e
    | some y =>
      change Option.map g (f x y) = some a at e
      cases hf : f x y with
      | none => rw [hf] at e; cases e
      | some r => rw [hf] at e; cases e; exact ⟨x, y, r, rfl, rfl, hf, p⟩
theorem w_op {o : Op} {a b : E} : (evalE cf (.op o a b) env st).wp k = (evalE cf a env st).wp (kOp1 cf o b env k) := by
  simp only [evalE, wp_bind, wp_settled, wp_lift, lift2]; rfl
theorem k_op1 {o : Op} {b : E} {v : RV} : kOp1 cf o b env k v st = (evalE cf b env st).wp (kOp2 o v.settle k) := rfl
theorem w_neg {a : E} : (evalE cf (.neg a) env st).wp k = (evalE cf a env st).wp (kNeg k) := by
  simp only [evalE, wp_bind, wp_readD]
  congr 1
  funext v s
  unfold kNeg
  refine propext ⟨fun ⟨x, e, p⟩ => ?_, fun ⟨i, e, p⟩ => ⟨_, e, p⟩⟩
  cases x <;> first | exact ⟨_, e, p⟩ | exact p.elim
theorem w_cmp {c : Cm} {a b : E} : (evalE cf (.cmp c a b) env st).wp k = (evalE cf a env st).wp (kCm1 cf c b env k) := by
  simp only [evalE, wp_bind, wp_settled, wp_lift, lift2m]; rfl
theorem k_cm1 {c : Cm} {b : E} {v : RV} : kCm1 cf c b env k v st = (evalE cf b env st).wp (kCm2 c v.settle k) := rfl
theorem w_chain {c c' : Cm} {a b e : E} : (evalE cf (.chain c c' a b e) env st).wp k = (evalE cf a env st).wp (kCh1 cf c c' b e env k) := by
  simp only [evalE]
  rw [wp_bind, wp_settled]
  rfl
theorem k_ch1 {c c' : Cm} {b e : E} {v : RV} : kCh1 cf c c' b e env k v st = (evalE cf b env st).wp (kCh2 cf c c' e env v.settle k) := by
  unfold kCh1
  rw [wp_bind, wp_settled]
  congr 1
  funext w s
  rw [wp_bind, wp_lift, lift2]
  unfold kCh2
  refine propext ⟨fun ⟨x, y, r, e1, e2, e3, p⟩ => ⟨x, y, r, e1, e2, e3, ?_⟩, fun ⟨x, y, r, e1, e2, e3, p⟩ => ⟨x, y, r, e1, e2, e3, ?_⟩⟩ <;> cases r <;> exact p
theorem w_and {a b : E} : (evalE cf (.and a b) env st).wp k = (evalE cf a env st).wp (kAnd cf b env k) := by
  simp only [evalE, wp_bind, wp_readD]
  congr 1
  funext v s
  unfold kAnd
  refine propext ⟨fun ⟨x, e, p⟩ => ?_, fun ⟨i, e, p⟩ => ⟨_, e, ?_⟩⟩
  · cases x <;> first | exact p.elim | skip
    rename_i y
    cases y <;> exact ⟨_, e, p⟩
  · cases i <;> exact p
theorem w_or {a b : E} : (evalE cf (.or a b) env st).wp k = (evalE cf a env st).wp (kOr cf b env k) := by
  simp only [evalE, wp_bind, wp_readD]
  congr 1
  funext v s
  unfold kOr
  refine propext ⟨fun ⟨x, e, p⟩ => ?_, fun ⟨i, e, p⟩ => ⟨_, e, ?_⟩⟩
  · cases x <;> first | exact p.elim | skip
    rename_i y
    cases y <;> exact ⟨_, e, p⟩
  · cases i <;> exact p
theorem w_not {a : E} : (evalE cf (.not a) env st).wp k = (evalE cf a env st).wp (kNot k) := by simp only [evalE, wp_bind, wp_readD, wp_ok]; rfl
theorem w_ite {c a b : E} : (evalE cf (.ite c a b) env st).wp k = (evalE cf c env st).wp (kIte cf a b env k) := by
  simp only [evalE, wp_bind, wp_readD]
  congr 1
  funext v s
  unfold kIte
  refine propext ⟨fun ⟨x, e, p⟩ => ⟨x, e, ?_⟩, fun ⟨x, e, p⟩ => ⟨x, e, ?_⟩⟩ <;> cases h : truthD x <;> rw [h] at p <;> exact p
theorem w_tup {es : List E} : (evalE cf (.tup es) env st).wp k = (evalDs cf es env st).wp (kTup k) := by simp only [evalE, wp_bind, wp_ok]; rfl
theorem w_lst {es : List E} : (evalE cf (.lst es) env st).wp k = (evalDs cf es env st).wp (kLst k) := by simp only [evalE, wp_bind, wp_ok]; rfl
theorem w_call {f : Nat} {es : List E} : (evalE cf (.call f es) env st).wp k = (evalTs cf es env st).wp (kCall cf f k) := by simp only [evalE, wp_bind]; rfl
theorem w_prim {p : Prim} {es : List E} : (evalE cf (.prim p es) env st).wp k = (evalTs cf es env st).wp (kPrim p k) := by
  simp only [evalE, wp_bind, wp_lift]
  congr 1
  funext v s
  unfold kPrim
  refine propext ⟨fun ⟨r, e, p⟩ => ?_, fun ⟨ys, r, e1, e2, p⟩ => ⟨r, by rw [e1]; exact e2, p⟩⟩
  cases h : v.mapM (rd s) with
  | none => rw [h] at e; cases e
  | some ys => rw [h] at e; exact ⟨ys, r, rfl, e, p⟩
theorem w_isi {a : E} {t : Ty} : (evalE cf (.isi a t) env st).wp k = (evalE cf a env st).wp (kIsi t k) := by simp only [evalE, wp_bind, wp_readD, wp_ok]; rfl
theorem w_ix {a i : E} : (evalE cf (.ix a i) env st).wp k = (evalE cf a env st).wp (kIx1 cf i env k) := by
  simp only [evalE, wp_bind, wp_settled, wp_lift, lift2m]; rfl
theorem k_ix1 {i : E} {v : RV} : kIx1 cf i env k v st = (evalE cf i env st).wp (kIx2 v.settle k) := rfl
theorem w_ts0 : (evalTs cf [] env st).wp kt = kt [] st := by simp only [evalTs, wp_ok]
theorem w_ts {e : E} {es : List E} : (evalTs cf (e :: es) env st).wp kt = (evalE cf e env st).wp (kTs1 cf es env kt) := by simp only [evalTs, wp_bind, wp_settled, wp_ok]; rfl
theorem k_ts1 {es : List E} {v : RV} : kTs1 cf es env kt v st = (evalTs cf es env st).wp (kTs2 v.settle kt) := rfl
theorem w_ds0 : (evalDs cf [] env st).wp kd = kd [] st := by simp only [evalDs, wp_ok]
theorem w_ds {e : E} {es : List E} : (evalDs cf (e :: es) env st).wp kd = (evalE cf e env st).wp (kDs1 cf es env kd) := by
  simp only [evalDs, wp_bind, wp_settled, wp_lift, wp_ok]
  congr 1
  funext v s
  unfold kDs1
  refine propext ⟨fun ⟨x, e, p⟩ => ?_, fun ⟨x, e, p⟩ => ⟨x, by rw [e]; rfl, p⟩⟩
  cases h : v.settle with
  | d y => rw [h] at e; cases e; exact ⟨_, rfl, p⟩
  | ref n => rw [h] at e; cases e
theorem k_ds1 {es : List E} {v : RV} {x : D} (h : v.settle = .d x) : kDs1 cf es env kd v st = (evalDs cf es env st).wp (kDs2 x kd) := by
  unfold kDs1
  refine propext ⟨fun ⟨y, e, p⟩ => ?_, fun p => ⟨x, h, p⟩⟩
  rw [h] at e
  cases e
  exact p
/-! statements -/
theorem x_nil : (execs cf wf [] env st).wp ks = ks .next env st := by simp only [execs, wps_ok]
theorem x_cons {s : S} {ss : List S} : (execs cf wf (s :: ss) env st).wp ks = (exec cf wf s env st).wp (nxt ks (execs cf wf ss)) := by simp only [execs, wps_seq]
theorem x_set {p : Pat} {e : E} : (exec cf wf (.set p e) env st).wp ks = (evalE cf e env st).wp (kSet p env ks) := by simp only [exec, wp_then, wp_settled, wps_bindThen, wps_ok]; rfl
theorem x_setM {i : Nat} {e : E} : (exec cf wf (.setM i e) env st).wp ks = (evalE cf e env st).wp (kSetM i env ks) := by
  simp only [exec, wp_then, alloc, wp_bind, wps_ok]
  congr 1
  funext v s
  cases v <;> rfl
theorem x_expr {e : E} : (exec cf wf (.expr e) env st).wp ks = (evalE cf e env st).wp (kExpr env ks) := by simp only [exec, wp_then, wps_ok]; rfl
theorem x_ret {e : E} : (exec cf wf (.ret e) env st).wp ks = (evalE cf e env st).wp (kRet env ks) := by simp only [exec, wp_then, wps_ok]; rfl
theorem x_retN : (exec cf wf .retN env st).wp ks = ks (.ret (.t (.d .none))) env st := by simp only [exec, wps_ok]
theorem x_pass : (exec cf wf .pass env st).wp ks = ks .next env st := by simp only [exec, wps_ok]
theorem x_ife {c : E} {a b : List S} : (exec cf wf (.ife c a b) env st).wp ks = (evalE cf c env st).wp (kIf cf wf a b env ks) := by
  simp only [exec, wp_then, wp_readD]
  congr 1
  funext v s
  unfold kIf
  refine propext ⟨fun ⟨x, e, p⟩ => ⟨x, e, ?_⟩, fun ⟨x, e, p⟩ => ⟨x, e, ?_⟩⟩ <;> cases h : truthD x <;> rw [h] at p <;> exact p
theorem x_for {p : Pat} {it : E} {body : List S} : (exec cf wf (.for p it body) env st).wp ks = (evalIt cf it env st).wp (kFor cf wf p body env ks) := by simp only [exec, wp_then]; rfl
def kAt (k : KR) (st : Store) : RV → Prop := fun r => k r st
def kAtB (k : KR) (st : Store) : Bool → Prop := fun r => k (tB r) st
def kAtD (k : KR) (st : Store) : D → Prop := fun r => k (.t (.d r)) st
def kOpb (o : Op) (x : D) (k : KR) (st : Store) : D → Prop := fun y => oK (binD o x y) (kAt k st)
def kOpa (o : Op) (w : T) (k : KR) (st : Store) : D → Prop := fun x => oK (rd st w) (kOpb o x k st)
def kCmb (o : Cm) (x : D) (k : KR) (st : Store) : D → Prop := fun y => oK (cmpD o x y) (kAtB k st)
def kCma (o : Cm) (w : T) (k : KR) (st : Store) : D → Prop := fun x => oK (rd st w) (kCmb o x k st)
def kIxb (x : D) (k : KR) (st : Store) : D → Prop := fun y => oK (ixD x y) (kAtD k st)
def kIxa (w : T) (k : KR) (st : Store) : D → Prop := fun x => oK (rd st w) (kIxb x k st)
def kNega (k : KR) (st : Store) : D → Prop := fun x => match x with
  | .int i => k (.t (.d (.int (-i)))) st
  | _ => False
def kChb (cf : CF) (c c' : Cm) (e : E) (env : Env) (x : D) (w : T) (k : KR) (st : Store) : Bool → Prop := fun b => if b then (evalE cf e env st).wp (kCm2 c' w k) else k (tB false) st
def kCha2 (cf : CF) (c c' : Cm) (e : E) (env : Env) (x : D) (w : T) (k : KR) (st : Store) : D → Prop := fun y => oK (cmpD c x y) (kChb cf c c' e env x w k st)
def kCha (cf : CF) (c c' : Cm) (e : E) (env : Env) (w : T) (k : KR) (st : Store) : D → Prop := fun x => oK (rd st w) (kCha2 cf c c' e env x w k st)
def brA (cf : CF) (b : E) (env : Env) (k : KR) (st : Store) (x : Bool) : Prop := if x then (evalE cf b env st).wp k else k (tB false) st
def brO (cf : CF) (b : E) (env : Env) (k : KR) (st : Store) (x : Bool) : Prop := if x then k (tB true) st else (evalE cf b env st).wp k
def brI (cf : CF) (a b : E) (env : Env) (k : KR) (st : Store) (x : Bool) : Prop := if x then (evalE cf a env st).wp k else (evalE cf b env st).wp k
def brS (cf : CF) (wf : Nat) (a b : List S) (env : Env) (ks : KS) (st : Store) (x : Bool) : Prop := if x then (execs cf wf a env st).wp ks else (execs cf wf b env st).wp ks
def kAnda (cf : CF) (b : E) (env : Env) (k : KR) (st : Store) : D → Prop := fun x => match x with
  | .bool x => brA cf b env k st x
  | _ => False
def kOra (cf : CF) (b : E) (env : Env) (k : KR) (st : Store) : D → Prop := fun x => match x with
  | .bool x => brO cf b env k st x
  | _ => False
def kNota (k : KR) (st : Store) : D → Prop := fun x => k (tB (!truthD x)) st
def kItea (cf : CF) (a b : E) (env : Env) (k : KR) (st : Store) : D → Prop := fun x => brI cf a b env k st (truthD x)
def kIfa (cf : CF) (wf : Nat) (a b : List S) (env : Env) (ks : KS) (st : Store) : D → Prop := fun x => brS cf wf a b env ks st (truthD x)
def kPrima (p : Prim) (k : KR) (st : Store) : List D → Prop := fun ys => oK (primD p ys) (kAt k st)
def kIsia (t : Ty) (k : KR) (st : Store) : D → Prop := fun x => k (tB (isiD t x)) st
def kSeta (ks : KS) (st : Store) : Env → Prop := fun e => ks .next e st
theorem k_op2 {o : Op} {v : T} {w : RV} : kOp2 o v k w st = oK (rd st v) (kOpa o w.settle k st) := propext ⟨fun ⟨x, y, r, h1, h2, h3, h4⟩ => ⟨x, h1, y, h2, r, h3, h4⟩, fun ⟨x, h1, y, h2, r, h3, h4⟩ => ⟨x, y, r, h1, h2, h3, h4⟩⟩
theorem k_ch2 {c c' : Cm} {e : E} {v : T} {w : RV} : kCh2 cf c c' e env v k w st = oK (rd st v) (kCha cf c c' e env w.settle k st) := by
  unfold kCh2
  have one : ∀ r : Bool, (if r then ((settled (evalE cf e env st)).bind fun z st3 => lift (((rd st3 w.settle).bind fun y => (rd st3 z).bind fun z => cmpD c' y z).map tB) st3).wp k else k (tB false) st) = if r then (evalE cf e env st).wp (kCm2 c' w.settle k) else k (tB false) st := by
    intro r
    cases r with
    | false => rfl
    | true =>
      rw [if_pos rfl, if_pos rfl, wp_bind, wp_settled]
      simp only [wp_lift, lift2m]
      rfl
  refine propext ⟨fun ⟨x, y, r, e1, e2, e3, p⟩ => ⟨x, e1, y, e2, r, e3, ?_⟩, fun ⟨x, e1, y, e2, r, e3, p⟩ => ⟨x, y, r, e1, e2, e3, ?_⟩⟩
  · rw [one] at p
    exact p
  · rw [one]
    exact p
theorem k_neg {v : RV} : kNeg k v st = oK (rd st v.settle) (kNega k st) := propext ⟨fun ⟨x, h1, h2⟩ => ⟨_, h1, h2⟩, fun ⟨x, h1, h2⟩ => by cases x <;> first | exact ⟨_, h1, h2⟩ | exact h2.elim⟩
theorem k_cm2 {c : Cm} {v : T} {w : RV} : kCm2 c v k w st = oK (rd st v) (kCma c w.settle k st) := propext ⟨fun ⟨x, y, r, h1, h2, h3, h4⟩ => ⟨x, h1, y, h2, r, h3, h4⟩, fun ⟨x, h1, y, h2, r, h3, h4⟩ => ⟨x, y, r, h1, h2, h3, h4⟩⟩
theorem k_and {b : E} {v : RV} : kAnd cf b env k v st = oK (rd st v.settle) (kAnda cf b env k st) := propext ⟨fun ⟨x, h1, h2⟩ => ⟨_, h1, h2⟩, fun ⟨x, h1, h2⟩ => by cases x <;> first | exact ⟨_, h1, h2⟩ | exact h2.elim⟩
theorem k_or {b : E} {v : RV} : kOr cf b env k v st = oK (rd st v.settle) (kOra cf b env k st) := propext ⟨fun ⟨x, h1, h2⟩ => ⟨_, h1, h2⟩, fun ⟨x, h1, h2⟩ => by cases x <;> first | exact ⟨_, h1, h2⟩ | exact h2.elim⟩
theorem k_not {v : RV} : kNot k v st = oK (rd st v.settle) (kNota k st) := rfl
theorem k_ite {a b : E} {v : RV} : kIte cf a b env k v st = oK (rd st v.settle) (kItea cf a b env k st) := rfl
theorem k_tup {xs : List D} : kTup k xs st = k (.t (.d (.tuple xs))) st := rfl
theorem k_lst {xs : List D} : kLst k xs st = k (.new xs) st := rfl
theorem k_call {f : Nat} {xs : List T} : kCall cf f k xs st = (cf f xs st).wp k := rfl
theorem k_prim {p : Prim} {xs : List T} : kPrim p k xs st = oK (xs.mapM (rd st)) (kPrima p k st) := propext ⟨fun ⟨ys, r, h1, h2, h3⟩ => ⟨ys, h1, r, h2, h3⟩, fun ⟨ys, h1, r, h2, h3⟩ => ⟨ys, r, h1, h2, h3⟩⟩
theorem k_isi {t : Ty} {v : RV} : kIsi t k v st = oK (rd st v.settle) (kIsia t k st) := rfl
theorem k_ix2 {v : T} {w : RV} : kIx2 v k w st = oK (rd st v) (kIxa w.settle k st) := propext ⟨fun ⟨x, y, r, h1, h2, h3, h4⟩ => ⟨x, h1, y, h2, r, h3, h4⟩, fun ⟨x, h1, y, h2, r, h3, h4⟩ => ⟨x, y, r, h1, h2, h3, h4⟩⟩
theorem k_ts2 {v : T} {vs : List T} : kTs2 v kt vs st = kt (v :: vs) st := rfl
theorem k_ds2 {x : D} {vs : List D} : kDs2 x kd vs st = kd (x :: vs) st := rfl
theorem k_ds1d {es : List E} {x : D} : kDs1 cf es env kd (.t (.d x)) st = (evalDs cf es env st).wp (kDs2 x kd) := k_ds1 rfl
theorem k_ds1n {es : List E} {xs : List D} : kDs1 cf es env kd (.new xs) st = (evalDs cf es env st).wp (kDs2 (.list xs) kd) := k_ds1 rfl
theorem k_set {p : Pat} {v : RV} : kSet p env ks v st = oK (bindP st p v.settle env) (kSeta ks st) := rfl
theorem k_setMt {i : Nat} {v : T} : kSetM i env ks (.t v) st = ks .next (env.set i (some v)) st := rfl
theorem k_setMn {i : Nat} {xs : List D} : kSetM i env ks (.new xs) st = ks .next (env.set i (some (.ref st.length))) (st ++ [.lst xs]) := rfl
theorem k_expr {v : RV} : kExpr env ks v st = ks .next env st := rfl
theorem k_ret {v : RV} : kRet env ks v st = ks (.ret v) env st := rfl
theorem k_if {a b : List S} {v : RV} : kIf cf wf a b env ks v st = oK (rd st v.settle) (kIfa cf wf a b env ks st) := rfl
theorem k_for {p : Pat} {body : List S} {xs : List D} : kFor cf wf p body env ks (.fz xs) st = (forL (fun x env st => bindThen (bindP st p (.d x) env) fun env' => execs cf wf body env' st) xs env st).wp ks := rfl
theorem k_finN {n0 : Nat} : kFin n0 k .next env st = k (.t (.d .none)) (st.take n0) := rfl
theorem k_finD {n0 : Nat} {v : D} : kFin n0 k (.ret (.t (.d v))) env st = k (.t (.d v)) (st.take n0) := rfl
theorem k_finL {n0 : Nat} {xs : List D} : kFin n0 k (.ret (.new xs)) env st = k (.new xs) (st.take n0) := rfl
theorem k_finR {n0 n : Nat} : kFin n0 k (.ret (.t (.ref n))) env st = (leave n0 st (.t (.ref n))).wp k := rfl
theorem st_t {v : T} : (RV.t v).settle = v := rfl
theorem st_n {xs : List D} : (RV.new xs).settle = .d (.list xs) := rfl
theorem rd_d {v : D} : rd st (.d v) = some v := rfl
/-! slices -/
def kSl (lo hi : E) (cf : CF) (env : Env) (k : KR) : KR := fun v st => ((evalO cf lo env st).bind fun l st2 => (evalO cf hi env st2).bind fun h st3 => lift ((rd st3 v.settle).bind fun x => slD x l h) st3).wp k
theorem w_sl {a lo hi : E} : (evalE cf (.sl a lo hi) env st).wp k = (evalE cf a env st).wp (kSl lo hi cf env k) := by
  simp only [evalE]
  rw [wp_bind, wp_settled]
  rfl
def kO (ko : Option Int → Store → Prop) : KR := fun v st => ∃ i, rd st v.settle = some (.int i) ∧ ko (some i) st
def kSl1 (hi : E) (cf : CF) (env : Env) (v : T) (k : KR) : Option Int → Store → Prop := fun l st2 => ((evalO cf hi env st2).bind fun h st3 => lift ((rd st3 v).bind fun x => slD x l h) st3).wp k
def kSl2 (l : Option Int) (v : T) (k : KR) : Option Int → Store → Prop := fun h st3 => ∃ x r, rd st3 v = some x ∧ slD x l h = some r ∧ k r st3
theorem k_sl {lo hi : E} {v : RV} : kSl lo hi cf env k v st = (evalO cf lo env st).wp (kSl1 hi cf env v.settle k) := by
  unfold kSl
  rw [wp_bind]
  rfl
theorem k_sl1 {hi : E} {l : Option Int} {v : T} : kSl1 hi cf env v k l st = (evalO cf hi env st).wp (kSl2 l v k) := by
  unfold kSl1
  rw [wp_bind]
  congr 1
  funext h s
  rw [wp_lift]
  unfold kSl2
  refine propext ⟨fun ⟨r, e, p⟩ => ?_, fun ⟨x, r, e1, e2, p⟩ => ⟨r, by rw [e1]; exact e2, p⟩⟩
  cases hv : rd s v with
  | none => rw [hv] at e; cases e
  | some x => rw [hv] at e; exact ⟨x, r, rfl, e, p⟩
def kSlb (l h : Option Int) (k : KR) (st : Store) : D → Prop := fun x => oK (slD x l h) (kAt k st)
theorem k_sl2 {l h : Option Int} {v : T} : kSl2 l v k h st = oK (rd st v) (kSlb l h k st) := propext ⟨fun ⟨x, r, h1, h2, h3⟩ => ⟨x, h1, r, h2, h3⟩, fun ⟨x, h1, r, h2, h3⟩ => ⟨x, r, h1, h2, h3⟩⟩
theorem w_o0 {ko : Option Int → Store → Prop} : (evalO cf .hole env st).wp ko = ko none st := by simp only [evalO, wp_ok]
theorem w_o1 {e : E} {ko : Option Int → Store → Prop} (h : e ≠ .hole) : (evalO cf e env st).wp ko = (evalE cf e env st).wp (kO ko) := by
  have e1 : evalO cf e env st = (readD (evalE cf e env st)).bind fun x st1 => match x with
    | .int i => .ok (some i) st1
    | _ => .stuck := by
    cases e <;> first | exact absurd rfl h | (simp only [evalO]; done) | (simp only [evalO]; rfl)
  rw [e1, wp_bind, wp_readD]
  congr 1
  funext v s
  unfold kO
  refine propext ⟨fun ⟨x, e, p⟩ => ?_, fun ⟨i, e, p⟩ => ⟨_, e, p⟩⟩
  cases x <;> first | exact ⟨_, e, p⟩ | exact p.elim
theorem w_o_var {i : Nat} {ko : Option Int → Store → Prop} : (evalO cf (.var i) env st).wp ko = (evalE cf (.var i) env st).wp (kO ko) := w_o1 (by simp)
theorem w_o_con {v : D} {ko : Option Int → Store → Prop} : (evalO cf (.con v) env st).wp ko = (evalE cf (.con v) env st).wp (kO ko) := w_o1 (by simp)
theorem w_o_op {o : Op} {a b : E} {ko : Option Int → Store → Prop} : (evalO cf (.op o a b) env st).wp ko = (evalE cf (.op o a b) env st).wp (kO ko) := w_o1 (by simp)
def kOa (ko : Option Int → Store → Prop) (st : Store) : D → Prop := fun x => match x with
  | .int i => ko (some i) st
  | _ => False
theorem k_o {ko : Option Int → Store → Prop} {v : RV} : kO ko v st = oK (rd st v.settle) (kOa ko st) := propext ⟨fun ⟨x, h1, h2⟩ => ⟨_, h1, h2⟩, fun ⟨x, h1, h2⟩ => by cases x <;> first | exact ⟨_, h1, h2⟩ | exact h2.elim⟩
/-! what a loop walks -/
def plainIt : E → Bool
  | .rng _ => false
  | .enm _ => false
  | .zp _ _ => false
  | _ => true
def kSrc (kj : KJ) : KR := fun v st => ∃ s, srcOf st v = some s ∧ kj s st
def kRng (kj : KJ) : KR := fun v st => ∃ n : Int, rd st v.settle = some (.int n) ∧ -(big : Int) ≤ n ∧ n ≤ big ∧ kj (.fz (intsFrom 0 n.toNat)) st
theorem w_it {c : E} (h : plainIt c = true) : (evalIt cf c env st).wp kj = (evalE cf c env st).wp (kSrc kj) := by
  have e : evalIt cf c env st = (evalE cf c env st).bind fun v st1 => lift (srcOf st1 v) st1 := by
    cases c <;> first | (simp only [evalIt]; done) | (cases h; done)
  rw [e, wp_bind]
  congr 1
  funext v s
  rw [wp_lift]
  rfl
theorem w_it_var {i : Nat} : (evalIt cf (.var i) env st).wp kj = (evalE cf (.var i) env st).wp (kSrc kj) := w_it rfl
theorem w_it_con {v : D} : (evalIt cf (.con v) env st).wp kj = (evalE cf (.con v) env st).wp (kSrc kj) := w_it rfl
theorem w_it_ix {a i : E} : (evalIt cf (.ix a i) env st).wp kj = (evalE cf (.ix a i) env st).wp (kSrc kj) := w_it rfl
theorem w_it_lst {es : List E} : (evalIt cf (.lst es) env st).wp kj = (evalE cf (.lst es) env st).wp (kSrc kj) := w_it rfl
theorem w_it_tup {es : List E} : (evalIt cf (.tup es) env st).wp kj = (evalE cf (.tup es) env st).wp (kSrc kj) := w_it rfl
theorem w_it_call {f : Nat} {es : List E} : (evalIt cf (.call f es) env st).wp kj = (evalE cf (.call f es) env st).wp (kSrc kj) := w_it rfl
theorem w_it_prim {p : Prim} {es : List E} : (evalIt cf (.prim p es) env st).wp kj = (evalE cf (.prim p es) env st).wp (kSrc kj) := w_it rfl
theorem w_it_sl {a b c : E} : (evalIt cf (.sl a b c) env st).wp kj = (evalE cf (.sl a b c) env st).wp (kSrc kj) := w_it rfl
theorem w_it_op {o : Op} {a b : E} : (evalIt cf (.op o a b) env st).wp kj = (evalE cf (.op o a b) env st).wp (kSrc kj) := w_it rfl
theorem w_it_comp {own : List Nat} {p : Pat} {it elt : E} {conds : List E} : (evalIt cf (.comp own p it conds elt) env st).wp kj = (evalE cf (.comp own p it conds elt) env st).wp (kSrc kj) := w_it rfl
theorem w_it_ite {a b c : E} : (evalIt cf (.ite a b c) env st).wp kj = (evalE cf (.ite a b c) env st).wp (kSrc kj) := w_it rfl
def kSrca (kj : KJ) (st : Store) : Src → Prop := fun s => kj s st
theorem k_src {v : RV} : kSrc kj v st = oK (srcOf st v) (kSrca kj st) := rfl
theorem w_rng {a : E} : (evalIt cf (.rng [a]) env st).wp kj = (evalE cf a env st).wp (kRng kj) := by
  simp only [evalIt, wp_bind, wp_readD]
  congr 1
  funext v s
  unfold kRng
  refine propext ⟨fun ⟨x, e, p⟩ => ?_, fun ⟨i, e, p1, p2, p⟩ => ⟨_, e, ?_⟩⟩
  · cases x <;> first | exact p.elim | skip
    rename_i n
    simp only at p
    split at p
    · rename_i hn
      exact ⟨n, e, hn.1, hn.2, p⟩
    · exact p.elim
  · simp only
    rw [if_pos ⟨p1, p2⟩]
    exact p
def kRnga (kj : KJ) (st : Store) : D → Prop := fun x => match x with
  | .int n => (-(big : Int) ≤ n ∧ n ≤ big) ∧ kj (.fz (intsFrom 0 n.toNat)) st
  | _ => False
theorem k_rng {v : RV} : kRng kj v st = oK (rd st v.settle) (kRnga kj st) := propext ⟨fun ⟨x, h1, h2, h3, h4⟩ => ⟨_, h1, ⟨h2, h3⟩, h4⟩, fun ⟨x, h1, h2⟩ => by cases x <;> first | exact ⟨_, h1, h2.1.1, h2.1.2, h2.2⟩ | exact h2.elim⟩
/-! comprehensions -/
def bodyQ (cf : CF) (own : List Nat) (p : Pat) (conds : List E) (elt : E) (env : Env) : D → Store → Res (Option D) := fun x st => (lift (bindP st p (.d x) (wipe env own)) st).bind fun env' st2 => (evalCs cf conds env' st2).bind fun b st3 =>
      if b then (settled (evalE cf elt env' st3)).bind fun v st4 => lift ((pureT v).map some) st4 else .ok none st3
def kComp (cf : CF) (own : List Nat) (p : Pat) (conds : List E) (elt : E) (env : Env) (k : KR) : KJ := fun src st => ((loopSrc (bodyQ cf own p conds elt env) src st).noexc).wp fun xs st5 => k (.new xs) st5
theorem wp_noexc {α : Type} {r : Res α} {P : α → Store → Prop} : r.noexc.wp P = r.wp P := by cases r <;> rfl
theorem w_comp {own : List Nat} {p : Pat} {it elt : E} {conds : List E} : (evalE cf (.comp own p it conds elt) env st).wp k = (evalIt cf it env st).wp (kComp cf own p conds elt env k) := by
  simp only [evalE]
  rw [wp_bind]
  congr 1
  funext src s
  rw [wp_bind]
  rfl
theorem k_comp {own : List Nat} {p : Pat} {elt : E} {conds : List E} {xs : List D} : kComp cf own p conds elt env k (.fz xs) st = (compL (bodyQ cf own p conds elt env) xs st).wp (kLst k) := by
  unfold kComp
  rw [wp_noexc]
  rfl
def kElt (ko : Option D → Store → Prop) : KR := fun v st => ∃ x, v.settle = .d x ∧ ko (some x) st
def kBo0 (cf : CF) (elt : E) (ko : Option D → Store → Prop) (st : Store) : Env → Prop := fun e => (evalE cf elt e st).wp (kElt ko)
theorem body0 {own : List Nat} {p : Pat} {elt : E} {x : D} {ko : Option D → Store → Prop} : (bodyQ cf own p [] elt env x st).wp ko = oK (bindP st p (.d x) (wipe env own)) (kBo0 cf elt ko st) := by
  show _ = ∃ e, bindP st p (.d x) (wipe env own) = some e ∧ (evalE cf elt e st).wp (kElt ko)
  unfold bodyQ
  rw [wp_bind, wp_lift]
  congr 1
  funext e
  congr 1
  simp only [evalCs]
  rw [wp_bind, wp_ok, if_pos rfl, wp_bind, wp_settled]
  congr 1
  funext v s
  rw [wp_lift]
  unfold kElt
  refine propext ⟨fun ⟨r, e, p⟩ => ?_, fun ⟨x, e, p⟩ => ⟨some x, by rw [e]; rfl, p⟩⟩
  cases hv : v.settle with
  | d y => rw [hv] at e; cases e; exact ⟨y, rfl, p⟩
  | ref n => rw [hv] at e; cases e
theorem k_eltD {ko : Option D → Store → Prop} {x : D} : kElt ko (.t (.d x)) st = ko (some x) st := propext ⟨fun ⟨y, e, h⟩ => by cases e; exact h, fun h => ⟨x, rfl, h⟩⟩
theorem k_eltN {ko : Option D → Store → Prop} {xs : List D} : kElt ko (.new xs) st = ko (some (.list xs)) st := propext ⟨fun ⟨y, e, h⟩ => by cases e; exact h, fun h => ⟨_, rfl, h⟩⟩
def kCond (cf : CF) (elt : E) (env : Env) (ko : Option D → Store → Prop) : KR := fun v st => ∃ x, rd st v.settle = some x ∧ if truthD x then (evalE cf elt env st).wp (kElt ko) else ko none st
def kBo1 (cf : CF) (c elt : E) (ko : Option D → Store → Prop) (st : Store) : Env → Prop := fun e => (evalE cf c e st).wp (kCond cf elt e ko)
theorem body1 {own : List Nat} {p : Pat} {c elt : E} {x : D} {ko : Option D → Store → Prop} : (bodyQ cf own p [c] elt env x st).wp ko = oK (bindP st p (.d x) (wipe env own)) (kBo1 cf c elt ko st) := by
  show _ = ∃ e, bindP st p (.d x) (wipe env own) = some e ∧ (evalE cf c e st).wp (kCond cf elt e ko)
  unfold bodyQ
  rw [wp_bind, wp_lift]
  congr 1
  funext e
  congr 1
  simp only [evalCs]
  rw [wp_bind, wp_bind, wp_readD]
  congr 1
  funext v s
  unfold kCond
  refine propext ⟨fun ⟨r, e, p⟩ => ⟨r, e, ?_⟩, fun ⟨r, e, p⟩ => ⟨r, e, ?_⟩⟩
  · cases ht : truthD r <;> rw [ht] at p
    · exact p
    · rw [if_pos rfl, wp_ok, if_pos rfl, wp_bind, wp_settled] at p
      rw [if_pos rfl]
      refine Res.wp.mono p fun v s q => ?_
      rw [wp_lift] at q
      obtain ⟨o, e, q⟩ := q
      cases hv : v.settle with
      | d y => rw [hv] at e; cases e; exact ⟨y, hv, q⟩
      | ref n => rw [hv] at e; cases e
  · cases ht : truthD r <;> rw [ht] at p
    · exact p
    · rw [if_pos rfl, wp_ok, if_pos rfl, wp_bind, wp_settled]
      rw [if_pos rfl] at p
      refine Res.wp.mono p fun v s ⟨x, e, q⟩ => ?_
      rw [wp_lift]
      exact ⟨some x, by rw [e]; rfl, q⟩
def brC (cf : CF) (elt : E) (env : Env) (ko : Option D → Store → Prop) (st : Store) (x : Bool) : Prop := if x then (evalE cf elt env st).wp (kElt ko) else ko none st
def kConda (cf : CF) (elt : E) (env : Env) (ko : Option D → Store → Prop) (st : Store) : D → Prop := fun x => brC cf elt env ko st (truthD x)
theorem k_cond {elt : E} {ko : Option D → Store → Prop} {v : RV} : kCond cf elt env ko v st = oK (rd st v.settle) (kConda cf elt env ko st) := rfl
/-! pairs, changes -/
def kPar1 (cf : CF) (i j : Nat) (b : E) (env : Env) (ks : KS) : KR := fun v st => (evalE cf b env st).wp fun w st2 => ks .next ((env.set i (some v.settle)).set j (some w.settle)) st2
def kPar2 (i j : Nat) (v : T) (env : Env) (ks : KS) : KR := fun w st2 => ks .next ((env.set i (some v)).set j (some w.settle)) st2
theorem x_par {i j : Nat} {a b : E} : (exec cf wf (.par i j false false a b) env st).wp ks = (evalE cf a env st).wp (kPar1 cf i j b env ks) := by
  simp only [exec, evalF, Bool.false_eq_true, if_false, wp_then, wp_settled, wps_ok]
  rfl
theorem k_par1 {i j : Nat} {b : E} {v : RV} : kPar1 cf i j b env ks v st = (evalE cf b env st).wp (kPar2 i j v.settle env ks) := rfl
theorem k_par2 {i j : Nat} {v : T} {w : RV} : kPar2 i j v env ks w st = ks .next ((env.set i (some v)).set j (some w.settle)) st := rfl
def kSI1 (cf : CF) (o i : E) (env : Env) (ks : KS) : KR := fun v st => ((settled (evalE cf o env st)).then env fun x st2 => (readD (evalE cf i env st2)).then env fun k st3 => match v.settle, x, k with
    | .d v, .ref n, .int k => match st3[n]? with
      | some (.lst xs) => match ixN xs.length k with
        | some j => .ok .next env (st3.set n (.lst (xs.set j v)))
        | none => .stuck
      | _ => .stuck
    | _, _, _ => .stuck).wp ks
def kSI2 (cf : CF) (i : E) (env : Env) (v : T) (ks : KS) : KR := fun w st => ((readD (evalE cf i env st)).then env fun k st3 => match v, w.settle, k with
    | .d v, .ref n, .int k => match st3[n]? with
      | some (.lst xs) => match ixN xs.length k with
        | some j => .ok .next env (st3.set n (.lst (xs.set j v)))
        | none => .stuck
      | _ => .stuck
    | _, _, _ => .stuck).wp ks
def kSI3 (env : Env) (v w : T) (ks : KS) : KR := fun z st => ∃ y n i xs j, v = .d y ∧ w = .ref n ∧ rd st z.settle = some (.int i) ∧ st[n]? = some (.lst xs) ∧ ixN xs.length i = some j ∧ ks .next env (st.set n (.lst (xs.set j y)))
theorem x_setI {o i e : E} : (exec cf wf (.setI o i e) env st).wp ks = (evalE cf e env st).wp (kSI1 cf o i env ks) := by
  simp only [exec]
  rw [wp_then, wp_settled]
  rfl
theorem k_si1 {o i : E} {v : RV} : kSI1 cf o i env ks v st = (evalE cf o env st).wp (kSI2 cf i env v.settle ks) := by
  unfold kSI1
  rw [wp_then, wp_settled]
  rfl
theorem k_si2 {i : E} {v : T} {w : RV} : kSI2 cf i env v ks w st = (evalE cf i env st).wp (kSI3 env v w.settle ks) := by
  unfold kSI2
  rw [wp_then, wp_readD]
  congr 1
  funext z s
  unfold kSI3
  refine propext ⟨fun ⟨x, e, p⟩ => ?_, fun ⟨y, n, i, xs, j, e1, e2, e3, e4, e5, p⟩ => ⟨_, e3, ?_⟩⟩
  · obtain ⟨y, rfl⟩ : ∃ y, v = .d y := by
      cases v with
      | d y => exact ⟨y, rfl⟩
      | ref m => exact p.elim
    obtain ⟨n, hw⟩ : ∃ n, w.settle = .ref n := by
      cases hw : w.settle with
      | d y => rw [hw] at p; exact p.elim
      | ref m => exact ⟨m, rfl⟩
    rw [hw] at p
    obtain ⟨i, rfl⟩ : ∃ i, x = .int i := by
      cases x <;> first | exact ⟨_, rfl⟩ | exact p.elim
    simp only at p
    cases hc : s[n]? with
    | none => rw [hc] at p; exact p.elim
    | some c =>
      rw [hc] at p
      cases c with
      | dead => exact p.elim
      | lst xs =>
        simp only at p
        cases hj : ixN xs.length i with
        | none => rw [hj] at p; exact p.elim
        | some j => rw [hj] at p; exact ⟨y, n, i, xs, j, rfl, hw, e, hc, hj, p⟩
  · subst e1
    rw [e2]
    simp only [e4, e5]
    exact p
def kSId (env : Env) (n : Nat) (y : D) (xs : List D) (ks : KS) (st : Store) : Nat → Prop := fun j => ks .next env (st.set n (.lst (xs.set j y)))
def kSIc (env : Env) (n : Nat) (y : D) (i : Int) (ks : KS) (st : Store) : Cell → Prop := fun c => match c with
  | .lst xs => oK (ixN xs.length i) (kSId env n y xs ks st)
  | .dead => False
def kSIb (env : Env) (n : Nat) (y : D) (ks : KS) (st : Store) : D → Prop := fun i => match i with
  | .int i => oK (st[n]?) (kSIc env n y i ks st)
  | _ => False
theorem k_si3 {y : D} {n : Nat} {z : RV} : kSI3 env (.d y) (.ref n) ks z st = oK (rd st z.settle) (kSIb env n y ks st) := by
  refine propext ⟨fun ⟨y', n', i, xs, j, e1, e2, e3, e4, e5, p⟩ => ?_, fun ⟨x, e1, p⟩ => ?_⟩
  · cases e1
    cases e2
    exact ⟨_, e3, _, e4, j, e5, p⟩
  · cases x <;> first | exact p.elim | skip
    obtain ⟨c, e2, p⟩ := p
    cases c with
    | dead => exact p.elim
    | lst xs =>
      obtain ⟨j, e3, p⟩ := p
      exact ⟨y, n, _, xs, j, rfl, rfl, e1, e2, e3, p⟩
/-! methods of a cell -/
def kMe1 (cf : CF) (m : Meth) (es : List E) (env : Env) (k : KR) : KR := fun v st => ∃ n xs, v.settle = .ref n ∧ st[n]? = some (.lst xs) ∧ (evalDs cf es env st).wp fun ys st2 => ∃ xs v xs', st2[n]? = some (.lst xs) ∧ methD m xs ys = some (v, xs') ∧ k (.t (.d v)) (st2.set n (.lst xs'))
def kMe2 (m : Meth) (n : Nat) (k : KR) : KDs := fun ys st2 => ∃ xs v xs', st2[n]? = some (.lst xs) ∧ methD m xs ys = some (v, xs') ∧ k (.t (.d v)) (st2.set n (.lst xs'))
theorem w_meth {m : Meth} {o : E} {es : List E} : (evalE cf (.meth m o es) env st).wp k = (evalE cf o env st).wp (kMe1 cf m es env k) := by
  simp only [evalE]
  rw [wp_bind, wp_settled]
  congr 1
  funext v s
  unfold kMe1
  refine propext ⟨fun p => ?_, fun ⟨n, xs, e1, e2, p⟩ => ?_⟩
  · cases hv : v.settle with
    | d y => rw [hv] at p; exact p.elim
    | ref n =>
      rw [hv] at p
      simp only at p
      cases hc : s[n]? with
      | none => rw [hc] at p; exact p.elim
      | some c =>
        rw [hc] at p
        cases c with
        | dead => exact p.elim
        | lst xs =>
          simp only at p
          rw [wp_bind] at p
          refine ⟨n, xs, rfl, hc, Res.wp.mono p fun ys st2 q => ?_⟩
          cases hc2 : st2[n]? with
          | none => rw [hc2] at q; exact q.elim
          | some c2 =>
            rw [hc2] at q
            cases c2 with
            | dead => exact q.elim
            | lst xs2 =>
              simp only at q
              cases hm : methD m xs2 ys with
              | none => rw [hm] at q; exact q.elim
              | some r => rw [hm] at q; exact ⟨xs2, r.1, r.2, rfl, hm, q⟩
  · rw [e1]
    simp only [e2]
    rw [wp_bind]
    refine Res.wp.mono p fun ys st2 ⟨xs2, v2, xs3, e3, e4, q⟩ => ?_
    simp only [e3, e4]
    exact q
def kMea (cf : CF) (m : Meth) (es : List E) (env : Env) (n : Nat) (k : KR) (st : Store) : Cell → Prop := fun c => match c with
  | .lst _ => (evalDs cf es env st).wp (kMe2 m n k)
  | .dead => False
theorem k_me1 {m : Meth} {es : List E} {n : Nat} : kMe1 cf m es env k (.t (.ref n)) st = oK (st[n]?) (kMea cf m es env n k st) := by
  unfold kMe1
  refine propext ⟨fun ⟨n', xs', e1, e2, p⟩ => ?_, fun ⟨c, e, p⟩ => ?_⟩
  · cases e1
    exact ⟨_, e2, p⟩
  · cases c with
    | dead => exact p.elim
    | lst xs => exact ⟨n, xs, rfl, e, p⟩
def kMeb (n : Nat) (k : KR) (st : Store) : D × List D → Prop := fun r => k (.t (.d r.1)) (st.set n (.lst r.2))
def kMec (m : Meth) (n : Nat) (ys : List D) (k : KR) (st : Store) : Cell → Prop := fun c => match c with
  | .lst xs => oK (methD m xs ys) (kMeb n k st)
  | .dead => False
theorem k_me2 {m : Meth} {n : Nat} {ys : List D} : kMe2 m n k ys st = oK (st[n]?) (kMec m n ys k st) := by
  refine propext ⟨fun ⟨xs, v, xs', e1, e2, p⟩ => ⟨_, e1, (v, xs'), e2, p⟩, fun ⟨c, e, p⟩ => ?_⟩
  cases c with
  | dead => exact p.elim
  | lst xs =>
    obtain ⟨r, e2, p⟩ := p
    exact ⟨xs, r.1, r.2, e, e2, p⟩
/-! more than one cell may be made -/
def kPm1 (cf : CF) (i j : Nat) (mi mj : Bool) (b : E) (env : Env) (ks : KS) : T → Store → Prop := fun v st => (evalF mj (evalE cf b env st)).wp fun w st2 => ks .next ((env.set i (some v)).set j (some w)) st2
theorem x_parM {i j : Nat} {mi mj : Bool} {a b : E} : (exec cf wf (.par i j mi mj a b) env st).wp ks = (evalF mi (evalE cf a env st)).wp (kPm1 cf i j mi mj b env ks) := by
  simp only [exec, wp_then, wps_ok]
  rfl
/-- a while loop -/
theorem x_whl {c : E} {body : List S} : (exec cf wf (.whl c body) env st).wp ks = (whileL (fun env st => (readD (evalE cf c env st)).bind fun x st1 => .ok (truthD x) st1) (fun env st => execs cf wf body env st) wf env st).wp ks := by simp only [exec]
theorem a_at {r : RV} : kAt k st r = k r st := rfl
theorem a_atB {r : Bool} : kAtB k st r = k (.t (.d (.bool r))) st := rfl
theorem a_atD {r : D} : kAtD k st r = k (.t (.d r)) st := rfl
theorem a_opb {o : Op} {x y : D} : kOpb o x k st y = oK (binD o x y) (kAt k st) := rfl
theorem a_opa {o : Op} {w : T} {x : D} : kOpa o w k st x = oK (rd st w) (kOpb o x k st) := rfl
theorem a_cmb {o : Cm} {x y : D} : kCmb o x k st y = oK (cmpD o x y) (kAtB k st) := rfl
theorem a_cma {o : Cm} {w : T} {x : D} : kCma o w k st x = oK (rd st w) (kCmb o x k st) := rfl
theorem a_ixb {x y : D} : kIxb x k st y = oK (ixD x y) (kAtD k st) := rfl
theorem a_ixa {w : T} {x : D} : kIxa w k st x = oK (rd st w) (kIxb x k st) := rfl
theorem a_neg {i : Int} : kNega k st (.int i) = k (.t (.d (.int (-i)))) st := rfl
theorem a_chT {c c' : Cm} {e : E} {x : D} {w : T} : kChb cf c c' e env x w k st true = (evalE cf e env st).wp (kCm2 c' w k) := rfl
theorem a_chF {c c' : Cm} {e : E} {x : D} {w : T} : kChb cf c c' e env x w k st false = k (tB false) st := rfl
theorem a_cha2 {c c' : Cm} {e : E} {x y : D} {w : T} : kCha2 cf c c' e env x w k st y = oK (cmpD c x y) (kChb cf c c' e env x w k st) := rfl
theorem a_cha {c c' : Cm} {e : E} {x : D} {w : T} : kCha cf c c' e env w k st x = oK (rd st w) (kCha2 cf c c' e env x w k st) := rfl
theorem a_brAT {b : E} : brA cf b env k st true = (evalE cf b env st).wp k := rfl
theorem a_brAF {b : E} : brA cf b env k st false = k (tB false) st := rfl
theorem a_brOT {b : E} : brO cf b env k st true = k (tB true) st := rfl
theorem a_brOF {b : E} : brO cf b env k st false = (evalE cf b env st).wp k := rfl
theorem a_brIT {a b : E} : brI cf a b env k st true = (evalE cf a env st).wp k := rfl
theorem a_brIF {a b : E} : brI cf a b env k st false = (evalE cf b env st).wp k := rfl
theorem a_brST {a b : List S} : brS cf wf a b env ks st true = (execs cf wf a env st).wp ks := rfl
theorem a_brSF {a b : List S} : brS cf wf a b env ks st false = (execs cf wf b env st).wp ks := rfl
theorem a_and {b : E} {x : Bool} : kAnda cf b env k st (.bool x) = brA cf b env k st x := rfl
theorem a_or {b : E} {x : Bool} : kOra cf b env k st (.bool x) = brO cf b env k st x := rfl
theorem a_not {x : D} : kNota k st x = k (tB (!truthD x)) st := rfl
theorem a_ite {a b : E} {x : D} : kItea cf a b env k st x = brI cf a b env k st (truthD x) := rfl
theorem a_if {a b : List S} {x : D} : kIfa cf wf a b env ks st x = brS cf wf a b env ks st (truthD x) := rfl
theorem a_prim {p : Prim} {ys : List D} : kPrima p k st ys = oK (primD p ys) (kAt k st) := rfl
theorem a_isi {t : Ty} {x : D} : kIsia t k st x = k (tB (isiD t x)) st := rfl
theorem a_set {e : Env} : kSeta ks st e = ks .next e st := rfl
theorem a_slb {l h : Option Int} {x : D} : kSlb l h k st x = oK (slD x l h) (kAt k st) := rfl
theorem a_o {ko : Option Int → Store → Prop} {i : Int} : kOa ko st (.int i) = ko (some i) st := rfl
theorem a_src {s : Src} : kSrca kj st s = kj s st := rfl
theorem a_rng {n : Int} : kRnga kj st (.int n) = ((-(big : Int) ≤ n ∧ n ≤ big) ∧ kj (.fz (intsFrom 0 n.toNat)) st) := rfl
theorem a_bo0 {elt : E} {ko : Option D → Store → Prop} {e : Env} : kBo0 cf elt ko st e = (evalE cf elt e st).wp (kElt ko) := rfl
theorem a_bo1 {c elt : E} {ko : Option D → Store → Prop} {e : Env} : kBo1 cf c elt ko st e = (evalE cf c e st).wp (kCond cf elt e ko) := rfl
theorem a_brCT {elt : E} {ko : Option D → Store → Prop} : brC cf elt env ko st true = (evalE cf elt env st).wp (kElt ko) := rfl
theorem a_brCF {elt : E} {ko : Option D → Store → Prop} : brC cf elt env ko st false = ko none st := rfl
theorem a_cond {elt : E} {ko : Option D → Store → Prop} {x : D} : kConda cf elt env ko st x = brC cf elt env ko st (truthD x) := rfl
theorem a_sid {n j : Nat} {y : D} {xs : List D} : kSId env n y xs ks st j = ks .next env (st.set n (.lst (xs.set j y))) := rfl
theorem a_sic {n : Nat} {y : D} {i : Int} {xs : List D} : kSIc env n y i ks st (.lst xs) = oK (ixN xs.length i) (kSId env n y xs ks st) := rfl
theorem a_sib {n : Nat} {y : D} {i : Int} : kSIb env n y ks st (.int i) = oK (st[n]?) (kSIc env n y i ks st) := rfl
theorem a_mea {m : Meth} {es : List E} {n : Nat} {xs : List D} : kMea cf m es env n k st (.lst xs) = (evalDs cf es env st).wp (kMe2 m n k) := rfl
theorem a_meb {n : Nat} {r : D × List D} : kMeb n k st r = k (.t (.d r.1)) (st.set n (.lst r.2)) := rfl
theorem a_mec {m : Meth} {n : Nat} {ys xs : List D} : kMec m n ys k st (.lst xs) = oK (methD m xs ys) (kMeb n k st) := rfl
theorem rd_ref {n : Nat} {xs : List D} (h : st[n]? = some (.lst xs)) : rd st (.ref n) = some (.list xs) := by simp only [rd, h]
def kBT (k : Env → RS) (ks : KS) : Env → Prop := fun e => (k e).wp ks
theorem wps_bt {o : Option Env} {f : Env → RS} : (bindThen o f).wp ks = oK o (kBT f ks) := wps_bindThen
theorem a_bt {f : Env → RS} {e : Env} : kBT f ks e = (f e).wp ks := rfl
def kAl (kv : T → Store → Prop) : KR := fun v st => match v with
  | .t v => kv v st
  | .new xs => kv (.ref st.length) (st ++ [.lst xs])
theorem w_evT {r : Res RV} {kv : T → Store → Prop} : (evalF true r).wp kv = r.wp (kAl kv) := by
  unfold evalF alloc
  rw [if_pos rfl, wp_bind]
  congr 1
  funext v s
  cases v <;> rfl
def kStl (kv : T → Store → Prop) : KR := fun v st => kv v.settle st
theorem w_evF {r : Res RV} {kv : T → Store → Prop} : (evalF false r).wp kv = r.wp (kStl kv) := by
  unfold evalF
  rw [if_neg (by decide), wp_settled]
  rfl
theorem a_alT {kv : T → Store → Prop} {v : T} : kAl kv (.t v) st = kv v st := rfl
theorem a_alN {kv : T → Store → Prop} {xs : List D} : kAl kv (.new xs) st = kv (.ref st.length) (st ++ [.lst xs]) := rfl
theorem a_stl {kv : T → Store → Prop} {v : RV} : kStl kv v st = kv v.settle st := rfl
def kPm2 (i j : Nat) (v : T) (env : Env) (ks : KS) : T → Store → Prop := fun w st2 => ks .next ((env.set i (some v)).set j (some w)) st2
theorem k_pm1 {i j : Nat} {mi mj : Bool} {b : E} {v : T} : kPm1 cf i j mi mj b env ks v st = (evalF mj (evalE cf b env st)).wp (kPm2 i j v env ks) := rfl
theorem k_pm2 {i j : Nat} {v w : T} : kPm2 i j v env ks w st = ks .next ((env.set i (some v)).set j (some w)) st := rfl
theorem k_finC {n0 n : Nat} {xs : List D} (h : ¬ n < n0) (hc : st[n]? = some (.lst xs)) : kFin n0 k (.ret (.t (.ref n))) env st = k (.new xs) (st.take n0) := by
  show (leave n0 st (.t (.ref n))).wp k = _
  simp only [leave, if_neg h, hc]
  rfl
theorem k_finO {n0 n : Nat} (h : n < n0) : kFin n0 k (.ret (.t (.ref n))) env st = k (.t (.ref n)) (st.take n0) := by
  show (leave n0 st (.t (.ref n))).wp k = _
  simp only [leave, if_pos h]
  rfl
theorem w_dct0 : (evalE cf (.dct [] []) env st).wp k = k (.t (.d (.dict []))) st := by
  simp only [evalE, evalDs, Res.bind]
  rw [if_pos (by decide)]
  rfl
def kDct1 (q : D) (k : KR) : KDs := fun xs st => match xs with
  | [x] => k (.t (.d (.dict [(q, x)]))) st
  | _ => False
theorem w_dct1 {q : D} {e : E} (h : keysOk [q] = true) : (evalE cf (.dct [q] [e]) env st).wp k = (evalDs cf [e] env st).wp (kDct1 q k) := by
  simp only [evalE, wp_bind]
  congr 1
  funext xs s
  match xs with
  | [x] =>
    show (if _ then _ else _ : Res RV).wp k = _
    rw [if_pos ⟨rfl, h⟩]
    rfl
  | [] =>
    show (if _ then _ else _ : Res RV).wp k = _
    rw [if_neg (by simp)]
    rfl
  | _ :: _ :: _ =>
    show (if _ then _ else _ : Res RV).wp k = _
    rw [if_neg (by simp)]
    rfl
theorem a_dct1 {q x : D} : kDct1 q k [x] st = k (.t (.d (.dict [(q, x)]))) st := rfl
/-- a call: the body, then the frame is left -/
theorem wp_callN {tbl : List Def} {wf n f : Nat} {args : List T} {d : Def} (h : tbl[f]? = some d) (hl : args.length = d.np) : (callN tbl wf (n + 1) f args st).wp k = (execs (callN tbl wf n) wf d.body (startE d args) st).wp (kFin st.length k) := by
  simp only [callN, h, hl, if_true]
  cases execs (callN tbl wf n) wf d.body (startE d args) st with
  | ok fl e s => cases fl <;> rfl
  | exc c x e s =>
    cases x with
    | d y => rfl
    | ref m =>
      show (if _ then _ else _ : Res RV).wp k = False
      split <;> rfl
  | stuck => rfl
end
end MP


/-! MQ, part c: the steps as one tactic. -/
namespace MP
section
variable {i j : Int} {xs ys : List D}
theorem b_add : binD .add (.int i) (.int j) = some (.t (.d (.int (i + j)))) := rfl
theorem b_sub : binD .sub (.int i) (.int j) = some (.t (.d (.int (i - j)))) := rfl
theorem b_addL (h : xs.length + ys.length ≤ big) : binD .add (.list xs) (.list ys) = some (.new (xs ++ ys)) := if_pos h
theorem b_addT (h : xs.length + ys.length ≤ big) : binD .add (.tuple xs) (.tuple ys) = some (.t (.d (.tuple (xs ++ ys)))) := if_pos h
theorem b_mul (h : mulOk i j = true) : binD .mul (.int i) (.int j) = some (.t (.d (.int (i * j)))) := if_pos h
theorem b_pow (h : powOk i j = true) : binD .pow (.int i) (.int j) = some (.t (.d (.int (i ^ j.toNat)))) := if_pos h
theorem b_mulT (h : 1 ≤ j ∧ j ≤ 1000 ∧ xs.length ≤ 1000) : binD .mul (.tuple xs) (.int j) = some (.t (.d (.tuple (repD xs j)))) := if_pos h
theorem b_fdiv (h : 0 < j ∧ j < 1073741824) : binD .fdiv (.int i) (.int j) = some (.t (.d (.int (i / j)))) := if_pos h
theorem b_mod (h : 0 < j) : binD .mod (.int i) (.int j) = some (.t (.d (.int (i % j)))) := if_pos h
theorem c_lt : cmpD .lt (.int i) (.int j) = some (decide (i < j)) := rfl
theorem c_le : cmpD .le (.int i) (.int j) = some (decide (i ≤ j)) := rfl
theorem c_gt : cmpD .gt (.int i) (.int j) = some (decide (j < i)) := rfl
theorem c_ge : cmpD .ge (.int i) (.int j) = some (decide (j ≤ i)) := rfl
theorem shI : PySem.SeqAt.shaped (.int i) = true := by simp [PySem.SeqAt.shaped, PySem.PyData.canLay0, PySem.PyData.depth]
theorem c_eq {x y : D} (hx : PySem.SeqAt.shaped x = true) (hy : PySem.SeqAt.shaped y = true) (h : isStr y = false) : cmpD .eq x y = some (PySem.PyData.eqv x y) := by
  show eqD x y = _
  unfold eqD
  rw [h, Bool.and_false, if_neg (by decide), hx, hy]
  rfl
theorem c_ne {x y : D} (hx : PySem.SeqAt.shaped x = true) (hy : PySem.SeqAt.shaped y = true) (h : isStr y = false) : cmpD .ne x y = some (!PySem.PyData.eqv x y) := by
  show (eqD x y).map _ = _
  unfold eqD
  rw [h, Bool.and_false, if_neg (by decide), hx, hy]
  rfl
theorem c_eqS {x y : PySem.Str} : cmpD .eq (.str x) (.str y) = some (decide (x = y)) := rfl
theorem c_neS {x y : PySem.Str} : cmpD .ne (.str x) (.str y) = some (!decide (x = y)) := rfl
theorem c_eqI : cmpD .eq (.int i) (.int j) = some (decide (i = j)) := by
  rw [c_eq shI shI rfl]
  simp only [PySem.PyData.eqv]
  rfl
theorem c_neI : cmpD .ne (.int i) (.int j) = some (!decide (i = j)) := by
  rw [c_ne shI shI rfl]
  simp only [PySem.PyData.eqv]
  rfl
theorem c_isB {a b : Bool} : cmpD .is (.bool a) (.bool b) = some (a == b) := rfl
theorem c_isnotB {a b : Bool} : cmpD .isnot (.bool a) (.bool b) = some (!(a == b)) := rfl
theorem p_lenL : primD .len [.list xs] = some (.t (.d (.int xs.length))) := rfl
theorem p_lenT : primD .len [.tuple xs] = some (.t (.d (.int xs.length))) := rfl
theorem p_int : primD .int [.int i] = some (.t (.d (.int i))) := rfl
theorem p_max : primD .max [.int i, .int j] = some (.t (.d (.int (if j > i then j else i)))) := rfl
theorem p_min : primD .min [.int i, .int j] = some (.t (.d (.int (if j < i then j else i)))) := rfl
theorem p_tupL : primD .tuple [.list xs] = some (.t (.d (.tuple xs))) := rfl
theorem p_lstT : primD .list [.tuple xs] = some (.new xs) := rfl
theorem p_lstL : primD .list [.list xs] = some (.new xs) := rfl
theorem p_repr {x : D} (h : reprOk x = true) : primD .repr [x] = some (.t (.d (.str x.shown))) := if_pos h
theorem i_l : ixD (.list xs) (.int i) = atD xs i := rfl
theorem i_t : ixD (.tuple xs) (.int i) = atD xs i := rfl
theorem at0 {x : D} : atD (x :: xs) 0 = some x := by
  unfold atD ixN
  rw [if_pos (by omega), if_pos (by simp only [List.length_cons]; omega)]
  rfl
theorem at1 {x y : D} : atD (x :: y :: xs) 1 = some y := by
  unfold atD ixN
  rw [if_pos (by omega), if_pos (by simp only [List.length_cons]; omega)]
  rfl
theorem at2 {x y z : D} : atD (x :: y :: z :: xs) 2 = some z := by
  unfold atD ixN
  rw [if_pos (by omega), if_pos (by simp only [List.length_cons]; omega)]
  rfl
theorem t_bool {b : Bool} : truthD (.bool b) = b := rfl
theorem s_l {a b : Option Int} : slD (.list xs) a b = some (.new (cutD xs a b)) := rfl
theorem s_t {a b : Option Int} : slD (.tuple xs) a b = some (.t (.d (.tuple (cutD xs a b)))) := rfl
theorem bp_nm {st : Store} {n : Nat} {v : T} {env : Env} : bindP st (.nm n) v env = some (env.set n (some v)) := by simp only [bindP]
theorem bp_tp {st : Store} {ps : List Pat} {env : Env} : bindP st (.tp ps) (.d (.tuple xs)) env = bindPs st ps xs env := by simp only [bindP]
theorem bps0 {st : Store} {env : Env} : bindPs st [] [] env = some env := by simp only [bindPs]
theorem bps1 {st : Store} {n : Nat} {ps : List Pat} {x : D} {env : Env} : bindPs st (.nm n :: ps) (x :: xs) env = bindPs st ps xs (env.set n (some (.d x))) := by simp only [bindPs, bindP, Option.bind_some]
theorem sr_l {st : Store} : srcOf st (.t (.d (.list xs))) = some (.fz xs) := rfl
theorem sr_t {st : Store} : srcOf st (.t (.d (.tuple xs))) = some (.fz xs) := rfl
theorem sr_n {st : Store} : srcOf st (.new xs) = some (.fz xs) := rfl
theorem isi_i {t : Ty} : isiD t (.int i) = (match t with | .int => true | _ => false) := by cases t <;> rfl
theorem isi_t {t : Ty} : isiD t (.tuple xs) = (match t with | .tuple => true | _ => false) := by cases t <;> rfl
end
end MP


namespace Lw
open PySem PySem.Spec PyProof.Rows L2 MP
def d_is_number : Def := ⟨3, 3, [(.ret (.and (.isi (.var 0) .int) (.and (.not (.isi (.var 0) .bool)) (.chain .le .le (.var 1) (.var 0) (.var 2)))))]⟩
def d_is_life : Def := ⟨3, 4, [(.ife (.or (.not (.isi (.var 0) .tuple)) (.or (.cmp .ne (.prim .len [(.var 0)]) (.con (.int 2))) (.not (.prim .all [(.comp [3] (.nm 3) (.var 0) [] (.call 0 [(.var 3), (.var 1), (.var 2)]))])))) [(.ret (.con (.bool false)))] []), (.ret (.cmp .le (.ix (.var 0) (.con (.int 0))) (.ix (.var 0) (.con (.int 1)))))]⟩
def d_is_tie : Def := ⟨2, 5, [(.ife (.or (.not (.isi (.var 0) .tuple)) (.cmp .ne (.prim .len [(.var 0)]) (.con (.int 4)))) [(.ret (.con (.bool false)))] []), (.ife (.or (.not (.prim .all [(.comp [3] (.nm 3) (.sl (.var 0) .hole (.con (.int 2))) [] (.call 0 [(.var 3), (.con (.int 0)), (.op .sub (.prim .len [(.var 1)]) (.con (.int 1)))]))])) (.cmp .ge (.ix (.var 0) (.con (.int 0))) (.ix (.var 0) (.con (.int 1))))) [(.ret (.con (.bool false)))] []), (.set (.nm 2) (.comp [3] (.nm 3) (.sl (.var 0) .hole (.con (.int 2))) [] (.ix (.var 1) (.var 3)))), (.ret (.call 1 [(.sl (.var 0) (.con (.int 2)) .hole), (.prim .max [(.comp [4] (.nm 4) (.var 2) [] (.ix (.var 4) (.con (.int 0))))]), (.prim .min [(.comp [4] (.nm 4) (.var 2) [] (.ix (.var 4) (.con (.int 1))))])]))]⟩
def d_is_net : Def := ⟨1, 6, [(.ife (.or (.not (.isi (.var 0) .tuple)) (.or (.cmp .ne (.prim .len [(.var 0)]) (.con (.int 3))) (.not (.call 0 [(.ix (.var 0) (.con (.int 0))), (.con (.int 0)), (.glo (Str.ofString "GREATEST_DAY") (.int 8))])))) [(.ret (.con (.bool false)))] []), (.set (.tp [(.nm 1), (.nm 2), (.nm 3)]) (.var 0)), (.ife (.or (.not (.isi (.var 2) .tuple)) (.cmp .gt (.prim .len [(.var 2)]) (.glo (Str.ofString "MOST_POINTS") (.int 7)))) [(.ret (.con (.bool false)))] []), (.ife (.or (.not (.isi (.var 3) .tuple)) (.cmp .gt (.prim .len [(.var 3)]) (.glo (Str.ofString "MOST_TIES") (.int 9)))) [(.ret (.con (.bool false)))] []), (.ret (.and (.prim .all [(.comp [4] (.nm 4) (.var 2) [] (.call 1 [(.var 4), (.con (.int 0)), (.var 1)]))]) (.prim .all [(.comp [5] (.nm 5) (.var 3) [] (.call 2 [(.var 5), (.var 2)]))])))]⟩
def d__law_source : Def := ⟨2, 5, [(.set (.nm 2) (.op .add (.con (.int 101)) (.var 1))), (.for (.nm 3) (.var 0) [(.set (.nm 2) (.op .add (.op .mod (.prim .int [(.op .pow (.prim .int [(.op .add (.op .mul (.var 2) (.con (.int 50021))) (.prim .int [(.var 3)]))]) (.con (.int 3)))]) (.con (.int 2147483563))) (.con (.int 1))))]), (.set (.nm 4) (.con (.int 0))), (.ife (.and (.cmp .lt (.var 1) (.prim .len [(.var 0)])) (.cmp .ge (.ix (.var 0) (.var 1)) (.op .pow (.con (.int 10)) (.con (.int 18))))) [(.set (.nm 4) (.op .sub (.ix (.var 0) (.var 1)) (.op .pow (.con (.int 10)) (.con (.int 18)))))] []), (.ret (.lst [(.var 4), (.var 2)]))]⟩
def d__law_draw : Def := ⟨2, 3, [(.ife (.cmp .ge (.ix (.var 0) (.con (.int 0))) (.var 1)) [(.set (.nm 2) (.op .mod (.prim .int [(.ix (.var 0) (.con (.int 0)))]) (.var 1))), (.setI (.var 0) (.con (.int 0)) (.op .fdiv (.ix (.var 0) (.con (.int 0))) (.var 1))), (.ret (.var 2))] []), (.setI (.var 0) (.con (.int 1)) (.op .mod (.prim .int [(.op .add (.op .mul (.ix (.var 0) (.con (.int 1))) (.con (.int 69621))) (.con (.int 7129)))]) (.con (.int 2147483647)))), (.ret (.op .mod (.prim .int [(.op .fdiv (.op .mod (.prim .int [(.op .pow (.prim .int [(.ix (.var 0) (.con (.int 1)))]) (.con (.int 5)))]) (.con (.int 1000000007))) (.con (.int 41)))]) (.var 1)))]⟩
def d__law_pick : Def := ⟨2, 2, [(.ret (.ix (.var 1) (.call 5 [(.var 0), (.prim .len [(.var 1)])])))]⟩
def d__law_mixed : Def := ⟨2, 4, [(.par 2 3 true true (.prim .list [(.var 1)]) (.lst [])), (.whl (.cmp .ne (.var 2) (.lst [])) [(.expr (.meth .append (.var 3) [(.meth .pop (.var 2) [(.call 5 [(.var 0), (.prim .len [(.var 2)])])])]))]), (.ret (.var 3))]⟩
def d__law_life : Def := ⟨4, 6, [(.set (.nm 4) (.op .add (.var 1) (.call 5 [(.var 0), (.op .add (.op .sub (.var 2) (.var 1)) (.con (.int 1)))]))), (.set (.nm 5) (.op .add (.var 4) (.call 5 [(.var 0), (.op .add (.op .sub (.var 2) (.var 4)) (.con (.int 1)))]))), (.ife (.var 3) [(.par 4 5 false false (.op .add (.var 1) (.call 5 [(.var 0), (.prim .min [(.con (.int 2)), (.op .add (.op .sub (.var 2) (.var 1)) (.con (.int 1)))])])) (.var 2)), (.set (.nm 5) (.prim .max [(.var 4), (.op .sub (.var 5) (.call 5 [(.var 0), (.con (.int 2))]))]))] []), (.ret (.tup [(.var 4), (.var 5)]))]⟩
def d__law_ties : Def := ⟨5, 13, [(.setM 5 (.lst [])), (.for (.nm 6) (.rng [(.var 3)]) [(.set (.tp [(.nm 9), (.nm 10)]) (.call 6 [(.var 0), (.var 2)])), (.set (.nm 7) (.prim .max [(.ix (.ix (.var 1) (.var 9)) (.con (.int 0))), (.ix (.ix (.var 1) (.var 10)) (.con (.int 0)))])), (.set (.nm 8) (.prim .min [(.ix (.ix (.var 1) (.var 9)) (.con (.int 1))), (.ix (.ix (.var 1) (.var 10)) (.con (.int 1)))])), (.ife (.cmp .le (.var 7) (.var 8)) [(.set (.tp [(.nm 11), (.nm 12)]) (.call 8 [(.var 0), (.var 7), (.var 8), (.cmp .eq (.call 5 [(.var 0), (.con (.int 3))]) (.con (.int 0)))])), (.expr (.meth .append (.var 5) [(.tup [(.var 9), (.var 10), (.var 11), (.ite (.var 4) (.var 8) (.var 12))])]))] [])]), (.ret (.prim .tuple [(.var 5)]))]⟩
def d__law_net : Def := ⟨4, 13, [(.par 7 8 false false (.call 5 [(.var 0), (.var 2)]) (.call 5 [(.var 0), (.con (.int 3))])), (.set (.nm 4) (.comp [9] (.nm 9) (.rng [(.op .add (.con (.int 1)) (.prim .max [(.call 5 [(.var 0), (.var 1)]), (.var 8)]))]) [] (.call 8 [(.var 0), (.con (.int 0)), (.var 7), (.cmp .gt (.var 8) (.con (.int 0)))]))), (.ife (.var 3) [(.set (.nm 4) (.comp [10, 11] (.tp [(.nm 10), (.nm 11)]) (.var 4) [] (.tup [(.var 10), (.var 7)])))] []), (.set (.nm 5) (.lst [])), (.for (.nm 6) (.rng [(.prim .len [(.var 4)])]) [(.set (.nm 5) (.op .add (.var 5) (.comp [12] (.nm 12) (.rng [(.var 6)]) [] (.tup [(.var 12), (.var 6)]))))]), (.ife (.cmp .eq (.var 5) (.lst [])) [(.ret (.tup [(.var 7), (.prim .tuple [(.var 4)]), (.tup [])]))] []), (.set (.nm 5) (.sl (.call 7 [(.var 0), (.var 5)]) .hole (.op .add (.con (.int 2)) (.call 5 [(.var 0), (.con (.int 4))])))), (.ret (.tup [(.var 7), (.prim .tuple [(.var 4)]), (.call 9 [(.var 0), (.var 4), (.var 5), (.call 5 [(.var 0), (.con (.int 8))]), (.var 3)])]))]⟩
def d__law_same : Def := ⟨2, 2, [(.ret (.cmp .eq (.prim .repr [(.var 0)]) (.prim .repr [(.var 1)])))]⟩
def d__law_odd : Def := ⟨1, 2, [(.set (.nm 1) (.lst [(.con .none), (.con (.str (Str.ofString "0"))), (.con (.str (Str.ofString ""))), (.tup []), (.lst []), (.dct [] []), (.con (.bool true)), (.con (.bool false)), (.tup [(.con (.int 0))]), (.lst [(.con (.int 0))]), (.op .pow (.con (.int 10)) (.con (.int 40))), (.op .sub (.con (.int 0)) (.con (.int 1)))])), (.ret (.call 6 [(.var 0), (.op .add (.var 1) (.lst [(.tup [(.con (.str (Str.ofString "unions")))]), (.tup [(.con .none), (.con (.int 1))])]))]))]⟩
def d__law_odd_net : Def := ⟨1, 2, [(.set (.nm 1) (.lst [(.con .none), (.con (.int 5)), (.tup []), (.tup [(.con (.int 0)), (.tup []), (.tup []), (.tup [])]), (.tup [(.con (.int 0)), (.tup [])]), (.lst [(.con (.int 0)), (.tup []), (.tup [])]), (.tup [(.con (.int 9)), (.tup []), (.tup [])]), (.tup [(.con (.bool true)), (.tup []), (.tup [])]), (.tup [(.con (.int 0)), (.lst []), (.tup [])]), (.tup [(.con (.int 0)), (.tup []), (.lst [])])])), (.set (.nm 1) (.op .add (.var 1) (.lst [(.tup [(.con (.int 1)), (.tup [(.tup [(.con (.int 0)), (.con (.int 2))])]), (.tup [])]), (.tup [(.con (.int 1)), (.tup [(.tup [(.con (.int 1)), (.con (.int 0))])]), (.tup [])]), (.tup [(.con (.int 1)), (.op .mul (.tup [(.tup [(.con (.int 0)), (.con (.int 1))])]) (.con (.int 8))), (.tup [])])]))), (.set (.nm 1) (.op .add (.var 1) (.lst [(.tup [(.con (.int 0)), (.tup [(.tup [(.con (.int 0)), (.con (.int 0))]), (.tup [(.con (.int 0)), (.con (.int 0))])]), (.tup [(.tup [(.con (.int 1)), (.con (.int 0)), (.con (.int 0)), (.con (.int 0))])])]), (.tup [(.con (.int 0)), (.tup [(.tup [(.con (.int 0)), (.con (.int 0))])]), (.tup [(.tup [(.con (.int 0)), (.con (.int 0)), (.con (.int 0)), (.con (.int 0))])])])]))), (.set (.nm 1) (.op .add (.var 1) (.lst [(.tup [(.con (.int 1)), (.tup [(.tup [(.con (.int 0)), (.con (.int 0))]), (.tup [(.con (.int 0)), (.con (.int 1))])]), (.tup [(.tup [(.con (.int 0)), (.con (.int 1)), (.con (.int 0)), (.con (.int 1))])])]), (.con (.str (Str.ofString "net"))), (.dct [(.int 0)] [(.tup [])]), (.tup [(.op .sub (.con (.int 0)) (.con (.int 1))), (.tup []), (.tup [])]), (.tup [(.con (.bool false)), (.tup []), (.tup [])])]))), (.ret (.call 6 [(.var 0), (.var 1)]))]⟩
def d__law_is_number : Def := ⟨3, 3, [(.ret (.and (.isi (.var 0) .int) (.and (.not (.isi (.var 0) .bool)) (.chain .le .le (.var 1) (.var 0) (.var 2)))))]⟩
def d__law_is_life : Def := ⟨3, 3, [(.ife (.or (.not (.isi (.var 0) .tuple)) (.cmp .ne (.prim .len [(.var 0)]) (.con (.int 2)))) [(.ret (.con (.bool false)))] []), (.ret (.and (.call 14 [(.ix (.var 0) (.con (.int 0))), (.var 1), (.var 2)]) (.call 14 [(.ix (.var 0) (.con (.int 1))), (.ix (.var 0) (.con (.int 0))), (.var 2)])))]⟩
def d__law_is_tie : Def := ⟨2, 4, [(.ife (.or (.not (.isi (.var 0) .tuple)) (.or (.cmp .ne (.prim .len [(.var 0)]) (.con (.int 4))) (.not (.call 14 [(.ix (.var 0) (.con (.int 1))), (.con (.int 1)), (.op .sub (.prim .len [(.var 1)]) (.con (.int 1)))])))) [(.ret (.con (.bool false)))] []), (.ife (.not (.call 14 [(.ix (.var 0) (.con (.int 0))), (.con (.int 0)), (.op .sub (.ix (.var 0) (.con (.int 1))) (.con (.int 1)))])) [(.ret (.con (.bool false)))] []), (.par 2 3 false false (.ix (.var 1) (.ix (.var 0) (.con (.int 0)))) (.ix (.var 1) (.ix (.var 0) (.con (.int 1))))), (.ret (.call 15 [(.sl (.var 0) (.con (.int 2)) .hole), (.prim .max [(.ix (.var 2) (.con (.int 0))), (.ix (.var 3) (.con (.int 0)))]), (.prim .min [(.ix (.var 2) (.con (.int 1))), (.ix (.var 3) (.con (.int 1)))])]))]⟩
def d__law_is_net : Def := ⟨1, 3, [(.ife (.or (.not (.isi (.var 0) .tuple)) (.or (.cmp .ne (.prim .len [(.var 0)]) (.con (.int 3))) (.not (.call 14 [(.ix (.var 0) (.con (.int 0))), (.con (.int 0)), (.con (.int 8))])))) [(.ret (.con (.bool false)))] []), (.ife (.or (.not (.isi (.ix (.var 0) (.con (.int 1))) .tuple)) (.or (.cmp .gt (.prim .len [(.ix (.var 0) (.con (.int 1)))]) (.con (.int 7))) (.or (.not (.isi (.ix (.var 0) (.con (.int 2))) .tuple)) (.cmp .gt (.prim .len [(.ix (.var 0) (.con (.int 2)))]) (.con (.int 9)))))) [(.ret (.con (.bool false)))] []), (.ife (.cmp .ne (.comp [1] (.nm 1) (.ix (.var 0) (.con (.int 1))) [(.not (.call 15 [(.var 1), (.con (.int 0)), (.ix (.var 0) (.con (.int 0)))]))] (.con (.int 1))) (.lst [])) [(.ret (.con (.bool false)))] []), (.ret (.cmp .eq (.comp [2] (.nm 2) (.ix (.var 0) (.con (.int 2))) [(.not (.call 16 [(.var 2), (.ix (.var 0) (.con (.int 1)))]))] (.con (.int 1))) (.lst [])))]⟩
def d__law_put : Def := ⟨3, 3, [(.ret (.op .add (.op .add (.sl (.var 0) .hole (.var 1)) (.tup [(.var 2)])) (.sl (.var 0) (.op .add (.var 1) (.con (.int 1))) .hole)))]⟩
def d__law_bent_point : Def := ⟨2, 7, [(.set (.tp [(.nm 4), (.nm 5), (.nm 6)]) (.var 1)), (.set (.nm 2) (.call 5 [(.var 0), (.op .add (.prim .len [(.var 5)]) (.con (.int 1)))])), (.set (.nm 3) (.lst [(.con .none), (.tup [(.con (.int 0))]), (.tup [(.con (.int 1)), (.con (.int 0))]), (.lst [(.con (.int 0)), (.con (.int 0))]), (.tup [(.con (.int 0)), (.op .add (.var 4) (.con (.int 1)))]), (.tup [(.op .sub (.con (.int 0)) (.con (.int 1))), (.con (.int 0))]), (.tup [(.con (.int 0)), (.con (.int 0)), (.con (.int 0))]), (.con (.str (Str.ofString "ab"))), (.tup [(.con (.int 0)), (.con .none)]), (.tup [(.con (.bool false)), (.con (.int 0))]), (.tup [(.con (.int 0)), (.con (.bool true))])])), (.ret (.tup [(.var 4), (.call 18 [(.var 5), (.var 2), (.call 6 [(.var 0), (.op .add (.var 3) (.lst [(.tup [(.var 4), (.var 4)]), (.tup [(.con (.int 0)), (.var 4)]), (.tup [(.con (.int 0)), (.con (.int 0))])]))])]), (.var 6)]))]⟩
def d__law_bent_tie : Def := ⟨2, 12, [(.set (.tp [(.nm 3), (.nm 4), (.nm 5)]) (.var 1)), (.par 6 7 false false (.call 5 [(.var 0), (.op .add (.prim .len [(.var 5)]) (.con (.int 1)))]) (.prim .len [(.var 4)])), (.set (.nm 2) (.lst [(.con .none), (.tup [(.con (.int 0)), (.con (.int 1))]), (.tup [(.con (.int 0)), (.con (.int 1)), (.con (.int 0))]), (.lst [(.con (.int 0)), (.con (.int 1)), (.con (.int 0)), (.con (.int 0))]), (.tup [(.con (.int 1)), (.con (.int 0)), (.con (.int 0)), (.con (.int 0))]), (.tup [(.con (.int 0)), (.con (.int 0)), (.con (.int 0)), (.con (.int 0))]), (.tup [(.con (.int 0)), (.var 7), (.con (.int 0)), (.con (.int 0))]), (.tup [(.op .sub (.con (.int 0)) (.con (.int 1))), (.con (.int 0)), (.con (.int 0)), (.con (.int 0))]), (.con (.int 5))])), (.set (.nm 2) (.op .add (.var 2) (.lst [(.tup [(.con (.int 0)), (.con (.int 1)), (.con (.int 0)), (.op .add (.var 3) (.con (.int 1)))]), (.tup [(.con (.int 0)), (.con (.int 1)), (.var 3), (.con (.int 0))]), (.tup [(.con (.bool false)), (.con (.bool true)), (.con (.int 0)), (.con (.int 0))]), (.tup [(.con (.int 0)), (.con (.int 1)), (.con (.int 0)), (.con (.int 0))]), (.tup [(.con (.int 0)), (.con (.int 1)), (.var 3), (.var 3)]), (.con (.str (Str.ofString "abcd")))]))), (.ife (.cmp .ne (.var 5) (.tup [])) [(.set (.tp [(.nm 8), (.nm 9), (.nm 10), (.nm 11)]) (.call 6 [(.var 0), (.prim .list [(.var 5)])])), (.set (.nm 2) (.op .add (.var 2) (.lst [(.tup [(.var 8), (.var 9), (.op .sub (.var 10) (.con (.int 1))), (.var 11)]), (.tup [(.var 8), (.var 9), (.var 10), (.op .add (.var 11) (.con (.int 1)))]), (.tup [(.var 9), (.var 8), (.var 10), (.var 11)])]))), (.set (.nm 2) (.op .add (.var 2) (.lst [(.tup [(.var 8), (.var 9), (.var 11), (.var 10)]), (.tup [(.var 8), (.var 9), (.var 10), (.var 11)]), (.tup [(.var 8), (.var 9), (.con .none), (.var 11)])]))), (.set (.nm 2) (.op .add (.var 2) (.lst [(.tup [(.var 8), (.var 9), (.var 10), (.var 11), (.con (.int 0))]), (.tup [(.var 8), (.var 9), (.con (.bool true)), (.var 11)]), (.tup [(.var 8), (.var 9), (.con (.bool false)), (.var 11)])])))] []), (.ret (.tup [(.var 3), (.var 4), (.call 18 [(.var 5), (.var 6), (.call 6 [(.var 0), (.var 2)])])]))]⟩
def d__law_bent : Def := ⟨2, 7, [(.set (.tp [(.nm 3), (.nm 4), (.nm 5)]) (.var 1)), (.set (.nm 2) (.call 5 [(.var 0), (.con (.int 9))])), (.ife (.cmp .lt (.var 2) (.con (.int 2))) [(.ret (.call 19 [(.var 0), (.var 1)]))] []), (.ife (.cmp .lt (.var 2) (.con (.int 5))) [(.ret (.call 20 [(.var 0), (.var 1)]))] []), (.ife (.cmp .eq (.var 2) (.con (.int 5))) [(.ret (.tup [(.call 6 [(.var 0), (.lst [(.op .sub (.var 3) (.con (.int 1))), (.op .add (.var 3) (.con (.int 1))), (.con (.int 8)), (.con (.int 9)), (.con .none), (.con (.bool true)), (.con (.str (Str.ofString "1"))), (.op .pow (.con (.int 10)) (.con (.int 30)))])]), (.var 4), (.var 5)]))] []), (.ife (.cmp .eq (.var 2) (.con (.int 6))) [(.set (.nm 6) (.lst [(.prim .list [(.var 1)]), (.sl (.var 1) .hole (.con (.int 2))), (.op .add (.var 1) (.tup [(.con (.int 0))])), (.tup [(.var 3), (.prim .list [(.var 4)]), (.var 5)]), (.tup [(.var 3), (.var 4), (.prim .list [(.var 5)])])])), (.ret (.call 6 [(.var 0), (.var 6)]))] []), (.ife (.cmp .eq (.var 2) (.con (.int 7))) [(.ret (.tup [(.var 3), (.op .mul (.var 4) (.con (.int 3))), (.var 5)]))] []), (.ret (.tup [(.var 3), (.var 4), (.op .mul (.var 5) (.op .add (.con (.int 1)) (.call 5 [(.var 0), (.con (.int 4))])))]))]⟩
def d_law : Def := ⟨1, 8, [(.for (.nm 1) (.rng [(.prim .max [(.con (.int 1)), (.prim .min [(.con (.int 3)), (.prim .len [(.var 0)])])])]) [(.setM 2 (.call 4 [(.var 0), (.var 1)])), (.for (.nm 3) (.rng [(.con (.int 6))]) [(.set (.nm 4) (.call 10 [(.var 2), (.con (.int 5)), (.con (.int 5)), (.con (.bool false))])), (.set (.nm 5) (.call 20 [(.var 2), (.call 19 [(.var 2), (.var 4)])])), (.for (.nm 6) (.lst [(.var 4), (.call 21 [(.var 2), (.var 4)]), (.call 21 [(.var 2), (.var 4)]), (.var 5), (.call 12 [(.var 2)])]) [(.set (.nm 7) (.prim .repr [(.var 6)])), (.ife (.or (.not (.call 11 [(.call 3 [(.var 6)]), (.call 17 [(.var 6)])])) (.cmp .ne (.prim .repr [(.var 6)]) (.var 7))) [(.ret (.con (.bool false)))] [])])]), (.ife (.or (.cmp .isnot (.call 3 [(.call 13 [(.var 2)])]) (.con (.bool false))) (.cmp .isnot (.call 3 [(.tup [(.con (.int 0)), (.tup []), (.tup [])])]) (.con (.bool true)))) [(.ret (.con (.bool false)))] [])]), (.ret (.cmp .is (.call 3 [(.tup [(.con (.int 8)), (.op .mul (.tup [(.tup [(.con (.int 0)), (.con (.int 8))])]) (.con (.int 7))), (.op .mul (.tup [(.tup [(.con (.int 0)), (.con (.int 6)), (.con (.int 8)), (.con (.int 8))])]) (.con (.int 9)))])]) (.con (.bool true))))]⟩
def tbl : List Def := [d_is_number, d_is_life, d_is_tie, d_is_net, d__law_source, d__law_draw, d__law_pick, d__law_mixed, d__law_life, d__law_ties, d__law_net, d__law_same, d__law_odd, d__law_odd_net, d__law_is_number, d__law_is_life, d__law_is_tie, d__law_is_net, d__law_put, d__law_bent_point, d__law_bent_tie, d__law_bent, d_law]
def top (i : Nat) : Stmt := PySem.Challenge.pw_staybars_k01_nets_judged.main.body.getD i (.Pass ⟨0, 0, 0, 0⟩)
def mkD (i : Nat) (x : Str) : He.DefD := ⟨(x, none), x, x, defArgs (top i), defBody (top i), defScope (top i), [], []⟩
def hfn : List He.DefD := [mkD 4 "is_number", mkD 5 "is_life", mkD 6 "is_tie", mkD 7 "is_net", mkD 9 "_law_source", mkD 10 "_law_draw", mkD 11 "_law_pick", mkD 12 "_law_mixed", mkD 13 "_law_life", mkD 14 "_law_ties", mkD 15 "_law_net", mkD 16 "_law_same", mkD 17 "_law_odd", mkD 18 "_law_odd_net", mkD 19 "_law_is_number", mkD 20 "_law_is_life", mkD 21 "_law_is_tie", mkD 22 "_law_is_net", mkD 23 "_law_put", mkD 24 "_law_bent_point", mkD 25 "_law_bent_tie", mkD 26 "_law_bent", mkD 27 "law"]
def hfa : List He.Fa := [.glo "is_number", .glo "is_life", .glo "is_tie", .glo "is_net", .glo "_law_source", .glo "_law_draw", .glo "_law_pick", .glo "_law_mixed", .glo "_law_life", .glo "_law_ties", .glo "_law_net", .glo "_law_same", .glo "_law_odd", .glo "_law_odd_net", .glo "_law_is_number", .glo "_law_is_life", .glo "_law_is_tie", .glo "_law_is_net", .glo "_law_put", .glo "_law_bent_point", .glo "_law_bent_tie", .glo "_law_bent", .glo "law", .free "all", .free "bool", .free "int", .free "isinstance", .free "len", .free "list", .free "max", .free "min", .free "range", .free "repr", .free "tuple", .int "GREATEST_DAY" 8, .int "MOST_POINTS" 7, .int "MOST_TIES" 9]
abbrev hrow : PySem.W.OpenRow := PySem.W.OpenLaw.row PySem.Challenge.rw_staybars_k01_nets_judged
abbrev hhk : PySem.W.Hook := He.hookD 4 hfa hfn
def hob (s : PySem.W.SharedT) : He.AlD := He.obsDG 4 hfa hfn (HandSHeadRun.getT s)
theorem hob_eq (s : PySem.W.SharedT) : hob s = hhk.obs s.abs := He.obsDG_eq (HandSHeadRun.getT_eq s)
theorem hrun (w : World) : HandSHeadRun.RunEq hrow (PySem.W.view hrow.prog [27]) hhk hob 2000 ["GREATEST_DAY", "MOST_POINTS", "MOST_TIES", "is_number", "is_life", "is_tie", "is_net", "_law_source", "_law_draw", "_law_pick", "_law_mixed", "_law_life", "_law_ties", "_law_net", "_law_same", "_law_odd", "_law_odd_net", "_law_is_number", "_law_is_life", "_law_is_tie", "_law_is_net", "_law_put", "_law_bent_point", "_law_bent_tie", "_law_bent"] w := by
  intro os
  kernel_rfl
def gb : Gb := ⟨["is_number", "is_life", "is_tie", "is_net", "_law_source", "_law_draw", "_law_pick", "_law_mixed", "_law_life", "_law_ties", "_law_net", "_law_same", "_law_odd", "_law_odd_net", "_law_is_number", "_law_is_life", "_law_is_tie", "_law_is_net", "_law_put", "_law_bent_point", "_law_bent_tie", "_law_bent", "law"], ["all", "bool", "int", "isinstance", "len", "list", "max", "min", "range", "repr", "tuple"], [("GREATEST_DAY", 8), ("MOST_POINTS", 7), ("MOST_TIES", 9)]⟩
def nm_is_number : List Str := ["value", "least", "most"]
def ps_is_number : List Str := ["value", "least", "most"]
theorem sc_is_number : FnScope nm_is_number ps_is_number (defScope (top 4)) := ⟨rfl, rfl, rfl, by decide +kernel, rfl, by decide +kernel, by decide +kernel⟩
theorem ok_is_number : okSs gb nm_is_number (defScope (top 4)) (fun _ => true) d_is_number.body (defBody (top 4)) = true := by decide +kernel
theorem at_is_number {K : Fg} {a : Addr} {h : Heap} {mg : Str → Option Value} {vs : List Value} {n : Nat} (X : K.In h) (G : h.Ns mainGlobals mg) (ha : h.get? a = some { cls := .type "list", data := .seq vs.toArray n }) (c : He.SaysD hfa hfn K) : DefAt (lessK K a) mg gb "is_number" d_is_number := by
  obtain ⟨fd, D⟩ := c.def_ 0 (d := mkD 4 "is_number") rfl
  exact defAt_of X ha D (He.glo_ok X G (c.fact 0 (f := .glo "is_number") rfl)) sc_is_number rfl rfl ok_is_number fun _ _ _ _ _ _ us hl => match us, hl with | [_, _, _], _ => rfl
def nm_is_life : List Str := ["value", "least", "most", "day"]
def ps_is_life : List Str := ["value", "least", "most"]
theorem sc_is_life : FnScope nm_is_life ps_is_life (defScope (top 5)) := ⟨rfl, rfl, rfl, by decide +kernel, rfl, by decide +kernel, by decide +kernel⟩
theorem ok_is_life : okSs gb nm_is_life (defScope (top 5)) (fun _ => true) d_is_life.body (defBody (top 5)) = true := by decide +kernel
theorem at_is_life {K : Fg} {a : Addr} {h : Heap} {mg : Str → Option Value} {vs : List Value} {n : Nat} (X : K.In h) (G : h.Ns mainGlobals mg) (ha : h.get? a = some { cls := .type "list", data := .seq vs.toArray n }) (c : He.SaysD hfa hfn K) : DefAt (lessK K a) mg gb "is_life" d_is_life := by
  obtain ⟨fd, D⟩ := c.def_ 1 (d := mkD 5 "is_life") rfl
  exact defAt_of X ha D (He.glo_ok X G (c.fact 1 (f := .glo "is_life") rfl)) sc_is_life rfl rfl ok_is_life fun _ _ _ _ _ _ us hl => match us, hl with | [_, _, _], _ => rfl
def nm_is_tie : List Str := ["value", "points", "lives", "number", "life"]
def ps_is_tie : List Str := ["value", "points"]
theorem sc_is_tie : FnScope nm_is_tie ps_is_tie (defScope (top 6)) := ⟨rfl, rfl, rfl, by decide +kernel, rfl, by decide +kernel, by decide +kernel⟩
theorem ok_is_tie : okSs gb nm_is_tie (defScope (top 6)) (fun _ => true) d_is_tie.body (defBody (top 6)) = true := by decide +kernel
theorem at_is_tie {K : Fg} {a : Addr} {h : Heap} {mg : Str → Option Value} {vs : List Value} {n : Nat} (X : K.In h) (G : h.Ns mainGlobals mg) (ha : h.get? a = some { cls := .type "list", data := .seq vs.toArray n }) (c : He.SaysD hfa hfn K) : DefAt (lessK K a) mg gb "is_tie" d_is_tie := by
  obtain ⟨fd, D⟩ := c.def_ 2 (d := mkD 6 "is_tie") rfl
  exact defAt_of X ha D (He.glo_ok X G (c.fact 2 (f := .glo "is_tie") rfl)) sc_is_tie rfl rfl ok_is_tie fun _ _ _ _ _ _ us hl => match us, hl with | [_, _], _ => rfl
def nm_is_net : List Str := ["value", "last", "points", "ties", "life", "tie"]
def ps_is_net : List Str := ["value"]
theorem sc_is_net : FnScope nm_is_net ps_is_net (defScope (top 7)) := ⟨rfl, rfl, rfl, by decide +kernel, rfl, by decide +kernel, by decide +kernel⟩
theorem ok_is_net : okSs gb nm_is_net (defScope (top 7)) (fun _ => true) d_is_net.body (defBody (top 7)) = true := by decide +kernel
theorem at_is_net {K : Fg} {a : Addr} {h : Heap} {mg : Str → Option Value} {vs : List Value} {n : Nat} (X : K.In h) (G : h.Ns mainGlobals mg) (ha : h.get? a = some { cls := .type "list", data := .seq vs.toArray n }) (c : He.SaysD hfa hfn K) : DefAt (lessK K a) mg gb "is_net" d_is_net := by
  obtain ⟨fd, D⟩ := c.def_ 3 (d := mkD 7 "is_net") rfl
  exact defAt_of X ha D (He.glo_ok X G (c.fact 3 (f := .glo "is_net") rfl)) sc_is_net rfl rfl ok_is_net fun _ _ _ _ _ _ us hl => match us, hl with | [_], _ => rfl
def nm__law_source : List Str := ["_law_script", "_law_start", "_law_mixed_here", "_law_cell", "_law_own"]
def ps__law_source : List Str := ["_law_script", "_law_start"]
theorem sc__law_source : FnScope nm__law_source ps__law_source (defScope (top 9)) := ⟨rfl, rfl, rfl, by decide +kernel, rfl, by decide +kernel, by decide +kernel⟩
theorem ok__law_source : okSs gb nm__law_source (defScope (top 9)) (fun _ => true) d__law_source.body (defBody (top 9)) = true := by decide +kernel
theorem at__law_source {K : Fg} {a : Addr} {h : Heap} {mg : Str → Option Value} {vs : List Value} {n : Nat} (X : K.In h) (G : h.Ns mainGlobals mg) (ha : h.get? a = some { cls := .type "list", data := .seq vs.toArray n }) (c : He.SaysD hfa hfn K) : DefAt (lessK K a) mg gb "_law_source" d__law_source := by
  obtain ⟨fd, D⟩ := c.def_ 4 (d := mkD 9 "_law_source") rfl
  exact defAt_of X ha D (He.glo_ok X G (c.fact 4 (f := .glo "_law_source") rfl)) sc__law_source rfl rfl ok__law_source fun _ _ _ _ _ _ us hl => match us, hl with | [_, _], _ => rfl
def nm__law_draw : List Str := ["_law_source_here", "_law_span", "_law_found"]
def ps__law_draw : List Str := ["_law_source_here", "_law_span"]
theorem sc__law_draw : FnScope nm__law_draw ps__law_draw (defScope (top 10)) := ⟨rfl, rfl, rfl, by decide +kernel, rfl, by decide +kernel, by decide +kernel⟩
theorem ok__law_draw : okSs gb nm__law_draw (defScope (top 10)) (fun _ => true) d__law_draw.body (defBody (top 10)) = true := by decide +kernel
theorem at__law_draw {K : Fg} {a : Addr} {h : Heap} {mg : Str → Option Value} {vs : List Value} {n : Nat} (X : K.In h) (G : h.Ns mainGlobals mg) (ha : h.get? a = some { cls := .type "list", data := .seq vs.toArray n }) (c : He.SaysD hfa hfn K) : DefAt (lessK K a) mg gb "_law_draw" d__law_draw := by
  obtain ⟨fd, D⟩ := c.def_ 5 (d := mkD 10 "_law_draw") rfl
  exact defAt_of X ha D (He.glo_ok X G (c.fact 5 (f := .glo "_law_draw") rfl)) sc__law_draw rfl rfl ok__law_draw fun _ _ _ _ _ _ us hl => match us, hl with | [_, _], _ => rfl
def nm__law_pick : List Str := ["_law_source_here", "_law_some"]
def ps__law_pick : List Str := ["_law_source_here", "_law_some"]
theorem sc__law_pick : FnScope nm__law_pick ps__law_pick (defScope (top 11)) := ⟨rfl, rfl, rfl, by decide +kernel, rfl, by decide +kernel, by decide +kernel⟩
theorem ok__law_pick : okSs gb nm__law_pick (defScope (top 11)) (fun _ => true) d__law_pick.body (defBody (top 11)) = true := by decide +kernel
theorem at__law_pick {K : Fg} {a : Addr} {h : Heap} {mg : Str → Option Value} {vs : List Value} {n : Nat} (X : K.In h) (G : h.Ns mainGlobals mg) (ha : h.get? a = some { cls := .type "list", data := .seq vs.toArray n }) (c : He.SaysD hfa hfn K) : DefAt (lessK K a) mg gb "_law_pick" d__law_pick := by
  obtain ⟨fd, D⟩ := c.def_ 6 (d := mkD 11 "_law_pick") rfl
  exact defAt_of X ha D (He.glo_ok X G (c.fact 6 (f := .glo "_law_pick") rfl)) sc__law_pick rfl rfl ok__law_pick fun _ _ _ _ _ _ us hl => match us, hl with | [_, _], _ => rfl
def nm__law_mixed : List Str := ["_law_source_here", "_law_some", "_law_lot", "_law_found"]
def ps__law_mixed : List Str := ["_law_source_here", "_law_some"]
theorem sc__law_mixed : FnScope nm__law_mixed ps__law_mixed (defScope (top 12)) := ⟨rfl, rfl, rfl, by decide +kernel, rfl, by decide +kernel, by decide +kernel⟩
theorem ok__law_mixed : okSs gb nm__law_mixed (defScope (top 12)) (fun _ => true) d__law_mixed.body (defBody (top 12)) = true := by decide +kernel
theorem at__law_mixed {K : Fg} {a : Addr} {h : Heap} {mg : Str → Option Value} {vs : List Value} {n : Nat} (X : K.In h) (G : h.Ns mainGlobals mg) (ha : h.get? a = some { cls := .type "list", data := .seq vs.toArray n }) (c : He.SaysD hfa hfn K) : DefAt (lessK K a) mg gb "_law_mixed" d__law_mixed := by
  obtain ⟨fd, D⟩ := c.def_ 7 (d := mkD 12 "_law_mixed") rfl
  exact defAt_of X ha D (He.glo_ok X G (c.fact 7 (f := .glo "_law_mixed") rfl)) sc__law_mixed rfl rfl ok__law_mixed fun _ _ _ _ _ _ us hl => match us, hl with | [_, _], _ => rfl
def nm__law_life : List Str := ["_law_source_here", "_law_low", "_law_high", "_law_stays_on", "_law_first", "_law_end"]
def ps__law_life : List Str := ["_law_source_here", "_law_low", "_law_high", "_law_stays_on"]
theorem sc__law_life : FnScope nm__law_life ps__law_life (defScope (top 13)) := ⟨rfl, rfl, rfl, by decide +kernel, rfl, by decide +kernel, by decide +kernel⟩
theorem ok__law_life : okSs gb nm__law_life (defScope (top 13)) (fun _ => true) d__law_life.body (defBody (top 13)) = true := by decide +kernel
theorem at__law_life {K : Fg} {a : Addr} {h : Heap} {mg : Str → Option Value} {vs : List Value} {n : Nat} (X : K.In h) (G : h.Ns mainGlobals mg) (ha : h.get? a = some { cls := .type "list", data := .seq vs.toArray n }) (c : He.SaysD hfa hfn K) : DefAt (lessK K a) mg gb "_law_life" d__law_life := by
  obtain ⟨fd, D⟩ := c.def_ 8 (d := mkD 13 "_law_life") rfl
  exact defAt_of X ha D (He.glo_ok X G (c.fact 8 (f := .glo "_law_life") rfl)) sc__law_life rfl rfl ok__law_life fun _ _ _ _ _ _ us hl => match us, hl with | [_, _, _, _], _ => rfl
def nm__law_ties : List Str := ["_law_source_here", "_law_points", "_law_pairs", "_law_many", "_law_grows", "_law_found", "_law_turn", "_law_low", "_law_high", "_law_one", "_law_other", "_law_first", "_law_end"]
def ps__law_ties : List Str := ["_law_source_here", "_law_points", "_law_pairs", "_law_many", "_law_grows"]
theorem sc__law_ties : FnScope nm__law_ties ps__law_ties (defScope (top 14)) := ⟨rfl, rfl, rfl, by decide +kernel, rfl, by decide +kernel, by decide +kernel⟩
theorem ok__law_ties : okSs gb nm__law_ties (defScope (top 14)) (fun _ => true) d__law_ties.body (defBody (top 14)) = true := by decide +kernel
theorem at__law_ties {K : Fg} {a : Addr} {h : Heap} {mg : Str → Option Value} {vs : List Value} {n : Nat} (X : K.In h) (G : h.Ns mainGlobals mg) (ha : h.get? a = some { cls := .type "list", data := .seq vs.toArray n }) (c : He.SaysD hfa hfn K) : DefAt (lessK K a) mg gb "_law_ties" d__law_ties := by
  obtain ⟨fd, D⟩ := c.def_ 9 (d := mkD 14 "_law_ties") rfl
  exact defAt_of X ha D (He.glo_ok X G (c.fact 9 (f := .glo "_law_ties") rfl)) sc__law_ties rfl rfl ok__law_ties fun _ _ _ _ _ _ us hl => match us, hl with | [_, _, _, _, _], _ => rfl
def nm__law_net : List Str := ["_law_source_here", "_law_most", "_law_days", "_law_grows", "_law_points", "_law_pairs", "_law_other", "_law_last", "_law_kind", "_law_turn", "_law_first", "_law_end", "_law_one"]
def ps__law_net : List Str := ["_law_source_here", "_law_most", "_law_days", "_law_grows"]
theorem sc__law_net : FnScope nm__law_net ps__law_net (defScope (top 15)) := ⟨rfl, rfl, rfl, by decide +kernel, rfl, by decide +kernel, by decide +kernel⟩
theorem ok__law_net : okSs gb nm__law_net (defScope (top 15)) (fun _ => true) d__law_net.body (defBody (top 15)) = true := by decide +kernel
theorem at__law_net {K : Fg} {a : Addr} {h : Heap} {mg : Str → Option Value} {vs : List Value} {n : Nat} (X : K.In h) (G : h.Ns mainGlobals mg) (ha : h.get? a = some { cls := .type "list", data := .seq vs.toArray n }) (c : He.SaysD hfa hfn K) : DefAt (lessK K a) mg gb "_law_net" d__law_net := by
  obtain ⟨fd, D⟩ := c.def_ 10 (d := mkD 15 "_law_net") rfl
  exact defAt_of X ha D (He.glo_ok X G (c.fact 10 (f := .glo "_law_net") rfl)) sc__law_net rfl rfl ok__law_net fun _ _ _ _ _ _ us hl => match us, hl with | [_, _, _, _], _ => rfl
def nm__law_same : List Str := ["_law_told", "_law_due"]
def ps__law_same : List Str := ["_law_told", "_law_due"]
theorem sc__law_same : FnScope nm__law_same ps__law_same (defScope (top 16)) := ⟨rfl, rfl, rfl, by decide +kernel, rfl, by decide +kernel, by decide +kernel⟩
theorem ok__law_same : okSs gb nm__law_same (defScope (top 16)) (fun _ => true) d__law_same.body (defBody (top 16)) = true := by decide +kernel
theorem at__law_same {K : Fg} {a : Addr} {h : Heap} {mg : Str → Option Value} {vs : List Value} {n : Nat} (X : K.In h) (G : h.Ns mainGlobals mg) (ha : h.get? a = some { cls := .type "list", data := .seq vs.toArray n }) (c : He.SaysD hfa hfn K) : DefAt (lessK K a) mg gb "_law_same" d__law_same := by
  obtain ⟨fd, D⟩ := c.def_ 11 (d := mkD 16 "_law_same") rfl
  exact defAt_of X ha D (He.glo_ok X G (c.fact 11 (f := .glo "_law_same") rfl)) sc__law_same rfl rfl ok__law_same fun _ _ _ _ _ _ us hl => match us, hl with | [_, _], _ => rfl
def nm__law_odd : List Str := ["_law_source_here", "_law_some"]
def ps__law_odd : List Str := ["_law_source_here"]
theorem sc__law_odd : FnScope nm__law_odd ps__law_odd (defScope (top 17)) := ⟨rfl, rfl, rfl, by decide +kernel, rfl, by decide +kernel, by decide +kernel⟩
theorem ok__law_odd : okSs gb nm__law_odd (defScope (top 17)) (fun _ => true) d__law_odd.body (defBody (top 17)) = true := by decide +kernel
theorem at__law_odd {K : Fg} {a : Addr} {h : Heap} {mg : Str → Option Value} {vs : List Value} {n : Nat} (X : K.In h) (G : h.Ns mainGlobals mg) (ha : h.get? a = some { cls := .type "list", data := .seq vs.toArray n }) (c : He.SaysD hfa hfn K) : DefAt (lessK K a) mg gb "_law_odd" d__law_odd := by
  obtain ⟨fd, D⟩ := c.def_ 12 (d := mkD 17 "_law_odd") rfl
  exact defAt_of X ha D (He.glo_ok X G (c.fact 12 (f := .glo "_law_odd") rfl)) sc__law_odd rfl rfl ok__law_odd fun _ _ _ _ _ _ us hl => match us, hl with | [_], _ => rfl
def nm__law_odd_net : List Str := ["_law_source_here", "_law_some"]
def ps__law_odd_net : List Str := ["_law_source_here"]
theorem sc__law_odd_net : FnScope nm__law_odd_net ps__law_odd_net (defScope (top 18)) := ⟨rfl, rfl, rfl, by decide +kernel, rfl, by decide +kernel, by decide +kernel⟩
theorem ok__law_odd_net : okSs gb nm__law_odd_net (defScope (top 18)) (fun _ => true) d__law_odd_net.body (defBody (top 18)) = true := by decide +kernel
theorem at__law_odd_net {K : Fg} {a : Addr} {h : Heap} {mg : Str → Option Value} {vs : List Value} {n : Nat} (X : K.In h) (G : h.Ns mainGlobals mg) (ha : h.get? a = some { cls := .type "list", data := .seq vs.toArray n }) (c : He.SaysD hfa hfn K) : DefAt (lessK K a) mg gb "_law_odd_net" d__law_odd_net := by
  obtain ⟨fd, D⟩ := c.def_ 13 (d := mkD 18 "_law_odd_net") rfl
  exact defAt_of X ha D (He.glo_ok X G (c.fact 13 (f := .glo "_law_odd_net") rfl)) sc__law_odd_net rfl rfl ok__law_odd_net fun _ _ _ _ _ _ us hl => match us, hl with | [_], _ => rfl
def nm__law_is_number : List Str := ["_law_value", "_law_low", "_law_high"]
def ps__law_is_number : List Str := ["_law_value", "_law_low", "_law_high"]
theorem sc__law_is_number : FnScope nm__law_is_number ps__law_is_number (defScope (top 19)) := ⟨rfl, rfl, rfl, by decide +kernel, rfl, by decide +kernel, by decide +kernel⟩
theorem ok__law_is_number : okSs gb nm__law_is_number (defScope (top 19)) (fun _ => true) d__law_is_number.body (defBody (top 19)) = true := by decide +kernel
theorem at__law_is_number {K : Fg} {a : Addr} {h : Heap} {mg : Str → Option Value} {vs : List Value} {n : Nat} (X : K.In h) (G : h.Ns mainGlobals mg) (ha : h.get? a = some { cls := .type "list", data := .seq vs.toArray n }) (c : He.SaysD hfa hfn K) : DefAt (lessK K a) mg gb "_law_is_number" d__law_is_number := by
  obtain ⟨fd, D⟩ := c.def_ 14 (d := mkD 19 "_law_is_number") rfl
  exact defAt_of X ha D (He.glo_ok X G (c.fact 14 (f := .glo "_law_is_number") rfl)) sc__law_is_number rfl rfl ok__law_is_number fun _ _ _ _ _ _ us hl => match us, hl with | [_, _, _], _ => rfl
def nm__law_is_life : List Str := ["_law_value", "_law_low", "_law_high"]
def ps__law_is_life : List Str := ["_law_value", "_law_low", "_law_high"]
theorem sc__law_is_life : FnScope nm__law_is_life ps__law_is_life (defScope (top 20)) := ⟨rfl, rfl, rfl, by decide +kernel, rfl, by decide +kernel, by decide +kernel⟩
theorem ok__law_is_life : okSs gb nm__law_is_life (defScope (top 20)) (fun _ => true) d__law_is_life.body (defBody (top 20)) = true := by decide +kernel
theorem at__law_is_life {K : Fg} {a : Addr} {h : Heap} {mg : Str → Option Value} {vs : List Value} {n : Nat} (X : K.In h) (G : h.Ns mainGlobals mg) (ha : h.get? a = some { cls := .type "list", data := .seq vs.toArray n }) (c : He.SaysD hfa hfn K) : DefAt (lessK K a) mg gb "_law_is_life" d__law_is_life := by
  obtain ⟨fd, D⟩ := c.def_ 15 (d := mkD 20 "_law_is_life") rfl
  exact defAt_of X ha D (He.glo_ok X G (c.fact 15 (f := .glo "_law_is_life") rfl)) sc__law_is_life rfl rfl ok__law_is_life fun _ _ _ _ _ _ us hl => match us, hl with | [_, _, _], _ => rfl
def nm__law_is_tie : List Str := ["_law_value", "_law_points", "_law_one", "_law_other"]
def ps__law_is_tie : List Str := ["_law_value", "_law_points"]
theorem sc__law_is_tie : FnScope nm__law_is_tie ps__law_is_tie (defScope (top 21)) := ⟨rfl, rfl, rfl, by decide +kernel, rfl, by decide +kernel, by decide +kernel⟩
theorem ok__law_is_tie : okSs gb nm__law_is_tie (defScope (top 21)) (fun _ => true) d__law_is_tie.body (defBody (top 21)) = true := by decide +kernel
theorem at__law_is_tie {K : Fg} {a : Addr} {h : Heap} {mg : Str → Option Value} {vs : List Value} {n : Nat} (X : K.In h) (G : h.Ns mainGlobals mg) (ha : h.get? a = some { cls := .type "list", data := .seq vs.toArray n }) (c : He.SaysD hfa hfn K) : DefAt (lessK K a) mg gb "_law_is_tie" d__law_is_tie := by
  obtain ⟨fd, D⟩ := c.def_ 16 (d := mkD 21 "_law_is_tie") rfl
  exact defAt_of X ha D (He.glo_ok X G (c.fact 16 (f := .glo "_law_is_tie") rfl)) sc__law_is_tie rfl rfl ok__law_is_tie fun _ _ _ _ _ _ us hl => match us, hl with | [_, _], _ => rfl
def nm__law_is_net : List Str := ["_law_value", "_law_life_here", "_law_tie"]
def ps__law_is_net : List Str := ["_law_value"]
theorem sc__law_is_net : FnScope nm__law_is_net ps__law_is_net (defScope (top 22)) := ⟨rfl, rfl, rfl, by decide +kernel, rfl, by decide +kernel, by decide +kernel⟩
theorem ok__law_is_net : okSs gb nm__law_is_net (defScope (top 22)) (fun _ => true) d__law_is_net.body (defBody (top 22)) = true := by decide +kernel
theorem at__law_is_net {K : Fg} {a : Addr} {h : Heap} {mg : Str → Option Value} {vs : List Value} {n : Nat} (X : K.In h) (G : h.Ns mainGlobals mg) (ha : h.get? a = some { cls := .type "list", data := .seq vs.toArray n }) (c : He.SaysD hfa hfn K) : DefAt (lessK K a) mg gb "_law_is_net" d__law_is_net := by
  obtain ⟨fd, D⟩ := c.def_ 17 (d := mkD 22 "_law_is_net") rfl
  exact defAt_of X ha D (He.glo_ok X G (c.fact 17 (f := .glo "_law_is_net") rfl)) sc__law_is_net rfl rfl ok__law_is_net fun _ _ _ _ _ _ us hl => match us, hl with | [_], _ => rfl
def nm__law_put : List Str := ["_law_row", "_law_at", "_law_thing"]
def ps__law_put : List Str := ["_law_row", "_law_at", "_law_thing"]
theorem sc__law_put : FnScope nm__law_put ps__law_put (defScope (top 23)) := ⟨rfl, rfl, rfl, by decide +kernel, rfl, by decide +kernel, by decide +kernel⟩
theorem ok__law_put : okSs gb nm__law_put (defScope (top 23)) (fun _ => true) d__law_put.body (defBody (top 23)) = true := by decide +kernel
theorem at__law_put {K : Fg} {a : Addr} {h : Heap} {mg : Str → Option Value} {vs : List Value} {n : Nat} (X : K.In h) (G : h.Ns mainGlobals mg) (ha : h.get? a = some { cls := .type "list", data := .seq vs.toArray n }) (c : He.SaysD hfa hfn K) : DefAt (lessK K a) mg gb "_law_put" d__law_put := by
  obtain ⟨fd, D⟩ := c.def_ 18 (d := mkD 23 "_law_put") rfl
  exact defAt_of X ha D (He.glo_ok X G (c.fact 18 (f := .glo "_law_put") rfl)) sc__law_put rfl rfl ok__law_put fun _ _ _ _ _ _ us hl => match us, hl with | [_, _, _], _ => rfl
def nm__law_bent_point : List Str := ["_law_source_here", "_law_net_here", "_law_at", "_law_some", "_law_last", "_law_points", "_law_ties_here"]
def ps__law_bent_point : List Str := ["_law_source_here", "_law_net_here"]
theorem sc__law_bent_point : FnScope nm__law_bent_point ps__law_bent_point (defScope (top 24)) := ⟨rfl, rfl, rfl, by decide +kernel, rfl, by decide +kernel, by decide +kernel⟩
theorem ok__law_bent_point : okSs gb nm__law_bent_point (defScope (top 24)) (fun _ => true) d__law_bent_point.body (defBody (top 24)) = true := by decide +kernel
theorem at__law_bent_point {K : Fg} {a : Addr} {h : Heap} {mg : Str → Option Value} {vs : List Value} {n : Nat} (X : K.In h) (G : h.Ns mainGlobals mg) (ha : h.get? a = some { cls := .type "list", data := .seq vs.toArray n }) (c : He.SaysD hfa hfn K) : DefAt (lessK K a) mg gb "_law_bent_point" d__law_bent_point := by
  obtain ⟨fd, D⟩ := c.def_ 19 (d := mkD 24 "_law_bent_point") rfl
  exact defAt_of X ha D (He.glo_ok X G (c.fact 19 (f := .glo "_law_bent_point") rfl)) sc__law_bent_point rfl rfl ok__law_bent_point fun _ _ _ _ _ _ us hl => match us, hl with | [_, _], _ => rfl
def nm__law_bent_tie : List Str := ["_law_source_here", "_law_net_here", "_law_some", "_law_last", "_law_points", "_law_ties_here", "_law_at", "_law_many", "_law_one", "_law_other", "_law_first", "_law_end"]
def ps__law_bent_tie : List Str := ["_law_source_here", "_law_net_here"]
theorem sc__law_bent_tie : FnScope nm__law_bent_tie ps__law_bent_tie (defScope (top 25)) := ⟨rfl, rfl, rfl, by decide +kernel, rfl, by decide +kernel, by decide +kernel⟩
theorem ok__law_bent_tie : okSs gb nm__law_bent_tie (defScope (top 25)) (fun _ => true) d__law_bent_tie.body (defBody (top 25)) = true := by decide +kernel
theorem at__law_bent_tie {K : Fg} {a : Addr} {h : Heap} {mg : Str → Option Value} {vs : List Value} {n : Nat} (X : K.In h) (G : h.Ns mainGlobals mg) (ha : h.get? a = some { cls := .type "list", data := .seq vs.toArray n }) (c : He.SaysD hfa hfn K) : DefAt (lessK K a) mg gb "_law_bent_tie" d__law_bent_tie := by
  obtain ⟨fd, D⟩ := c.def_ 20 (d := mkD 25 "_law_bent_tie") rfl
  exact defAt_of X ha D (He.glo_ok X G (c.fact 20 (f := .glo "_law_bent_tie") rfl)) sc__law_bent_tie rfl rfl ok__law_bent_tie fun _ _ _ _ _ _ us hl => match us, hl with | [_, _], _ => rfl
def nm__law_bent : List Str := ["_law_source_here", "_law_net_here", "_law_kind", "_law_last", "_law_points", "_law_ties_here", "_law_some"]
def ps__law_bent : List Str := ["_law_source_here", "_law_net_here"]
theorem sc__law_bent : FnScope nm__law_bent ps__law_bent (defScope (top 26)) := ⟨rfl, rfl, rfl, by decide +kernel, rfl, by decide +kernel, by decide +kernel⟩
theorem ok__law_bent : okSs gb nm__law_bent (defScope (top 26)) (fun _ => true) d__law_bent.body (defBody (top 26)) = true := by decide +kernel
theorem at__law_bent {K : Fg} {a : Addr} {h : Heap} {mg : Str → Option Value} {vs : List Value} {n : Nat} (X : K.In h) (G : h.Ns mainGlobals mg) (ha : h.get? a = some { cls := .type "list", data := .seq vs.toArray n }) (c : He.SaysD hfa hfn K) : DefAt (lessK K a) mg gb "_law_bent" d__law_bent := by
  obtain ⟨fd, D⟩ := c.def_ 21 (d := mkD 26 "_law_bent") rfl
  exact defAt_of X ha D (He.glo_ok X G (c.fact 21 (f := .glo "_law_bent") rfl)) sc__law_bent rfl rfl ok__law_bent fun _ _ _ _ _ _ us hl => match us, hl with | [_, _], _ => rfl
def nm_law : List Str := ["_law_script", "_law_start", "_law_source_here", "_law_turn", "_law_net_here", "_law_twice", "_law_thing", "_law_seen"]
def ps_law : List Str := ["_law_script"]
theorem sc_law : FnScope nm_law ps_law (defScope (top 27)) := ⟨rfl, rfl, rfl, by decide +kernel, rfl, by decide +kernel, by decide +kernel⟩
theorem ok_law : okSs gb nm_law (defScope (top 27)) (fun _ => true) d_law.body (defBody (top 27)) = true := by decide +kernel
theorem at_law {K : Fg} {a : Addr} {h : Heap} {mg : Str → Option Value} {vs : List Value} {n : Nat} (X : K.In h) (G : h.Ns mainGlobals mg) (ha : h.get? a = some { cls := .type "list", data := .seq vs.toArray n }) (c : He.SaysD hfa hfn K) : DefAt (lessK K a) mg gb "law" d_law := by
  obtain ⟨fd, D⟩ := c.def_ 22 (d := mkD 27 "law") rfl
  exact defAt_of X ha D (He.glo_ok X G (c.fact 22 (f := .glo "law") rfl)) sc_law rfl rfl ok_law fun _ _ _ _ _ _ us hl => match us, hl with | [_], _ => rfl
theorem at_all {K : Fg} {a : Addr} {h : Heap} {mg : Str → Option Value} {vs : List Value} {n : Nat} (X : K.In h) (G : h.Ns mainGlobals mg) (ha : h.get? a = some { cls := .type "list", data := .seq vs.toArray n }) (c : He.SaysD hfa hfn K) : ∀ (f : Nat) (y : Str), gb.fns[f]? = some y → ∃ d, tbl[f]? = some d ∧ DefAt (lessK K a) mg gb y d
  | 0, _, rfl => ⟨_, rfl, at_is_number X G ha c⟩
  | 1, _, rfl => ⟨_, rfl, at_is_life X G ha c⟩
  | 2, _, rfl => ⟨_, rfl, at_is_tie X G ha c⟩
  | 3, _, rfl => ⟨_, rfl, at_is_net X G ha c⟩
  | 4, _, rfl => ⟨_, rfl, at__law_source X G ha c⟩
  | 5, _, rfl => ⟨_, rfl, at__law_draw X G ha c⟩
  | 6, _, rfl => ⟨_, rfl, at__law_pick X G ha c⟩
  | 7, _, rfl => ⟨_, rfl, at__law_mixed X G ha c⟩
  | 8, _, rfl => ⟨_, rfl, at__law_life X G ha c⟩
  | 9, _, rfl => ⟨_, rfl, at__law_ties X G ha c⟩
  | 10, _, rfl => ⟨_, rfl, at__law_net X G ha c⟩
  | 11, _, rfl => ⟨_, rfl, at__law_same X G ha c⟩
  | 12, _, rfl => ⟨_, rfl, at__law_odd X G ha c⟩
  | 13, _, rfl => ⟨_, rfl, at__law_odd_net X G ha c⟩
  | 14, _, rfl => ⟨_, rfl, at__law_is_number X G ha c⟩
  | 15, _, rfl => ⟨_, rfl, at__law_is_life X G ha c⟩
  | 16, _, rfl => ⟨_, rfl, at__law_is_tie X G ha c⟩
  | 17, _, rfl => ⟨_, rfl, at__law_is_net X G ha c⟩
  | 18, _, rfl => ⟨_, rfl, at__law_put X G ha c⟩
  | 19, _, rfl => ⟨_, rfl, at__law_bent_point X G ha c⟩
  | 20, _, rfl => ⟨_, rfl, at__law_bent_tie X G ha c⟩
  | 21, _, rfl => ⟨_, rfl, at__law_bent X G ha c⟩
  | 22, _, rfl => ⟨_, rfl, at_law X G ha c⟩
  | f + 23, y, e => by
    have e2 : gb.fns[f + 23]? = none := List.getElem?_eq_none (by show 23 ≤ f + 23; omega)
    rw [e2] at e
    cases e
theorem free_all {K : Fg} {h : Heap} {mg : Str → Option Value} (X : K.In h) (G : h.Ns mainGlobals mg) (c : He.SaysD hfa hfn K) : ∀ y ∈ gb.free, mg y = none := by
  intro y hy
  have hy : y ∈ [("all" : Str), ("bool" : Str), ("int" : Str), ("isinstance" : Str), ("len" : Str), ("list" : Str), ("max" : Str), ("min" : Str), ("range" : Str), ("repr" : Str), ("tuple" : Str)] := hy
  simp only [List.mem_cons, List.not_mem_nil, or_false] at hy
  rcases hy with rfl | rfl | rfl | rfl | rfl | rfl | rfl | rfl | rfl | rfl | rfl
  · exact He.free_ok X G (c.fact 23 (f := .free "all") rfl)
  · exact He.free_ok X G (c.fact 24 (f := .free "bool") rfl)
  · exact He.free_ok X G (c.fact 25 (f := .free "int") rfl)
  · exact He.free_ok X G (c.fact 26 (f := .free "isinstance") rfl)
  · exact He.free_ok X G (c.fact 27 (f := .free "len") rfl)
  · exact He.free_ok X G (c.fact 28 (f := .free "list") rfl)
  · exact He.free_ok X G (c.fact 29 (f := .free "max") rfl)
  · exact He.free_ok X G (c.fact 30 (f := .free "min") rfl)
  · exact He.free_ok X G (c.fact 31 (f := .free "range") rfl)
  · exact He.free_ok X G (c.fact 32 (f := .free "repr") rfl)
  · exact He.free_ok X G (c.fact 33 (f := .free "tuple") rfl)
theorem nums_all {K : Fg} {h : Heap} {mg : Str → Option Value} (X : K.In h) (G : h.Ns mainGlobals mg) (c : He.SaysD hfa hfn K) : ∀ p ∈ gb.nums, ∃ t, mg p.1 = some (.int p.2 t) := by
  intro y hy
  have hy : y ∈ [(("GREATEST_DAY" : Str), (8 : Int)), (("MOST_POINTS" : Str), (7 : Int)), (("MOST_TIES" : Str), (9 : Int))] := hy
  simp only [List.mem_cons, List.not_mem_nil, or_false] at hy
  rcases hy with rfl | rfl | rfl
  · exact He.int_ok X G (c.fact 34 (f := .int "GREATEST_DAY" 8) rfl)
  · exact He.int_ok X G (c.fact 35 (f := .int "MOST_POINTS" 7) rfl)
  · exact He.int_ok X G (c.fact 36 (f := .int "MOST_TIES" 9) rfl)
end Lw
open PySem PySem.W PySem.Calls PyProof.Rows in
theorem law_of_run (hr : ∀ ns : List Int, ns.length ≤ 63 → (∀ z ∈ ns, Builtin.Int.intBits z ≤ 1048576) → ∃ st, MP.callN Lw.tbl 100000 60 22 [.d (.list (ns.map .int))] [] = .ok (.t (.d (.bool true))) st) : PySem.Challenge.rw_staybars_k01_nets_judged.Holds := by
  w_on; o_law
  refine HandSHeadRun.head_any (r := OpenLaw.row PySem.Challenge.rw_staybars_k01_nets_judged) (q := view (OpenLaw.row PySem.Challenge.rw_staybars_k01_nets_judged).prog [27]) (H := Lw.hhk) (ob := Lw.hob) (M := 2000) (loose := ["GREATEST_DAY", "MOST_POINTS", "MOST_TIES", "is_number", "is_life", "is_tie", "is_net", "_law_source", "_law_draw", "_law_pick", "_law_mixed", "_law_life", "_law_ties", "_law_net", "_law_same", "_law_odd", "_law_odd_net", "_law_is_number", "_law_is_life", "_law_is_tie", "_law_is_net", "_law_put", "_law_bent_point", "_law_bent_tie", "_law_bent"]) (d := HandSHeadRun.topDef (OpenLaw.row PySem.Challenge.rw_staybars_k01_nets_judged).prog 27) (kwd := []) Lw.hob_eq
    (by kernel_rfl) (fun s => by kernel_rfl) Lw.hrun (by kernel_rfl) (by kernel_rfl) (by kernel_rfl) (by rfl) (by first | assumption | decide +kernel) (by decide +kernel) ⟨rfl, rfl, rfl, rfl, rfl, by decide +kernel⟩ ?hw ?hc
  case hw => w_witness2
  case hc =>
    have en : (HandSHeadRun.topDef (OpenLaw.row PySem.Challenge.rw_staybars_k01_nets_judged).prog 27).name = ("law" : PySem.Str) := by kernel_rfl
    refine MP.walk_mp (l := PySem.Challenge.rw_staybars_k01_nets_judged) (n := 63) (k := 60) (i := 22) (G := Lw.gb) (tbl := Lw.tbl) (wf := 100000) rfl (by decide) (by kernel_rfl) ⟨rfl, by decide, by decide⟩ (by rw [en]; rfl) ?F hr
    intro w mg fa a h vs Y G hmg ha
    obtain ⟨K, KX, c⟩ := Y
    exact ⟨K, KX, Lw.free_all KX G c, Lw.nums_all KX G c, Lw.at_all KX G ha c⟩


namespace Lw
open MP
/-- the source of numbers in a cell -/
def Sr (st : Store) (c : Nat) : Prop := ∃ a b : Int, st[c]? = some (.lst [.int a, .int b]) ∧ 0 ≤ a ∧ 0 ≤ b ∧ b ≤ 2147483647
/-- only the cell c may have changed -/
def Sm (c : Nat) (st st' : Store) : Prop := st'.length = st.length ∧ (∀ i, i ≠ c → st'[i]? = st[i]?) ∧ Sr st' c
theorem Sm.trans {c : Nat} {s1 s2 s3 : Store} (a : Sm c s1 s2) (b : Sm c s2 s3) : Sm c s1 s3 := ⟨b.1.trans a.1, fun i h => (b.2.1 i h).trans (a.2.1 i h), b.2.2⟩
theorem Sm.refl {c : Nat} {s : Store} (h : Sr s c) : Sm c s s := ⟨rfl, fun _ _ => rfl, h⟩
theorem Sm.set {c : Nat} {st : Store} {a b : Int} (hlt : c < st.length) (ha : 0 ≤ a) (hb0 : 0 ≤ b) (hb1 : b ≤ 2147483647) : Sm c st (st.set c (.lst [.int a, .int b])) :=
  ⟨by simp, fun i h => by rw [List.getElem?_set_ne (Ne.symm h)], a, b, by rw [List.getElem?_set_self hlt], ha, hb0, hb1⟩
theorem bits_small {i : Int} {k : Nat} (h : i.natAbs < 2 ^ k) : PySem.Builtin.Int.intBits i ≤ k := by
  unfold PySem.Builtin.Int.intBits
  split
  · exact Nat.zero_le _
  · rename_i hz
    have hn : i.natAbs ≠ 0 := fun e => hz (by simp [Int.natAbs_eq_zero.mp e])
    have := (Nat.log2_lt hn).mpr h
    omega
theorem mul_small {i j : Int} (hi : i.natAbs < 2 ^ 64) (hj : j.natAbs < 2 ^ 64) : mulOk i j = true := by
  have h1 := bits_small hi
  have h2 := bits_small hj
  exact decide_eq_true (by omega)
theorem pow_small {i j : Int} (hi : i.natAbs < 2 ^ 64) (h0 : 0 ≤ j) (hj : j ≤ 1000) : powOk i j = true := by
  have h1 := bits_small hi
  unfold powOk
  rw [decide_eq_true h0, Bool.true_and]
  refine decide_eq_true ?_
  have h2 : (PySem.Builtin.Int.intBits i : Int) * j ≤ 64 * 1000 := Int.mul_le_mul (by omega) hj h0 (by omega)
  omega
theorem take_len {st st' : Store} (h : st'.length = st.length) : st'.take st.length = st' := by rw [← h]; exact List.take_length
theorem draw {n wf : Nat} {st : Store} {c : Nat} {span : Int} (h : Sr st c) (hs : 0 < span) (hb : span < 1073741824) :
    (callN tbl wf (n + 1) 5 [.ref c, .d (.int span)] st).wp fun v st' => (∃ r : Int, v = .t (.d (.int r)) ∧ 0 ≤ r ∧ r < span) ∧ Sm c st st' := by
  obtain ⟨a, b, hc, ha, hb0, hb1⟩ := h
  have hlt : c < st.length := (List.getElem?_eq_some_iff.mp hc).1
  have x0 : ixN 2 0 = some 0 := rfl
  have x1 : ixN 2 1 = some 1 := rfl
  rw [wp_callN (d := d__law_draw) rfl rfl]
  unfold d__law_draw
  simp only [w_var, a_var, w_con, w_glo, w_op, k_op1, k_op2, w_neg, k_neg, w_cmp, k_cm1, k_cm2, w_chain, k_ch1, k_ch2, w_and, k_and, w_or, k_or, w_not, k_not, w_ite, k_ite, w_tup, k_tup, w_lst, k_lst, w_call, k_call, w_prim, k_prim, w_isi, k_isi, w_ix, k_ix1, k_ix2, w_ts0, w_ts, k_ts1, k_ts2, w_ds0, w_ds, k_ds1d, k_ds1n, k_ds2, x_nil, x_cons, x_set, k_set, x_setM, k_setMt, k_setMn, x_expr, k_expr, x_ret, k_ret, x_retN, x_pass, x_ife, k_if, x_for, k_for, k_finN, k_finD, k_finL, st_t, st_n, rd_d, rd_ref, w_sl, k_sl, k_sl1, k_sl2, w_o0, w_o_var, w_o_con, w_o_op, k_o, w_it_var, w_it_con, w_it_ix, w_it_lst, w_it_tup, w_it_call, w_it_prim, w_it_sl, w_it_op, w_it_comp, w_it_ite, k_src, w_rng, k_rng, w_comp, k_comp, k_eltD, k_eltN, k_cond, body0, body1, x_setI, k_si1, k_si2, k_si3, w_meth, k_me1, k_me2, nxt_next, nxt_ret, nxt_brk, nxt_cont, wp_ok, wps_ok, w_dct0, a_dct1, wps_bt, a_bt, x_parM, w_evT, w_evF, a_alT, a_alN, a_stl, k_pm1, k_pm2, tB, oK_some, a_at, a_atB, a_atD, a_opb, a_opa, a_cmb, a_cma, a_ixb, a_ixa, a_neg, a_chT, a_chF, a_cha2, a_cha, a_brAT, a_brAF, a_brOT, a_brOF, a_brIT, a_brIF, a_brST, a_brSF, a_and, a_or, a_not, a_ite, a_if, a_prim, a_isi, a_set, a_slb, a_o, a_src, a_rng, a_bo0, a_bo1, a_brCT, a_brCF, a_cond, a_sid, a_sic, a_sib, a_mea, a_meb, a_mec, b_add, b_sub, c_lt, c_le, c_gt, c_ge, c_eqI, c_neI, c_eqS, c_neS, c_isB, c_isnotB, p_lenL, p_lenT, p_int, p_max, p_min, p_tupL, p_lstT, p_lstL, i_l, i_t, at0, at1, at2, t_bool, s_l, s_t, bp_nm, bp_tp, bps0, bps1, sr_l, sr_t, sr_n, startE, wipe, List.map_cons, List.map_nil, List.length_cons, List.length_nil, List.replicate, List.cons_append, List.nil_append, List.append_nil, Nat.reduceAdd, Nat.reduceSub, Nat.reduceMul, List.getElem?_cons_zero, List.getElem?_cons_succ, List.getElem?_nil, List.set_cons_zero, List.set_cons_succ, List.mapM_cons, List.mapM_nil, Option.pure_def, Option.bind_eq_bind, Option.bind_some, Bool.not_true, Bool.not_false, hc, rd_ref hc]
  by_cases hd : span ≤ a
  · rw [decide_eq_true hd]
    simp only [w_var, a_var, w_con, w_glo, w_op, k_op1, k_op2, w_neg, k_neg, w_cmp, k_cm1, k_cm2, w_chain, k_ch1, k_ch2, w_and, k_and, w_or, k_or, w_not, k_not, w_ite, k_ite, w_tup, k_tup, w_lst, k_lst, w_call, k_call, w_prim, k_prim, w_isi, k_isi, w_ix, k_ix1, k_ix2, w_ts0, w_ts, k_ts1, k_ts2, w_ds0, w_ds, k_ds1d, k_ds1n, k_ds2, x_nil, x_cons, x_set, k_set, x_setM, k_setMt, k_setMn, x_expr, k_expr, x_ret, k_ret, x_retN, x_pass, x_ife, k_if, x_for, k_for, k_finN, k_finD, k_finL, st_t, st_n, rd_d, rd_ref, w_sl, k_sl, k_sl1, k_sl2, w_o0, w_o_var, w_o_con, w_o_op, k_o, w_it_var, w_it_con, w_it_ix, w_it_lst, w_it_tup, w_it_call, w_it_prim, w_it_sl, w_it_op, w_it_comp, w_it_ite, k_src, w_rng, k_rng, w_comp, k_comp, k_eltD, k_eltN, k_cond, body0, body1, x_setI, k_si1, k_si2, k_si3, w_meth, k_me1, k_me2, nxt_next, nxt_ret, nxt_brk, nxt_cont, wp_ok, wps_ok, w_dct0, a_dct1, wps_bt, a_bt, x_parM, w_evT, w_evF, a_alT, a_alN, a_stl, k_pm1, k_pm2, tB, oK_some, a_at, a_atB, a_atD, a_opb, a_opa, a_cmb, a_cma, a_ixb, a_ixa, a_neg, a_chT, a_chF, a_cha2, a_cha, a_brAT, a_brAF, a_brOT, a_brOF, a_brIT, a_brIF, a_brST, a_brSF, a_and, a_or, a_not, a_ite, a_if, a_prim, a_isi, a_set, a_slb, a_o, a_src, a_rng, a_bo0, a_bo1, a_brCT, a_brCF, a_cond, a_sid, a_sic, a_sib, a_mea, a_meb, a_mec, b_add, b_sub, c_lt, c_le, c_gt, c_ge, c_eqI, c_neI, c_eqS, c_neS, c_isB, c_isnotB, p_lenL, p_lenT, p_int, p_max, p_min, p_tupL, p_lstT, p_lstL, i_l, i_t, at0, at1, at2, t_bool, s_l, s_t, bp_nm, bp_tp, bps0, bps1, sr_l, sr_t, sr_n, startE, wipe, List.map_cons, List.map_nil, List.length_cons, List.length_nil, List.replicate, List.cons_append, List.nil_append, List.append_nil, Nat.reduceAdd, Nat.reduceSub, Nat.reduceMul, List.getElem?_cons_zero, List.getElem?_cons_succ, List.getElem?_nil, List.set_cons_zero, List.set_cons_succ, List.mapM_cons, List.mapM_nil, Option.pure_def, Option.bind_eq_bind, Option.bind_some, Bool.not_true, Bool.not_false, hc, rd_ref hc, b_mod hs, b_fdiv ⟨hs, hb⟩, x0]
    have s1 := Sm.set (st := st) (a := a / span) (b := b) hlt (Int.ediv_nonneg ha (Int.le_of_lt hs)) hb0 hb1
    rw [take_len s1.1]
    exact ⟨⟨_, rfl, Int.emod_nonneg _ (by omega), Int.emod_lt_of_pos _ hs⟩, s1⟩
  · rw [decide_eq_false hd]
    simp only [w_var, a_var, w_con, w_glo, w_op, k_op1, k_op2, w_neg, k_neg, w_cmp, k_cm1, k_cm2, w_chain, k_ch1, k_ch2, w_and, k_and, w_or, k_or, w_not, k_not, w_ite, k_ite, w_tup, k_tup, w_lst, k_lst, w_call, k_call, w_prim, k_prim, w_isi, k_isi, w_ix, k_ix1, k_ix2, w_ts0, w_ts, k_ts1, k_ts2, w_ds0, w_ds, k_ds1d, k_ds1n, k_ds2, x_nil, x_cons, x_set, k_set, x_setM, k_setMt, k_setMn, x_expr, k_expr, x_ret, k_ret, x_retN, x_pass, x_ife, k_if, x_for, k_for, k_finN, k_finD, k_finL, st_t, st_n, rd_d, rd_ref, w_sl, k_sl, k_sl1, k_sl2, w_o0, w_o_var, w_o_con, w_o_op, k_o, w_it_var, w_it_con, w_it_ix, w_it_lst, w_it_tup, w_it_call, w_it_prim, w_it_sl, w_it_op, w_it_comp, w_it_ite, k_src, w_rng, k_rng, w_comp, k_comp, k_eltD, k_eltN, k_cond, body0, body1, x_setI, k_si1, k_si2, k_si3, w_meth, k_me1, k_me2, nxt_next, nxt_ret, nxt_brk, nxt_cont, wp_ok, wps_ok, w_dct0, a_dct1, wps_bt, a_bt, x_parM, w_evT, w_evF, a_alT, a_alN, a_stl, k_pm1, k_pm2, tB, oK_some, a_at, a_atB, a_atD, a_opb, a_opa, a_cmb, a_cma, a_ixb, a_ixa, a_neg, a_chT, a_chF, a_cha2, a_cha, a_brAT, a_brAF, a_brOT, a_brOF, a_brIT, a_brIF, a_brST, a_brSF, a_and, a_or, a_not, a_ite, a_if, a_prim, a_isi, a_set, a_slb, a_o, a_src, a_rng, a_bo0, a_bo1, a_brCT, a_brCF, a_cond, a_sid, a_sic, a_sib, a_mea, a_meb, a_mec, b_add, b_sub, c_lt, c_le, c_gt, c_ge, c_eqI, c_neI, c_eqS, c_neS, c_isB, c_isnotB, p_lenL, p_lenT, p_int, p_max, p_min, p_tupL, p_lstT, p_lstL, i_l, i_t, at0, at1, at2, t_bool, s_l, s_t, bp_nm, bp_tp, bps0, bps1, sr_l, sr_t, sr_n, startE, wipe, List.map_cons, List.map_nil, List.length_cons, List.length_nil, List.replicate, List.cons_append, List.nil_append, List.append_nil, Nat.reduceAdd, Nat.reduceSub, Nat.reduceMul, List.getElem?_cons_zero, List.getElem?_cons_succ, List.getElem?_nil, List.set_cons_zero, List.set_cons_succ, List.mapM_cons, List.mapM_nil, Option.pure_def, Option.bind_eq_bind, Option.bind_some, Bool.not_true, Bool.not_false, hc, rd_ref hc]
    rw [b_mul (mul_small (by omega) (by omega))]
    simp only [w_var, a_var, w_con, w_glo, w_op, k_op1, k_op2, w_neg, k_neg, w_cmp, k_cm1, k_cm2, w_chain, k_ch1, k_ch2, w_and, k_and, w_or, k_or, w_not, k_not, w_ite, k_ite, w_tup, k_tup, w_lst, k_lst, w_call, k_call, w_prim, k_prim, w_isi, k_isi, w_ix, k_ix1, k_ix2, w_ts0, w_ts, k_ts1, k_ts2, w_ds0, w_ds, k_ds1d, k_ds1n, k_ds2, x_nil, x_cons, x_set, k_set, x_setM, k_setMt, k_setMn, x_expr, k_expr, x_ret, k_ret, x_retN, x_pass, x_ife, k_if, x_for, k_for, k_finN, k_finD, k_finL, st_t, st_n, rd_d, rd_ref, w_sl, k_sl, k_sl1, k_sl2, w_o0, w_o_var, w_o_con, w_o_op, k_o, w_it_var, w_it_con, w_it_ix, w_it_lst, w_it_tup, w_it_call, w_it_prim, w_it_sl, w_it_op, w_it_comp, w_it_ite, k_src, w_rng, k_rng, w_comp, k_comp, k_eltD, k_eltN, k_cond, body0, body1, x_setI, k_si1, k_si2, k_si3, w_meth, k_me1, k_me2, nxt_next, nxt_ret, nxt_brk, nxt_cont, wp_ok, wps_ok, w_dct0, a_dct1, wps_bt, a_bt, x_parM, w_evT, w_evF, a_alT, a_alN, a_stl, k_pm1, k_pm2, tB, oK_some, a_at, a_atB, a_atD, a_opb, a_opa, a_cmb, a_cma, a_ixb, a_ixa, a_neg, a_chT, a_chF, a_cha2, a_cha, a_brAT, a_brAF, a_brOT, a_brOF, a_brIT, a_brIF, a_brST, a_brSF, a_and, a_or, a_not, a_ite, a_if, a_prim, a_isi, a_set, a_slb, a_o, a_src, a_rng, a_bo0, a_bo1, a_brCT, a_brCF, a_cond, a_sid, a_sic, a_sib, a_mea, a_meb, a_mec, b_add, b_sub, c_lt, c_le, c_gt, c_ge, c_eqI, c_neI, c_eqS, c_neS, c_isB, c_isnotB, p_lenL, p_lenT, p_int, p_max, p_min, p_tupL, p_lstT, p_lstL, i_l, i_t, at0, at1, at2, t_bool, s_l, s_t, bp_nm, bp_tp, bps0, bps1, sr_l, sr_t, sr_n, startE, wipe, List.map_cons, List.map_nil, List.length_cons, List.length_nil, List.replicate, List.cons_append, List.nil_append, List.append_nil, Nat.reduceAdd, Nat.reduceSub, Nat.reduceMul, List.getElem?_cons_zero, List.getElem?_cons_succ, List.getElem?_nil, List.set_cons_zero, List.set_cons_succ, List.mapM_cons, List.mapM_nil, Option.pure_def, Option.bind_eq_bind, Option.bind_some, Bool.not_true, Bool.not_false, x1]
    rw [b_mod (by omega)]
    simp only [w_var, a_var, w_con, w_glo, w_op, k_op1, k_op2, w_neg, k_neg, w_cmp, k_cm1, k_cm2, w_chain, k_ch1, k_ch2, w_and, k_and, w_or, k_or, w_not, k_not, w_ite, k_ite, w_tup, k_tup, w_lst, k_lst, w_call, k_call, w_prim, k_prim, w_isi, k_isi, w_ix, k_ix1, k_ix2, w_ts0, w_ts, k_ts1, k_ts2, w_ds0, w_ds, k_ds1d, k_ds1n, k_ds2, x_nil, x_cons, x_set, k_set, x_setM, k_setMt, k_setMn, x_expr, k_expr, x_ret, k_ret, x_retN, x_pass, x_ife, k_if, x_for, k_for, k_finN, k_finD, k_finL, st_t, st_n, rd_d, rd_ref, w_sl, k_sl, k_sl1, k_sl2, w_o0, w_o_var, w_o_con, w_o_op, k_o, w_it_var, w_it_con, w_it_ix, w_it_lst, w_it_tup, w_it_call, w_it_prim, w_it_sl, w_it_op, w_it_comp, w_it_ite, k_src, w_rng, k_rng, w_comp, k_comp, k_eltD, k_eltN, k_cond, body0, body1, x_setI, k_si1, k_si2, k_si3, w_meth, k_me1, k_me2, nxt_next, nxt_ret, nxt_brk, nxt_cont, wp_ok, wps_ok, w_dct0, a_dct1, wps_bt, a_bt, x_parM, w_evT, w_evF, a_alT, a_alN, a_stl, k_pm1, k_pm2, tB, oK_some, a_at, a_atB, a_atD, a_opb, a_opa, a_cmb, a_cma, a_ixb, a_ixa, a_neg, a_chT, a_chF, a_cha2, a_cha, a_brAT, a_brAF, a_brOT, a_brOF, a_brIT, a_brIF, a_brST, a_brSF, a_and, a_or, a_not, a_ite, a_if, a_prim, a_isi, a_set, a_slb, a_o, a_src, a_rng, a_bo0, a_bo1, a_brCT, a_brCF, a_cond, a_sid, a_sic, a_sib, a_mea, a_meb, a_mec, b_add, b_sub, c_lt, c_le, c_gt, c_ge, c_eqI, c_neI, c_eqS, c_neS, c_isB, c_isnotB, p_lenL, p_lenT, p_int, p_max, p_min, p_tupL, p_lstT, p_lstL, i_l, i_t, at0, at1, at2, t_bool, s_l, s_t, bp_nm, bp_tp, bps0, bps1, sr_l, sr_t, sr_n, startE, wipe, List.map_cons, List.map_nil, List.length_cons, List.length_nil, List.replicate, List.cons_append, List.nil_append, List.append_nil, Nat.reduceAdd, Nat.reduceSub, Nat.reduceMul, List.getElem?_cons_zero, List.getElem?_cons_succ, List.getElem?_nil, List.set_cons_zero, List.set_cons_succ, List.mapM_cons, List.mapM_nil, Option.pure_def, Option.bind_eq_bind, Option.bind_some, Bool.not_true, Bool.not_false, hc, x1]
    have hc2 : (st.set c (.lst [.int a, .int ((b * 69621 + 7129) % 2147483647)]))[c]? = some (.lst [.int a, .int ((b * 69621 + 7129) % 2147483647)]) := List.getElem?_set_self hlt
    have m0 : 0 ≤ (b * 69621 + 7129) % 2147483647 := Int.emod_nonneg _ (by omega)
    have m1 : (b * 69621 + 7129) % 2147483647 < 2147483647 := Int.emod_lt_of_pos _ (by omega)
    simp only [w_var, a_var, w_con, w_glo, w_op, k_op1, k_op2, w_neg, k_neg, w_cmp, k_cm1, k_cm2, w_chain, k_ch1, k_ch2, w_and, k_and, w_or, k_or, w_not, k_not, w_ite, k_ite, w_tup, k_tup, w_lst, k_lst, w_call, k_call, w_prim, k_prim, w_isi, k_isi, w_ix, k_ix1, k_ix2, w_ts0, w_ts, k_ts1, k_ts2, w_ds0, w_ds, k_ds1d, k_ds1n, k_ds2, x_nil, x_cons, x_set, k_set, x_setM, k_setMt, k_setMn, x_expr, k_expr, x_ret, k_ret, x_retN, x_pass, x_ife, k_if, x_for, k_for, k_finN, k_finD, k_finL, st_t, st_n, rd_d, rd_ref, w_sl, k_sl, k_sl1, k_sl2, w_o0, w_o_var, w_o_con, w_o_op, k_o, w_it_var, w_it_con, w_it_ix, w_it_lst, w_it_tup, w_it_call, w_it_prim, w_it_sl, w_it_op, w_it_comp, w_it_ite, k_src, w_rng, k_rng, w_comp, k_comp, k_eltD, k_eltN, k_cond, body0, body1, x_setI, k_si1, k_si2, k_si3, w_meth, k_me1, k_me2, nxt_next, nxt_ret, nxt_brk, nxt_cont, wp_ok, wps_ok, w_dct0, a_dct1, wps_bt, a_bt, x_parM, w_evT, w_evF, a_alT, a_alN, a_stl, k_pm1, k_pm2, tB, oK_some, a_at, a_atB, a_atD, a_opb, a_opa, a_cmb, a_cma, a_ixb, a_ixa, a_neg, a_chT, a_chF, a_cha2, a_cha, a_brAT, a_brAF, a_brOT, a_brOF, a_brIT, a_brIF, a_brST, a_brSF, a_and, a_or, a_not, a_ite, a_if, a_prim, a_isi, a_set, a_slb, a_o, a_src, a_rng, a_bo0, a_bo1, a_brCT, a_brCF, a_cond, a_sid, a_sic, a_sib, a_mea, a_meb, a_mec, b_add, b_sub, c_lt, c_le, c_gt, c_ge, c_eqI, c_neI, c_eqS, c_neS, c_isB, c_isnotB, p_lenL, p_lenT, p_int, p_max, p_min, p_tupL, p_lstT, p_lstL, i_l, i_t, at0, at1, at2, t_bool, s_l, s_t, bp_nm, bp_tp, bps0, bps1, sr_l, sr_t, sr_n, startE, wipe, List.map_cons, List.map_nil, List.length_cons, List.length_nil, List.replicate, List.cons_append, List.nil_append, List.append_nil, Nat.reduceAdd, Nat.reduceSub, Nat.reduceMul, List.getElem?_cons_zero, List.getElem?_cons_succ, List.getElem?_nil, List.set_cons_zero, List.set_cons_succ, List.mapM_cons, List.mapM_nil, Option.pure_def, Option.bind_eq_bind, Option.bind_some, Bool.not_true, Bool.not_false, hc2, rd_ref hc2]
    rw [b_pow (pow_small (by omega) (by omega) (by omega))]
    simp only [w_var, a_var, w_con, w_glo, w_op, k_op1, k_op2, w_neg, k_neg, w_cmp, k_cm1, k_cm2, w_chain, k_ch1, k_ch2, w_and, k_and, w_or, k_or, w_not, k_not, w_ite, k_ite, w_tup, k_tup, w_lst, k_lst, w_call, k_call, w_prim, k_prim, w_isi, k_isi, w_ix, k_ix1, k_ix2, w_ts0, w_ts, k_ts1, k_ts2, w_ds0, w_ds, k_ds1d, k_ds1n, k_ds2, x_nil, x_cons, x_set, k_set, x_setM, k_setMt, k_setMn, x_expr, k_expr, x_ret, k_ret, x_retN, x_pass, x_ife, k_if, x_for, k_for, k_finN, k_finD, k_finL, st_t, st_n, rd_d, rd_ref, w_sl, k_sl, k_sl1, k_sl2, w_o0, w_o_var, w_o_con, w_o_op, k_o, w_it_var, w_it_con, w_it_ix, w_it_lst, w_it_tup, w_it_call, w_it_prim, w_it_sl, w_it_op, w_it_comp, w_it_ite, k_src, w_rng, k_rng, w_comp, k_comp, k_eltD, k_eltN, k_cond, body0, body1, x_setI, k_si1, k_si2, k_si3, w_meth, k_me1, k_me2, nxt_next, nxt_ret, nxt_brk, nxt_cont, wp_ok, wps_ok, w_dct0, a_dct1, wps_bt, a_bt, x_parM, w_evT, w_evF, a_alT, a_alN, a_stl, k_pm1, k_pm2, tB, oK_some, a_at, a_atB, a_atD, a_opb, a_opa, a_cmb, a_cma, a_ixb, a_ixa, a_neg, a_chT, a_chF, a_cha2, a_cha, a_brAT, a_brAF, a_brOT, a_brOF, a_brIT, a_brIF, a_brST, a_brSF, a_and, a_or, a_not, a_ite, a_if, a_prim, a_isi, a_set, a_slb, a_o, a_src, a_rng, a_bo0, a_bo1, a_brCT, a_brCF, a_cond, a_sid, a_sic, a_sib, a_mea, a_meb, a_mec, b_add, b_sub, c_lt, c_le, c_gt, c_ge, c_eqI, c_neI, c_eqS, c_neS, c_isB, c_isnotB, p_lenL, p_lenT, p_int, p_max, p_min, p_tupL, p_lstT, p_lstL, i_l, i_t, at0, at1, at2, t_bool, s_l, s_t, bp_nm, bp_tp, bps0, bps1, sr_l, sr_t, sr_n, startE, wipe, List.map_cons, List.map_nil, List.length_cons, List.length_nil, List.replicate, List.cons_append, List.nil_append, List.append_nil, Nat.reduceAdd, Nat.reduceSub, Nat.reduceMul, List.getElem?_cons_zero, List.getElem?_cons_succ, List.getElem?_nil, List.set_cons_zero, List.set_cons_succ, List.mapM_cons, List.mapM_nil, Option.pure_def, Option.bind_eq_bind, Option.bind_some, Bool.not_true, Bool.not_false]
    rw [b_mod (by omega)]
    simp only [w_var, a_var, w_con, w_glo, w_op, k_op1, k_op2, w_neg, k_neg, w_cmp, k_cm1, k_cm2, w_chain, k_ch1, k_ch2, w_and, k_and, w_or, k_or, w_not, k_not, w_ite, k_ite, w_tup, k_tup, w_lst, k_lst, w_call, k_call, w_prim, k_prim, w_isi, k_isi, w_ix, k_ix1, k_ix2, w_ts0, w_ts, k_ts1, k_ts2, w_ds0, w_ds, k_ds1d, k_ds1n, k_ds2, x_nil, x_cons, x_set, k_set, x_setM, k_setMt, k_setMn, x_expr, k_expr, x_ret, k_ret, x_retN, x_pass, x_ife, k_if, x_for, k_for, k_finN, k_finD, k_finL, st_t, st_n, rd_d, rd_ref, w_sl, k_sl, k_sl1, k_sl2, w_o0, w_o_var, w_o_con, w_o_op, k_o, w_it_var, w_it_con, w_it_ix, w_it_lst, w_it_tup, w_it_call, w_it_prim, w_it_sl, w_it_op, w_it_comp, w_it_ite, k_src, w_rng, k_rng, w_comp, k_comp, k_eltD, k_eltN, k_cond, body0, body1, x_setI, k_si1, k_si2, k_si3, w_meth, k_me1, k_me2, nxt_next, nxt_ret, nxt_brk, nxt_cont, wp_ok, wps_ok, w_dct0, a_dct1, wps_bt, a_bt, x_parM, w_evT, w_evF, a_alT, a_alN, a_stl, k_pm1, k_pm2, tB, oK_some, a_at, a_atB, a_atD, a_opb, a_opa, a_cmb, a_cma, a_ixb, a_ixa, a_neg, a_chT, a_chF, a_cha2, a_cha, a_brAT, a_brAF, a_brOT, a_brOF, a_brIT, a_brIF, a_brST, a_brSF, a_and, a_or, a_not, a_ite, a_if, a_prim, a_isi, a_set, a_slb, a_o, a_src, a_rng, a_bo0, a_bo1, a_brCT, a_brCF, a_cond, a_sid, a_sic, a_sib, a_mea, a_meb, a_mec, b_add, b_sub, c_lt, c_le, c_gt, c_ge, c_eqI, c_neI, c_eqS, c_neS, c_isB, c_isnotB, p_lenL, p_lenT, p_int, p_max, p_min, p_tupL, p_lstT, p_lstL, i_l, i_t, at0, at1, at2, t_bool, s_l, s_t, bp_nm, bp_tp, bps0, bps1, sr_l, sr_t, sr_n, startE, wipe, List.map_cons, List.map_nil, List.length_cons, List.length_nil, List.replicate, List.cons_append, List.nil_append, List.append_nil, Nat.reduceAdd, Nat.reduceSub, Nat.reduceMul, List.getElem?_cons_zero, List.getElem?_cons_succ, List.getElem?_nil, List.set_cons_zero, List.set_cons_succ, List.mapM_cons, List.mapM_nil, Option.pure_def, Option.bind_eq_bind, Option.bind_some, Bool.not_true, Bool.not_false]
    rw [b_fdiv (by omega)]
    simp only [w_var, a_var, w_con, w_glo, w_op, k_op1, k_op2, w_neg, k_neg, w_cmp, k_cm1, k_cm2, w_chain, k_ch1, k_ch2, w_and, k_and, w_or, k_or, w_not, k_not, w_ite, k_ite, w_tup, k_tup, w_lst, k_lst, w_call, k_call, w_prim, k_prim, w_isi, k_isi, w_ix, k_ix1, k_ix2, w_ts0, w_ts, k_ts1, k_ts2, w_ds0, w_ds, k_ds1d, k_ds1n, k_ds2, x_nil, x_cons, x_set, k_set, x_setM, k_setMt, k_setMn, x_expr, k_expr, x_ret, k_ret, x_retN, x_pass, x_ife, k_if, x_for, k_for, k_finN, k_finD, k_finL, st_t, st_n, rd_d, rd_ref, w_sl, k_sl, k_sl1, k_sl2, w_o0, w_o_var, w_o_con, w_o_op, k_o, w_it_var, w_it_con, w_it_ix, w_it_lst, w_it_tup, w_it_call, w_it_prim, w_it_sl, w_it_op, w_it_comp, w_it_ite, k_src, w_rng, k_rng, w_comp, k_comp, k_eltD, k_eltN, k_cond, body0, body1, x_setI, k_si1, k_si2, k_si3, w_meth, k_me1, k_me2, nxt_next, nxt_ret, nxt_brk, nxt_cont, wp_ok, wps_ok, w_dct0, a_dct1, wps_bt, a_bt, x_parM, w_evT, w_evF, a_alT, a_alN, a_stl, k_pm1, k_pm2, tB, oK_some, a_at, a_atB, a_atD, a_opb, a_opa, a_cmb, a_cma, a_ixb, a_ixa, a_neg, a_chT, a_chF, a_cha2, a_cha, a_brAT, a_brAF, a_brOT, a_brOF, a_brIT, a_brIF, a_brST, a_brSF, a_and, a_or, a_not, a_ite, a_if, a_prim, a_isi, a_set, a_slb, a_o, a_src, a_rng, a_bo0, a_bo1, a_brCT, a_brCF, a_cond, a_sid, a_sic, a_sib, a_mea, a_meb, a_mec, b_add, b_sub, c_lt, c_le, c_gt, c_ge, c_eqI, c_neI, c_eqS, c_neS, c_isB, c_isnotB, p_lenL, p_lenT, p_int, p_max, p_min, p_tupL, p_lstT, p_lstL, i_l, i_t, at0, at1, at2, t_bool, s_l, s_t, bp_nm, bp_tp, bps0, bps1, sr_l, sr_t, sr_n, startE, wipe, List.map_cons, List.map_nil, List.length_cons, List.length_nil, List.replicate, List.cons_append, List.nil_append, List.append_nil, Nat.reduceAdd, Nat.reduceSub, Nat.reduceMul, List.getElem?_cons_zero, List.getElem?_cons_succ, List.getElem?_nil, List.set_cons_zero, List.set_cons_succ, List.mapM_cons, List.mapM_nil, Option.pure_def, Option.bind_eq_bind, Option.bind_some, Bool.not_true, Bool.not_false, b_mod hs]
    have s1 := Sm.set (st := st) (a := a) (b := (b * 69621 + 7129) % 2147483647) hlt ha m0 (by omega)
    rw [take_len s1.1]
    exact ⟨⟨_, rfl, Int.emod_nonneg _ (by omega), Int.emod_lt_of_pos _ hs⟩, s1⟩
end Lw


namespace Lw
open MP
theorem compL_pure {g : D → Store → Res (Option D)} {st : Store} {h : D → Option D} {kd : KDs} : ∀ {xs : List D}, (∀ x ∈ xs, ∀ ko, (g x st).wp ko = ko (h x) st) → (compL g xs st).wp kd = kd (xs.filterMap h) st := by
  intro xs hb
  have e : compL g xs st = .ok (xs.filterMap h) st := compL_map fun x hx => by
    have q := hb x hx fun a s => a = h x ∧ s = st
    have q2 : (g x st).wp fun a s => a = h x ∧ s = st := by rw [q]; exact ⟨rfl, rfl⟩
    obtain ⟨a, s, e, rfl, rfl⟩ := q2.get
    exact e
  rw [e]
  rfl
def isNum (x : D) (lo hi : Int) : Bool := match x with
  | .int i => decide (lo ≤ i) && decide (i ≤ hi)
  | _ => false
section
variable {n wf : Nat} {st : Store} {k : KR} {x : D} {lo hi : Int}
theorem isi_int {i : Int} : isiD .int (.int i) = true := rfl
theorem isi_bool {b : Bool} : isiD .int (.bool b) = true := rfl
theorem num_core {b : List S} (cf : CF) : (execs cf wf [(.ret (.and (.isi (.var 0) .int) (.and (.not (.isi (.var 0) .bool)) (.chain .le .le (.var 1) (.var 0) (.var 2)))))] [some (.d x), some (.d (.int lo)), some (.d (.int hi))] st).wp (kFin st.length k) = k (.t (.d (.bool (isNum x lo hi)))) st := by
  cases x with
  | int i =>
    simp only [w_var, a_var, w_con, w_glo, w_op, k_op1, k_op2, w_neg, k_neg, w_cmp, k_cm1, k_cm2, w_chain, k_ch1, k_ch2, w_and, k_and, w_or, k_or, w_not, k_not, w_ite, k_ite, w_tup, k_tup, w_lst, k_lst, w_call, k_call, w_prim, k_prim, w_isi, k_isi, w_ix, k_ix1, k_ix2, w_ts0, w_ts, k_ts1, k_ts2, w_ds0, w_ds, k_ds1d, k_ds1n, k_ds2, x_nil, x_cons, x_set, k_set, x_setM, k_setMt, k_setMn, x_expr, k_expr, x_ret, k_ret, x_retN, x_pass, x_ife, k_if, x_for, k_for, k_finN, k_finD, k_finL, st_t, st_n, rd_d, rd_ref, w_sl, k_sl, k_sl1, k_sl2, w_o0, w_o_var, w_o_con, w_o_op, k_o, w_it_var, w_it_con, w_it_ix, w_it_lst, w_it_tup, w_it_call, w_it_prim, w_it_sl, w_it_op, w_it_comp, w_it_ite, k_src, w_rng, k_rng, w_comp, k_comp, k_eltD, k_eltN, k_cond, body0, body1, x_setI, k_si1, k_si2, k_si3, w_meth, k_me1, k_me2, nxt_next, nxt_ret, nxt_brk, nxt_cont, wp_ok, wps_ok, w_dct0, a_dct1, wps_bt, a_bt, x_parM, w_evT, w_evF, a_alT, a_alN, a_stl, k_pm1, k_pm2, tB, oK_some, a_at, a_atB, a_atD, a_opb, a_opa, a_cmb, a_cma, a_ixb, a_ixa, a_neg, a_chT, a_chF, a_cha2, a_cha, a_brAT, a_brAF, a_brOT, a_brOF, a_brIT, a_brIF, a_brST, a_brSF, a_and, a_or, a_not, a_ite, a_if, a_prim, a_isi, a_set, a_slb, a_o, a_src, a_rng, a_bo0, a_bo1, a_brCT, a_brCF, a_cond, a_sid, a_sic, a_sib, a_mea, a_meb, a_mec, b_add, b_sub, c_lt, c_le, c_gt, c_ge, c_eqI, c_neI, c_eqS, c_neS, c_isB, c_isnotB, p_lenL, p_lenT, p_int, p_max, p_min, p_tupL, p_lstT, p_lstL, i_l, i_t, at0, at1, at2, t_bool, s_l, s_t, bp_nm, bp_tp, bps0, bps1, sr_l, sr_t, sr_n, startE, wipe, List.map_cons, List.map_nil, List.length_cons, List.length_nil, List.replicate, List.cons_append, List.nil_append, List.append_nil, Nat.reduceAdd, Nat.reduceSub, Nat.reduceMul, List.getElem?_cons_zero, List.getElem?_cons_succ, List.getElem?_nil, List.set_cons_zero, List.set_cons_succ, List.mapM_cons, List.mapM_nil, Option.pure_def, Option.bind_eq_bind, Option.bind_some, Bool.not_true, Bool.not_false, show isiD .int (.int i) = true from rfl, show isiD .bool (.int i) = false from rfl]
    by_cases h : lo ≤ i
    · simp only [w_var, a_var, w_con, w_glo, w_op, k_op1, k_op2, w_neg, k_neg, w_cmp, k_cm1, k_cm2, w_chain, k_ch1, k_ch2, w_and, k_and, w_or, k_or, w_not, k_not, w_ite, k_ite, w_tup, k_tup, w_lst, k_lst, w_call, k_call, w_prim, k_prim, w_isi, k_isi, w_ix, k_ix1, k_ix2, w_ts0, w_ts, k_ts1, k_ts2, w_ds0, w_ds, k_ds1d, k_ds1n, k_ds2, x_nil, x_cons, x_set, k_set, x_setM, k_setMt, k_setMn, x_expr, k_expr, x_ret, k_ret, x_retN, x_pass, x_ife, k_if, x_for, k_for, k_finN, k_finD, k_finL, st_t, st_n, rd_d, rd_ref, w_sl, k_sl, k_sl1, k_sl2, w_o0, w_o_var, w_o_con, w_o_op, k_o, w_it_var, w_it_con, w_it_ix, w_it_lst, w_it_tup, w_it_call, w_it_prim, w_it_sl, w_it_op, w_it_comp, w_it_ite, k_src, w_rng, k_rng, w_comp, k_comp, k_eltD, k_eltN, k_cond, body0, body1, x_setI, k_si1, k_si2, k_si3, w_meth, k_me1, k_me2, nxt_next, nxt_ret, nxt_brk, nxt_cont, wp_ok, wps_ok, w_dct0, a_dct1, wps_bt, a_bt, x_parM, w_evT, w_evF, a_alT, a_alN, a_stl, k_pm1, k_pm2, tB, oK_some, a_at, a_atB, a_atD, a_opb, a_opa, a_cmb, a_cma, a_ixb, a_ixa, a_neg, a_chT, a_chF, a_cha2, a_cha, a_brAT, a_brAF, a_brOT, a_brOF, a_brIT, a_brIF, a_brST, a_brSF, a_and, a_or, a_not, a_ite, a_if, a_prim, a_isi, a_set, a_slb, a_o, a_src, a_rng, a_bo0, a_bo1, a_brCT, a_brCF, a_cond, a_sid, a_sic, a_sib, a_mea, a_meb, a_mec, b_add, b_sub, c_lt, c_le, c_gt, c_ge, c_eqI, c_neI, c_eqS, c_neS, c_isB, c_isnotB, p_lenL, p_lenT, p_int, p_max, p_min, p_tupL, p_lstT, p_lstL, i_l, i_t, at0, at1, at2, t_bool, s_l, s_t, bp_nm, bp_tp, bps0, bps1, sr_l, sr_t, sr_n, startE, wipe, List.map_cons, List.map_nil, List.length_cons, List.length_nil, List.replicate, List.cons_append, List.nil_append, List.append_nil, Nat.reduceAdd, Nat.reduceSub, Nat.reduceMul, List.getElem?_cons_zero, List.getElem?_cons_succ, List.getElem?_nil, List.set_cons_zero, List.set_cons_succ, List.mapM_cons, List.mapM_nil, Option.pure_def, Option.bind_eq_bind, Option.bind_some, Bool.not_true, Bool.not_false, decide_eq_true h, isNum, Bool.true_and, List.take_length]
    · simp only [w_var, a_var, w_con, w_glo, w_op, k_op1, k_op2, w_neg, k_neg, w_cmp, k_cm1, k_cm2, w_chain, k_ch1, k_ch2, w_and, k_and, w_or, k_or, w_not, k_not, w_ite, k_ite, w_tup, k_tup, w_lst, k_lst, w_call, k_call, w_prim, k_prim, w_isi, k_isi, w_ix, k_ix1, k_ix2, w_ts0, w_ts, k_ts1, k_ts2, w_ds0, w_ds, k_ds1d, k_ds1n, k_ds2, x_nil, x_cons, x_set, k_set, x_setM, k_setMt, k_setMn, x_expr, k_expr, x_ret, k_ret, x_retN, x_pass, x_ife, k_if, x_for, k_for, k_finN, k_finD, k_finL, st_t, st_n, rd_d, rd_ref, w_sl, k_sl, k_sl1, k_sl2, w_o0, w_o_var, w_o_con, w_o_op, k_o, w_it_var, w_it_con, w_it_ix, w_it_lst, w_it_tup, w_it_call, w_it_prim, w_it_sl, w_it_op, w_it_comp, w_it_ite, k_src, w_rng, k_rng, w_comp, k_comp, k_eltD, k_eltN, k_cond, body0, body1, x_setI, k_si1, k_si2, k_si3, w_meth, k_me1, k_me2, nxt_next, nxt_ret, nxt_brk, nxt_cont, wp_ok, wps_ok, w_dct0, a_dct1, wps_bt, a_bt, x_parM, w_evT, w_evF, a_alT, a_alN, a_stl, k_pm1, k_pm2, tB, oK_some, a_at, a_atB, a_atD, a_opb, a_opa, a_cmb, a_cma, a_ixb, a_ixa, a_neg, a_chT, a_chF, a_cha2, a_cha, a_brAT, a_brAF, a_brOT, a_brOF, a_brIT, a_brIF, a_brST, a_brSF, a_and, a_or, a_not, a_ite, a_if, a_prim, a_isi, a_set, a_slb, a_o, a_src, a_rng, a_bo0, a_bo1, a_brCT, a_brCF, a_cond, a_sid, a_sic, a_sib, a_mea, a_meb, a_mec, b_add, b_sub, c_lt, c_le, c_gt, c_ge, c_eqI, c_neI, c_eqS, c_neS, c_isB, c_isnotB, p_lenL, p_lenT, p_int, p_max, p_min, p_tupL, p_lstT, p_lstL, i_l, i_t, at0, at1, at2, t_bool, s_l, s_t, bp_nm, bp_tp, bps0, bps1, sr_l, sr_t, sr_n, startE, wipe, List.map_cons, List.map_nil, List.length_cons, List.length_nil, List.replicate, List.cons_append, List.nil_append, List.append_nil, Nat.reduceAdd, Nat.reduceSub, Nat.reduceMul, List.getElem?_cons_zero, List.getElem?_cons_succ, List.getElem?_nil, List.set_cons_zero, List.set_cons_succ, List.mapM_cons, List.mapM_nil, Option.pure_def, Option.bind_eq_bind, Option.bind_some, Bool.not_true, Bool.not_false, decide_eq_false h, isNum, Bool.false_and, List.take_length]
  | bool b => simp only [w_var, a_var, w_con, w_glo, w_op, k_op1, k_op2, w_neg, k_neg, w_cmp, k_cm1, k_cm2, w_chain, k_ch1, k_ch2, w_and, k_and, w_or, k_or, w_not, k_not, w_ite, k_ite, w_tup, k_tup, w_lst, k_lst, w_call, k_call, w_prim, k_prim, w_isi, k_isi, w_ix, k_ix1, k_ix2, w_ts0, w_ts, k_ts1, k_ts2, w_ds0, w_ds, k_ds1d, k_ds1n, k_ds2, x_nil, x_cons, x_set, k_set, x_setM, k_setMt, k_setMn, x_expr, k_expr, x_ret, k_ret, x_retN, x_pass, x_ife, k_if, x_for, k_for, k_finN, k_finD, k_finL, st_t, st_n, rd_d, rd_ref, w_sl, k_sl, k_sl1, k_sl2, w_o0, w_o_var, w_o_con, w_o_op, k_o, w_it_var, w_it_con, w_it_ix, w_it_lst, w_it_tup, w_it_call, w_it_prim, w_it_sl, w_it_op, w_it_comp, w_it_ite, k_src, w_rng, k_rng, w_comp, k_comp, k_eltD, k_eltN, k_cond, body0, body1, x_setI, k_si1, k_si2, k_si3, w_meth, k_me1, k_me2, nxt_next, nxt_ret, nxt_brk, nxt_cont, wp_ok, wps_ok, w_dct0, a_dct1, wps_bt, a_bt, x_parM, w_evT, w_evF, a_alT, a_alN, a_stl, k_pm1, k_pm2, tB, oK_some, a_at, a_atB, a_atD, a_opb, a_opa, a_cmb, a_cma, a_ixb, a_ixa, a_neg, a_chT, a_chF, a_cha2, a_cha, a_brAT, a_brAF, a_brOT, a_brOF, a_brIT, a_brIF, a_brST, a_brSF, a_and, a_or, a_not, a_ite, a_if, a_prim, a_isi, a_set, a_slb, a_o, a_src, a_rng, a_bo0, a_bo1, a_brCT, a_brCF, a_cond, a_sid, a_sic, a_sib, a_mea, a_meb, a_mec, b_add, b_sub, c_lt, c_le, c_gt, c_ge, c_eqI, c_neI, c_eqS, c_neS, c_isB, c_isnotB, p_lenL, p_lenT, p_int, p_max, p_min, p_tupL, p_lstT, p_lstL, i_l, i_t, at0, at1, at2, t_bool, s_l, s_t, bp_nm, bp_tp, bps0, bps1, sr_l, sr_t, sr_n, startE, wipe, List.map_cons, List.map_nil, List.length_cons, List.length_nil, List.replicate, List.cons_append, List.nil_append, List.append_nil, Nat.reduceAdd, Nat.reduceSub, Nat.reduceMul, List.getElem?_cons_zero, List.getElem?_cons_succ, List.getElem?_nil, List.set_cons_zero, List.set_cons_succ, List.mapM_cons, List.mapM_nil, Option.pure_def, Option.bind_eq_bind, Option.bind_some, Bool.not_true, Bool.not_false, show isiD .int (.bool b) = true from rfl, show isiD .bool (.bool b) = true from rfl, isNum, List.take_length]
  | none => simp only [w_var, a_var, w_con, w_glo, w_op, k_op1, k_op2, w_neg, k_neg, w_cmp, k_cm1, k_cm2, w_chain, k_ch1, k_ch2, w_and, k_and, w_or, k_or, w_not, k_not, w_ite, k_ite, w_tup, k_tup, w_lst, k_lst, w_call, k_call, w_prim, k_prim, w_isi, k_isi, w_ix, k_ix1, k_ix2, w_ts0, w_ts, k_ts1, k_ts2, w_ds0, w_ds, k_ds1d, k_ds1n, k_ds2, x_nil, x_cons, x_set, k_set, x_setM, k_setMt, k_setMn, x_expr, k_expr, x_ret, k_ret, x_retN, x_pass, x_ife, k_if, x_for, k_for, k_finN, k_finD, k_finL, st_t, st_n, rd_d, rd_ref, w_sl, k_sl, k_sl1, k_sl2, w_o0, w_o_var, w_o_con, w_o_op, k_o, w_it_var, w_it_con, w_it_ix, w_it_lst, w_it_tup, w_it_call, w_it_prim, w_it_sl, w_it_op, w_it_comp, w_it_ite, k_src, w_rng, k_rng, w_comp, k_comp, k_eltD, k_eltN, k_cond, body0, body1, x_setI, k_si1, k_si2, k_si3, w_meth, k_me1, k_me2, nxt_next, nxt_ret, nxt_brk, nxt_cont, wp_ok, wps_ok, w_dct0, a_dct1, wps_bt, a_bt, x_parM, w_evT, w_evF, a_alT, a_alN, a_stl, k_pm1, k_pm2, tB, oK_some, a_at, a_atB, a_atD, a_opb, a_opa, a_cmb, a_cma, a_ixb, a_ixa, a_neg, a_chT, a_chF, a_cha2, a_cha, a_brAT, a_brAF, a_brOT, a_brOF, a_brIT, a_brIF, a_brST, a_brSF, a_and, a_or, a_not, a_ite, a_if, a_prim, a_isi, a_set, a_slb, a_o, a_src, a_rng, a_bo0, a_bo1, a_brCT, a_brCF, a_cond, a_sid, a_sic, a_sib, a_mea, a_meb, a_mec, b_add, b_sub, c_lt, c_le, c_gt, c_ge, c_eqI, c_neI, c_eqS, c_neS, c_isB, c_isnotB, p_lenL, p_lenT, p_int, p_max, p_min, p_tupL, p_lstT, p_lstL, i_l, i_t, at0, at1, at2, t_bool, s_l, s_t, bp_nm, bp_tp, bps0, bps1, sr_l, sr_t, sr_n, startE, wipe, List.map_cons, List.map_nil, List.length_cons, List.length_nil, List.replicate, List.cons_append, List.nil_append, List.append_nil, Nat.reduceAdd, Nat.reduceSub, Nat.reduceMul, List.getElem?_cons_zero, List.getElem?_cons_succ, List.getElem?_nil, List.set_cons_zero, List.set_cons_succ, List.mapM_cons, List.mapM_nil, Option.pure_def, Option.bind_eq_bind, Option.bind_some, Bool.not_true, Bool.not_false, show isiD .int .none = false from rfl, isNum, List.take_length]
  | str y => simp only [w_var, a_var, w_con, w_glo, w_op, k_op1, k_op2, w_neg, k_neg, w_cmp, k_cm1, k_cm2, w_chain, k_ch1, k_ch2, w_and, k_and, w_or, k_or, w_not, k_not, w_ite, k_ite, w_tup, k_tup, w_lst, k_lst, w_call, k_call, w_prim, k_prim, w_isi, k_isi, w_ix, k_ix1, k_ix2, w_ts0, w_ts, k_ts1, k_ts2, w_ds0, w_ds, k_ds1d, k_ds1n, k_ds2, x_nil, x_cons, x_set, k_set, x_setM, k_setMt, k_setMn, x_expr, k_expr, x_ret, k_ret, x_retN, x_pass, x_ife, k_if, x_for, k_for, k_finN, k_finD, k_finL, st_t, st_n, rd_d, rd_ref, w_sl, k_sl, k_sl1, k_sl2, w_o0, w_o_var, w_o_con, w_o_op, k_o, w_it_var, w_it_con, w_it_ix, w_it_lst, w_it_tup, w_it_call, w_it_prim, w_it_sl, w_it_op, w_it_comp, w_it_ite, k_src, w_rng, k_rng, w_comp, k_comp, k_eltD, k_eltN, k_cond, body0, body1, x_setI, k_si1, k_si2, k_si3, w_meth, k_me1, k_me2, nxt_next, nxt_ret, nxt_brk, nxt_cont, wp_ok, wps_ok, w_dct0, a_dct1, wps_bt, a_bt, x_parM, w_evT, w_evF, a_alT, a_alN, a_stl, k_pm1, k_pm2, tB, oK_some, a_at, a_atB, a_atD, a_opb, a_opa, a_cmb, a_cma, a_ixb, a_ixa, a_neg, a_chT, a_chF, a_cha2, a_cha, a_brAT, a_brAF, a_brOT, a_brOF, a_brIT, a_brIF, a_brST, a_brSF, a_and, a_or, a_not, a_ite, a_if, a_prim, a_isi, a_set, a_slb, a_o, a_src, a_rng, a_bo0, a_bo1, a_brCT, a_brCF, a_cond, a_sid, a_sic, a_sib, a_mea, a_meb, a_mec, b_add, b_sub, c_lt, c_le, c_gt, c_ge, c_eqI, c_neI, c_eqS, c_neS, c_isB, c_isnotB, p_lenL, p_lenT, p_int, p_max, p_min, p_tupL, p_lstT, p_lstL, i_l, i_t, at0, at1, at2, t_bool, s_l, s_t, bp_nm, bp_tp, bps0, bps1, sr_l, sr_t, sr_n, startE, wipe, List.map_cons, List.map_nil, List.length_cons, List.length_nil, List.replicate, List.cons_append, List.nil_append, List.append_nil, Nat.reduceAdd, Nat.reduceSub, Nat.reduceMul, List.getElem?_cons_zero, List.getElem?_cons_succ, List.getElem?_nil, List.set_cons_zero, List.set_cons_succ, List.mapM_cons, List.mapM_nil, Option.pure_def, Option.bind_eq_bind, Option.bind_some, Bool.not_true, Bool.not_false, show isiD .int (.str y) = false from rfl, isNum, List.take_length]
  | list y => simp only [w_var, a_var, w_con, w_glo, w_op, k_op1, k_op2, w_neg, k_neg, w_cmp, k_cm1, k_cm2, w_chain, k_ch1, k_ch2, w_and, k_and, w_or, k_or, w_not, k_not, w_ite, k_ite, w_tup, k_tup, w_lst, k_lst, w_call, k_call, w_prim, k_prim, w_isi, k_isi, w_ix, k_ix1, k_ix2, w_ts0, w_ts, k_ts1, k_ts2, w_ds0, w_ds, k_ds1d, k_ds1n, k_ds2, x_nil, x_cons, x_set, k_set, x_setM, k_setMt, k_setMn, x_expr, k_expr, x_ret, k_ret, x_retN, x_pass, x_ife, k_if, x_for, k_for, k_finN, k_finD, k_finL, st_t, st_n, rd_d, rd_ref, w_sl, k_sl, k_sl1, k_sl2, w_o0, w_o_var, w_o_con, w_o_op, k_o, w_it_var, w_it_con, w_it_ix, w_it_lst, w_it_tup, w_it_call, w_it_prim, w_it_sl, w_it_op, w_it_comp, w_it_ite, k_src, w_rng, k_rng, w_comp, k_comp, k_eltD, k_eltN, k_cond, body0, body1, x_setI, k_si1, k_si2, k_si3, w_meth, k_me1, k_me2, nxt_next, nxt_ret, nxt_brk, nxt_cont, wp_ok, wps_ok, w_dct0, a_dct1, wps_bt, a_bt, x_parM, w_evT, w_evF, a_alT, a_alN, a_stl, k_pm1, k_pm2, tB, oK_some, a_at, a_atB, a_atD, a_opb, a_opa, a_cmb, a_cma, a_ixb, a_ixa, a_neg, a_chT, a_chF, a_cha2, a_cha, a_brAT, a_brAF, a_brOT, a_brOF, a_brIT, a_brIF, a_brST, a_brSF, a_and, a_or, a_not, a_ite, a_if, a_prim, a_isi, a_set, a_slb, a_o, a_src, a_rng, a_bo0, a_bo1, a_brCT, a_brCF, a_cond, a_sid, a_sic, a_sib, a_mea, a_meb, a_mec, b_add, b_sub, c_lt, c_le, c_gt, c_ge, c_eqI, c_neI, c_eqS, c_neS, c_isB, c_isnotB, p_lenL, p_lenT, p_int, p_max, p_min, p_tupL, p_lstT, p_lstL, i_l, i_t, at0, at1, at2, t_bool, s_l, s_t, bp_nm, bp_tp, bps0, bps1, sr_l, sr_t, sr_n, startE, wipe, List.map_cons, List.map_nil, List.length_cons, List.length_nil, List.replicate, List.cons_append, List.nil_append, List.append_nil, Nat.reduceAdd, Nat.reduceSub, Nat.reduceMul, List.getElem?_cons_zero, List.getElem?_cons_succ, List.getElem?_nil, List.set_cons_zero, List.set_cons_succ, List.mapM_cons, List.mapM_nil, Option.pure_def, Option.bind_eq_bind, Option.bind_some, Bool.not_true, Bool.not_false, show isiD .int (.list y) = false from rfl, isNum, List.take_length]
  | tuple y => simp only [w_var, a_var, w_con, w_glo, w_op, k_op1, k_op2, w_neg, k_neg, w_cmp, k_cm1, k_cm2, w_chain, k_ch1, k_ch2, w_and, k_and, w_or, k_or, w_not, k_not, w_ite, k_ite, w_tup, k_tup, w_lst, k_lst, w_call, k_call, w_prim, k_prim, w_isi, k_isi, w_ix, k_ix1, k_ix2, w_ts0, w_ts, k_ts1, k_ts2, w_ds0, w_ds, k_ds1d, k_ds1n, k_ds2, x_nil, x_cons, x_set, k_set, x_setM, k_setMt, k_setMn, x_expr, k_expr, x_ret, k_ret, x_retN, x_pass, x_ife, k_if, x_for, k_for, k_finN, k_finD, k_finL, st_t, st_n, rd_d, rd_ref, w_sl, k_sl, k_sl1, k_sl2, w_o0, w_o_var, w_o_con, w_o_op, k_o, w_it_var, w_it_con, w_it_ix, w_it_lst, w_it_tup, w_it_call, w_it_prim, w_it_sl, w_it_op, w_it_comp, w_it_ite, k_src, w_rng, k_rng, w_comp, k_comp, k_eltD, k_eltN, k_cond, body0, body1, x_setI, k_si1, k_si2, k_si3, w_meth, k_me1, k_me2, nxt_next, nxt_ret, nxt_brk, nxt_cont, wp_ok, wps_ok, w_dct0, a_dct1, wps_bt, a_bt, x_parM, w_evT, w_evF, a_alT, a_alN, a_stl, k_pm1, k_pm2, tB, oK_some, a_at, a_atB, a_atD, a_opb, a_opa, a_cmb, a_cma, a_ixb, a_ixa, a_neg, a_chT, a_chF, a_cha2, a_cha, a_brAT, a_brAF, a_brOT, a_brOF, a_brIT, a_brIF, a_brST, a_brSF, a_and, a_or, a_not, a_ite, a_if, a_prim, a_isi, a_set, a_slb, a_o, a_src, a_rng, a_bo0, a_bo1, a_brCT, a_brCF, a_cond, a_sid, a_sic, a_sib, a_mea, a_meb, a_mec, b_add, b_sub, c_lt, c_le, c_gt, c_ge, c_eqI, c_neI, c_eqS, c_neS, c_isB, c_isnotB, p_lenL, p_lenT, p_int, p_max, p_min, p_tupL, p_lstT, p_lstL, i_l, i_t, at0, at1, at2, t_bool, s_l, s_t, bp_nm, bp_tp, bps0, bps1, sr_l, sr_t, sr_n, startE, wipe, List.map_cons, List.map_nil, List.length_cons, List.length_nil, List.replicate, List.cons_append, List.nil_append, List.append_nil, Nat.reduceAdd, Nat.reduceSub, Nat.reduceMul, List.getElem?_cons_zero, List.getElem?_cons_succ, List.getElem?_nil, List.set_cons_zero, List.set_cons_succ, List.mapM_cons, List.mapM_nil, Option.pure_def, Option.bind_eq_bind, Option.bind_some, Bool.not_true, Bool.not_false, show isiD .int (.tuple y) = false from rfl, isNum, List.take_length]
  | dict y => simp only [w_var, a_var, w_con, w_glo, w_op, k_op1, k_op2, w_neg, k_neg, w_cmp, k_cm1, k_cm2, w_chain, k_ch1, k_ch2, w_and, k_and, w_or, k_or, w_not, k_not, w_ite, k_ite, w_tup, k_tup, w_lst, k_lst, w_call, k_call, w_prim, k_prim, w_isi, k_isi, w_ix, k_ix1, k_ix2, w_ts0, w_ts, k_ts1, k_ts2, w_ds0, w_ds, k_ds1d, k_ds1n, k_ds2, x_nil, x_cons, x_set, k_set, x_setM, k_setMt, k_setMn, x_expr, k_expr, x_ret, k_ret, x_retN, x_pass, x_ife, k_if, x_for, k_for, k_finN, k_finD, k_finL, st_t, st_n, rd_d, rd_ref, w_sl, k_sl, k_sl1, k_sl2, w_o0, w_o_var, w_o_con, w_o_op, k_o, w_it_var, w_it_con, w_it_ix, w_it_lst, w_it_tup, w_it_call, w_it_prim, w_it_sl, w_it_op, w_it_comp, w_it_ite, k_src, w_rng, k_rng, w_comp, k_comp, k_eltD, k_eltN, k_cond, body0, body1, x_setI, k_si1, k_si2, k_si3, w_meth, k_me1, k_me2, nxt_next, nxt_ret, nxt_brk, nxt_cont, wp_ok, wps_ok, w_dct0, a_dct1, wps_bt, a_bt, x_parM, w_evT, w_evF, a_alT, a_alN, a_stl, k_pm1, k_pm2, tB, oK_some, a_at, a_atB, a_atD, a_opb, a_opa, a_cmb, a_cma, a_ixb, a_ixa, a_neg, a_chT, a_chF, a_cha2, a_cha, a_brAT, a_brAF, a_brOT, a_brOF, a_brIT, a_brIF, a_brST, a_brSF, a_and, a_or, a_not, a_ite, a_if, a_prim, a_isi, a_set, a_slb, a_o, a_src, a_rng, a_bo0, a_bo1, a_brCT, a_brCF, a_cond, a_sid, a_sic, a_sib, a_mea, a_meb, a_mec, b_add, b_sub, c_lt, c_le, c_gt, c_ge, c_eqI, c_neI, c_eqS, c_neS, c_isB, c_isnotB, p_lenL, p_lenT, p_int, p_max, p_min, p_tupL, p_lstT, p_lstL, i_l, i_t, at0, at1, at2, t_bool, s_l, s_t, bp_nm, bp_tp, bps0, bps1, sr_l, sr_t, sr_n, startE, wipe, List.map_cons, List.map_nil, List.length_cons, List.length_nil, List.replicate, List.cons_append, List.nil_append, List.append_nil, Nat.reduceAdd, Nat.reduceSub, Nat.reduceMul, List.getElem?_cons_zero, List.getElem?_cons_succ, List.getElem?_nil, List.set_cons_zero, List.set_cons_succ, List.mapM_cons, List.mapM_nil, Option.pure_def, Option.bind_eq_bind, Option.bind_some, Bool.not_true, Bool.not_false, show isiD .int (.dict y) = false from rfl, isNum, List.take_length]
theorem p_num : (callN tbl wf (n + 1) 0 [.d x, .d (.int lo), .d (.int hi)] st).wp k = k (.t (.d (.bool (isNum x lo hi)))) st := by
  rw [wp_callN (d := d_is_number) rfl rfl]
  exact num_core (b := []) _
theorem q_num : (callN tbl wf (n + 1) 14 [.d x, .d (.int lo), .d (.int hi)] st).wp k = k (.t (.d (.bool (isNum x lo hi)))) st := by
  rw [wp_callN (d := d__law_is_number) rfl rfl]
  exact num_core (b := []) _
def isLife (x : D) (lo hi : Int) : Bool := match x with
  | .tuple [.int i, .int j] => decide (lo ≤ i) && decide (i ≤ j) && decide (j ≤ hi)
  | _ => false
theorem not_tup (h : ∀ xs, x ≠ .tuple xs) : isiD .tuple x = false := by
  cases x <;> first | rfl | exact absurd rfl (h _)
theorem len2 {xs : List D} (h : decide ((xs.length : Int) = 2) = true) : ∃ a b, xs = [a, b] := by
  have h : (xs.length : Int) = 2 := of_decide_eq_true h
  match xs, h with
  | [a, b], _ => exact ⟨a, b, rfl⟩
  | [], h => simp at h
  | [_], h => simp at h
  | _ :: _ :: _ :: _, h => simp at h; omega
theorem life_no {x : D} (h : ∀ a b, x ≠ .tuple [a, b]) : isLife x lo hi = false := by
  unfold isLife
  split
  · exact absurd rfl (h _ _)
  · rfl
theorem life_two {a b : D} : isLife (.tuple [a, b]) lo hi = match a, b with
  | .int i, .int j => decide (lo ≤ i) && decide (i ≤ j) && decide (j ≤ hi)
  | _, _ => false := by
  cases a <;> cases b <;> rfl
theorem p_life : (callN tbl wf (n + 2) 1 [.d x, .d (.int lo), .d (.int hi)] st).wp k = k (.t (.d (.bool (isLife x lo hi)))) st := by
  rw [wp_callN (d := d_is_life) rfl rfl]
  unfold d_is_life
  by_cases ht : ∃ xs, x = .tuple xs
  · obtain ⟨xs, rfl⟩ := ht
    simp only [w_var, a_var, w_con, w_glo, w_op, k_op1, k_op2, w_neg, k_neg, w_cmp, k_cm1, k_cm2, w_chain, k_ch1, k_ch2, w_and, k_and, w_or, k_or, w_not, k_not, w_ite, k_ite, w_tup, k_tup, w_lst, k_lst, w_call, k_call, w_prim, k_prim, w_isi, k_isi, w_ix, k_ix1, k_ix2, w_ts0, w_ts, k_ts1, k_ts2, w_ds0, w_ds, k_ds1d, k_ds1n, k_ds2, x_nil, x_cons, x_set, k_set, x_setM, k_setMt, k_setMn, x_expr, k_expr, x_ret, k_ret, x_retN, x_pass, x_ife, k_if, x_for, k_for, k_finN, k_finD, k_finL, st_t, st_n, rd_d, rd_ref, w_sl, k_sl, k_sl1, k_sl2, w_o0, w_o_var, w_o_con, w_o_op, k_o, w_it_var, w_it_con, w_it_ix, w_it_lst, w_it_tup, w_it_call, w_it_prim, w_it_sl, w_it_op, w_it_comp, w_it_ite, k_src, w_rng, k_rng, w_comp, k_comp, k_eltD, k_eltN, k_cond, body0, body1, x_setI, k_si1, k_si2, k_si3, w_meth, k_me1, k_me2, nxt_next, nxt_ret, nxt_brk, nxt_cont, wp_ok, wps_ok, w_dct0, a_dct1, wps_bt, a_bt, x_parM, w_evT, w_evF, a_alT, a_alN, a_stl, k_pm1, k_pm2, tB, oK_some, a_at, a_atB, a_atD, a_opb, a_opa, a_cmb, a_cma, a_ixb, a_ixa, a_neg, a_chT, a_chF, a_cha2, a_cha, a_brAT, a_brAF, a_brOT, a_brOF, a_brIT, a_brIF, a_brST, a_brSF, a_and, a_or, a_not, a_ite, a_if, a_prim, a_isi, a_set, a_slb, a_o, a_src, a_rng, a_bo0, a_bo1, a_brCT, a_brCF, a_cond, a_sid, a_sic, a_sib, a_mea, a_meb, a_mec, b_add, b_sub, c_lt, c_le, c_gt, c_ge, c_eqI, c_neI, c_eqS, c_neS, c_isB, c_isnotB, p_lenL, p_lenT, p_int, p_max, p_min, p_tupL, p_lstT, p_lstL, i_l, i_t, at0, at1, at2, t_bool, s_l, s_t, bp_nm, bp_tp, bps0, bps1, sr_l, sr_t, sr_n, startE, wipe, List.map_cons, List.map_nil, List.length_cons, List.length_nil, List.replicate, List.cons_append, List.nil_append, List.append_nil, Nat.reduceAdd, Nat.reduceSub, Nat.reduceMul, List.getElem?_cons_zero, List.getElem?_cons_succ, List.getElem?_nil, List.set_cons_zero, List.set_cons_succ, List.mapM_cons, List.mapM_nil, Option.pure_def, Option.bind_eq_bind, Option.bind_some, Bool.not_true, Bool.not_false, show isiD .tuple (.tuple xs) = true from rfl]
    cases h2 : decide ((xs.length : Int) = 2) with
    | false =>
      have hz : isLife (.tuple xs) lo hi = false := life_no fun a b e => by cases e; simp at h2
      simp only [w_var, a_var, w_con, w_glo, w_op, k_op1, k_op2, w_neg, k_neg, w_cmp, k_cm1, k_cm2, w_chain, k_ch1, k_ch2, w_and, k_and, w_or, k_or, w_not, k_not, w_ite, k_ite, w_tup, k_tup, w_lst, k_lst, w_call, k_call, w_prim, k_prim, w_isi, k_isi, w_ix, k_ix1, k_ix2, w_ts0, w_ts, k_ts1, k_ts2, w_ds0, w_ds, k_ds1d, k_ds1n, k_ds2, x_nil, x_cons, x_set, k_set, x_setM, k_setMt, k_setMn, x_expr, k_expr, x_ret, k_ret, x_retN, x_pass, x_ife, k_if, x_for, k_for, k_finN, k_finD, k_finL, st_t, st_n, rd_d, rd_ref, w_sl, k_sl, k_sl1, k_sl2, w_o0, w_o_var, w_o_con, w_o_op, k_o, w_it_var, w_it_con, w_it_ix, w_it_lst, w_it_tup, w_it_call, w_it_prim, w_it_sl, w_it_op, w_it_comp, w_it_ite, k_src, w_rng, k_rng, w_comp, k_comp, k_eltD, k_eltN, k_cond, body0, body1, x_setI, k_si1, k_si2, k_si3, w_meth, k_me1, k_me2, nxt_next, nxt_ret, nxt_brk, nxt_cont, wp_ok, wps_ok, w_dct0, a_dct1, wps_bt, a_bt, x_parM, w_evT, w_evF, a_alT, a_alN, a_stl, k_pm1, k_pm2, tB, oK_some, a_at, a_atB, a_atD, a_opb, a_opa, a_cmb, a_cma, a_ixb, a_ixa, a_neg, a_chT, a_chF, a_cha2, a_cha, a_brAT, a_brAF, a_brOT, a_brOF, a_brIT, a_brIF, a_brST, a_brSF, a_and, a_or, a_not, a_ite, a_if, a_prim, a_isi, a_set, a_slb, a_o, a_src, a_rng, a_bo0, a_bo1, a_brCT, a_brCF, a_cond, a_sid, a_sic, a_sib, a_mea, a_meb, a_mec, b_add, b_sub, c_lt, c_le, c_gt, c_ge, c_eqI, c_neI, c_eqS, c_neS, c_isB, c_isnotB, p_lenL, p_lenT, p_int, p_max, p_min, p_tupL, p_lstT, p_lstL, i_l, i_t, at0, at1, at2, t_bool, s_l, s_t, bp_nm, bp_tp, bps0, bps1, sr_l, sr_t, sr_n, startE, wipe, List.map_cons, List.map_nil, List.length_cons, List.length_nil, List.replicate, List.cons_append, List.nil_append, List.append_nil, Nat.reduceAdd, Nat.reduceSub, Nat.reduceMul, List.getElem?_cons_zero, List.getElem?_cons_succ, List.getElem?_nil, List.set_cons_zero, List.set_cons_succ, List.mapM_cons, List.mapM_nil, Option.pure_def, Option.bind_eq_bind, Option.bind_some, Bool.not_true, Bool.not_false, hz, List.take_length]
    | true =>
      obtain ⟨a, b, rfl⟩ := len2 h2
      simp only [w_var, a_var, w_con, w_glo, w_op, k_op1, k_op2, w_neg, k_neg, w_cmp, k_cm1, k_cm2, w_chain, k_ch1, k_ch2, w_and, k_and, w_or, k_or, w_not, k_not, w_ite, k_ite, w_tup, k_tup, w_lst, k_lst, w_call, k_call, w_prim, k_prim, w_isi, k_isi, w_ix, k_ix1, k_ix2, w_ts0, w_ts, k_ts1, k_ts2, w_ds0, w_ds, k_ds1d, k_ds1n, k_ds2, x_nil, x_cons, x_set, k_set, x_setM, k_setMt, k_setMn, x_expr, k_expr, x_ret, k_ret, x_retN, x_pass, x_ife, k_if, x_for, k_for, k_finN, k_finD, k_finL, st_t, st_n, rd_d, rd_ref, w_sl, k_sl, k_sl1, k_sl2, w_o0, w_o_var, w_o_con, w_o_op, k_o, w_it_var, w_it_con, w_it_ix, w_it_lst, w_it_tup, w_it_call, w_it_prim, w_it_sl, w_it_op, w_it_comp, w_it_ite, k_src, w_rng, k_rng, w_comp, k_comp, k_eltD, k_eltN, k_cond, body0, body1, x_setI, k_si1, k_si2, k_si3, w_meth, k_me1, k_me2, nxt_next, nxt_ret, nxt_brk, nxt_cont, wp_ok, wps_ok, w_dct0, a_dct1, wps_bt, a_bt, x_parM, w_evT, w_evF, a_alT, a_alN, a_stl, k_pm1, k_pm2, tB, oK_some, a_at, a_atB, a_atD, a_opb, a_opa, a_cmb, a_cma, a_ixb, a_ixa, a_neg, a_chT, a_chF, a_cha2, a_cha, a_brAT, a_brAF, a_brOT, a_brOF, a_brIT, a_brIF, a_brST, a_brSF, a_and, a_or, a_not, a_ite, a_if, a_prim, a_isi, a_set, a_slb, a_o, a_src, a_rng, a_bo0, a_bo1, a_brCT, a_brCF, a_cond, a_sid, a_sic, a_sib, a_mea, a_meb, a_mec, b_add, b_sub, c_lt, c_le, c_gt, c_ge, c_eqI, c_neI, c_eqS, c_neS, c_isB, c_isnotB, p_lenL, p_lenT, p_int, p_max, p_min, p_tupL, p_lstT, p_lstL, i_l, i_t, at0, at1, at2, t_bool, s_l, s_t, bp_nm, bp_tp, bps0, bps1, sr_l, sr_t, sr_n, startE, wipe, List.map_cons, List.map_nil, List.length_cons, List.length_nil, List.replicate, List.cons_append, List.nil_append, List.append_nil, Nat.reduceAdd, Nat.reduceSub, Nat.reduceMul, List.getElem?_cons_zero, List.getElem?_cons_succ, List.getElem?_nil, List.set_cons_zero, List.set_cons_succ, List.mapM_cons, List.mapM_nil, Option.pure_def, Option.bind_eq_bind, Option.bind_some, Bool.not_true, Bool.not_false]
      rw [compL_pure (h := fun y => some (.bool (isNum y lo hi))) (fun y hy ko => by simp only [w_var, a_var, w_con, w_glo, w_op, k_op1, k_op2, w_neg, k_neg, w_cmp, k_cm1, k_cm2, w_chain, k_ch1, k_ch2, w_and, k_and, w_or, k_or, w_not, k_not, w_ite, k_ite, w_tup, k_tup, w_lst, k_lst, w_call, k_call, w_prim, k_prim, w_isi, k_isi, w_ix, k_ix1, k_ix2, w_ts0, w_ts, k_ts1, k_ts2, w_ds0, w_ds, k_ds1d, k_ds1n, k_ds2, x_nil, x_cons, x_set, k_set, x_setM, k_setMt, k_setMn, x_expr, k_expr, x_ret, k_ret, x_retN, x_pass, x_ife, k_if, x_for, k_for, k_finN, k_finD, k_finL, st_t, st_n, rd_d, rd_ref, w_sl, k_sl, k_sl1, k_sl2, w_o0, w_o_var, w_o_con, w_o_op, k_o, w_it_var, w_it_con, w_it_ix, w_it_lst, w_it_tup, w_it_call, w_it_prim, w_it_sl, w_it_op, w_it_comp, w_it_ite, k_src, w_rng, k_rng, w_comp, k_comp, k_eltD, k_eltN, k_cond, body0, body1, x_setI, k_si1, k_si2, k_si3, w_meth, k_me1, k_me2, nxt_next, nxt_ret, nxt_brk, nxt_cont, wp_ok, wps_ok, w_dct0, a_dct1, wps_bt, a_bt, x_parM, w_evT, w_evF, a_alT, a_alN, a_stl, k_pm1, k_pm2, tB, oK_some, a_at, a_atB, a_atD, a_opb, a_opa, a_cmb, a_cma, a_ixb, a_ixa, a_neg, a_chT, a_chF, a_cha2, a_cha, a_brAT, a_brAF, a_brOT, a_brOF, a_brIT, a_brIF, a_brST, a_brSF, a_and, a_or, a_not, a_ite, a_if, a_prim, a_isi, a_set, a_slb, a_o, a_src, a_rng, a_bo0, a_bo1, a_brCT, a_brCF, a_cond, a_sid, a_sic, a_sib, a_mea, a_meb, a_mec, b_add, b_sub, c_lt, c_le, c_gt, c_ge, c_eqI, c_neI, c_eqS, c_neS, c_isB, c_isnotB, p_lenL, p_lenT, p_int, p_max, p_min, p_tupL, p_lstT, p_lstL, i_l, i_t, at0, at1, at2, t_bool, s_l, s_t, bp_nm, bp_tp, bps0, bps1, sr_l, sr_t, sr_n, startE, wipe, List.map_cons, List.map_nil, List.length_cons, List.length_nil, List.replicate, List.cons_append, List.nil_append, List.append_nil, Nat.reduceAdd, Nat.reduceSub, Nat.reduceMul, List.getElem?_cons_zero, List.getElem?_cons_succ, List.getElem?_nil, List.set_cons_zero, List.set_cons_succ, List.mapM_cons, List.mapM_nil, Option.pure_def, Option.bind_eq_bind, Option.bind_some, Bool.not_true, Bool.not_false, p_num])]
      have pa : primD .all [.list [.bool (isNum a lo hi), .bool (isNum b lo hi)]] = some (.t (.d (.bool ([isNum a lo hi, isNum b lo hi].all id)))) := rfl
      simp only [w_var, a_var, w_con, w_glo, w_op, k_op1, k_op2, w_neg, k_neg, w_cmp, k_cm1, k_cm2, w_chain, k_ch1, k_ch2, w_and, k_and, w_or, k_or, w_not, k_not, w_ite, k_ite, w_tup, k_tup, w_lst, k_lst, w_call, k_call, w_prim, k_prim, w_isi, k_isi, w_ix, k_ix1, k_ix2, w_ts0, w_ts, k_ts1, k_ts2, w_ds0, w_ds, k_ds1d, k_ds1n, k_ds2, x_nil, x_cons, x_set, k_set, x_setM, k_setMt, k_setMn, x_expr, k_expr, x_ret, k_ret, x_retN, x_pass, x_ife, k_if, x_for, k_for, k_finN, k_finD, k_finL, st_t, st_n, rd_d, rd_ref, w_sl, k_sl, k_sl1, k_sl2, w_o0, w_o_var, w_o_con, w_o_op, k_o, w_it_var, w_it_con, w_it_ix, w_it_lst, w_it_tup, w_it_call, w_it_prim, w_it_sl, w_it_op, w_it_comp, w_it_ite, k_src, w_rng, k_rng, w_comp, k_comp, k_eltD, k_eltN, k_cond, body0, body1, x_setI, k_si1, k_si2, k_si3, w_meth, k_me1, k_me2, nxt_next, nxt_ret, nxt_brk, nxt_cont, wp_ok, wps_ok, w_dct0, a_dct1, wps_bt, a_bt, x_parM, w_evT, w_evF, a_alT, a_alN, a_stl, k_pm1, k_pm2, tB, oK_some, a_at, a_atB, a_atD, a_opb, a_opa, a_cmb, a_cma, a_ixb, a_ixa, a_neg, a_chT, a_chF, a_cha2, a_cha, a_brAT, a_brAF, a_brOT, a_brOF, a_brIT, a_brIF, a_brST, a_brSF, a_and, a_or, a_not, a_ite, a_if, a_prim, a_isi, a_set, a_slb, a_o, a_src, a_rng, a_bo0, a_bo1, a_brCT, a_brCF, a_cond, a_sid, a_sic, a_sib, a_mea, a_meb, a_mec, b_add, b_sub, c_lt, c_le, c_gt, c_ge, c_eqI, c_neI, c_eqS, c_neS, c_isB, c_isnotB, p_lenL, p_lenT, p_int, p_max, p_min, p_tupL, p_lstT, p_lstL, i_l, i_t, at0, at1, at2, t_bool, s_l, s_t, bp_nm, bp_tp, bps0, bps1, sr_l, sr_t, sr_n, startE, wipe, List.map_cons, List.map_nil, List.length_cons, List.length_nil, List.replicate, List.cons_append, List.nil_append, List.append_nil, Nat.reduceAdd, Nat.reduceSub, Nat.reduceMul, List.getElem?_cons_zero, List.getElem?_cons_succ, List.getElem?_nil, List.set_cons_zero, List.set_cons_succ, List.mapM_cons, List.mapM_nil, Option.pure_def, Option.bind_eq_bind, Option.bind_some, Bool.not_true, Bool.not_false, List.filterMap_cons, List.filterMap_nil, pa, List.all_cons, List.all_nil, id, Bool.and_true]
      cases a with
      | int i =>
        cases b with
        | int j =>
          simp only [w_var, a_var, w_con, w_glo, w_op, k_op1, k_op2, w_neg, k_neg, w_cmp, k_cm1, k_cm2, w_chain, k_ch1, k_ch2, w_and, k_and, w_or, k_or, w_not, k_not, w_ite, k_ite, w_tup, k_tup, w_lst, k_lst, w_call, k_call, w_prim, k_prim, w_isi, k_isi, w_ix, k_ix1, k_ix2, w_ts0, w_ts, k_ts1, k_ts2, w_ds0, w_ds, k_ds1d, k_ds1n, k_ds2, x_nil, x_cons, x_set, k_set, x_setM, k_setMt, k_setMn, x_expr, k_expr, x_ret, k_ret, x_retN, x_pass, x_ife, k_if, x_for, k_for, k_finN, k_finD, k_finL, st_t, st_n, rd_d, rd_ref, w_sl, k_sl, k_sl1, k_sl2, w_o0, w_o_var, w_o_con, w_o_op, k_o, w_it_var, w_it_con, w_it_ix, w_it_lst, w_it_tup, w_it_call, w_it_prim, w_it_sl, w_it_op, w_it_comp, w_it_ite, k_src, w_rng, k_rng, w_comp, k_comp, k_eltD, k_eltN, k_cond, body0, body1, x_setI, k_si1, k_si2, k_si3, w_meth, k_me1, k_me2, nxt_next, nxt_ret, nxt_brk, nxt_cont, wp_ok, wps_ok, w_dct0, a_dct1, wps_bt, a_bt, x_parM, w_evT, w_evF, a_alT, a_alN, a_stl, k_pm1, k_pm2, tB, oK_some, a_at, a_atB, a_atD, a_opb, a_opa, a_cmb, a_cma, a_ixb, a_ixa, a_neg, a_chT, a_chF, a_cha2, a_cha, a_brAT, a_brAF, a_brOT, a_brOF, a_brIT, a_brIF, a_brST, a_brSF, a_and, a_or, a_not, a_ite, a_if, a_prim, a_isi, a_set, a_slb, a_o, a_src, a_rng, a_bo0, a_bo1, a_brCT, a_brCF, a_cond, a_sid, a_sic, a_sib, a_mea, a_meb, a_mec, b_add, b_sub, c_lt, c_le, c_gt, c_ge, c_eqI, c_neI, c_eqS, c_neS, c_isB, c_isnotB, p_lenL, p_lenT, p_int, p_max, p_min, p_tupL, p_lstT, p_lstL, i_l, i_t, at0, at1, at2, t_bool, s_l, s_t, bp_nm, bp_tp, bps0, bps1, sr_l, sr_t, sr_n, startE, wipe, List.map_cons, List.map_nil, List.length_cons, List.length_nil, List.replicate, List.cons_append, List.nil_append, List.append_nil, Nat.reduceAdd, Nat.reduceSub, Nat.reduceMul, List.getElem?_cons_zero, List.getElem?_cons_succ, List.getElem?_nil, List.set_cons_zero, List.set_cons_succ, List.mapM_cons, List.mapM_nil, Option.pure_def, Option.bind_eq_bind, Option.bind_some, Bool.not_true, Bool.not_false, isNum, isLife]
          by_cases h1 : lo ≤ i <;> by_cases h3 : i ≤ hi <;> by_cases h4 : lo ≤ j <;> by_cases h5 : j ≤ hi <;> by_cases h6 : i ≤ j <;> simp only [h1, h3, h4, h5, h6, decide_true, decide_false, Bool.and_true, Bool.and_false, Bool.true_and, Bool.false_and] <;> first | (simp only [w_var, a_var, w_con, w_glo, w_op, k_op1, k_op2, w_neg, k_neg, w_cmp, k_cm1, k_cm2, w_chain, k_ch1, k_ch2, w_and, k_and, w_or, k_or, w_not, k_not, w_ite, k_ite, w_tup, k_tup, w_lst, k_lst, w_call, k_call, w_prim, k_prim, w_isi, k_isi, w_ix, k_ix1, k_ix2, w_ts0, w_ts, k_ts1, k_ts2, w_ds0, w_ds, k_ds1d, k_ds1n, k_ds2, x_nil, x_cons, x_set, k_set, x_setM, k_setMt, k_setMn, x_expr, k_expr, x_ret, k_ret, x_retN, x_pass, x_ife, k_if, x_for, k_for, k_finN, k_finD, k_finL, st_t, st_n, rd_d, rd_ref, w_sl, k_sl, k_sl1, k_sl2, w_o0, w_o_var, w_o_con, w_o_op, k_o, w_it_var, w_it_con, w_it_ix, w_it_lst, w_it_tup, w_it_call, w_it_prim, w_it_sl, w_it_op, w_it_comp, w_it_ite, k_src, w_rng, k_rng, w_comp, k_comp, k_eltD, k_eltN, k_cond, body0, body1, x_setI, k_si1, k_si2, k_si3, w_meth, k_me1, k_me2, nxt_next, nxt_ret, nxt_brk, nxt_cont, wp_ok, wps_ok, w_dct0, a_dct1, wps_bt, a_bt, x_parM, w_evT, w_evF, a_alT, a_alN, a_stl, k_pm1, k_pm2, tB, oK_some, a_at, a_atB, a_atD, a_opb, a_opa, a_cmb, a_cma, a_ixb, a_ixa, a_neg, a_chT, a_chF, a_cha2, a_cha, a_brAT, a_brAF, a_brOT, a_brOF, a_brIT, a_brIF, a_brST, a_brSF, a_and, a_or, a_not, a_ite, a_if, a_prim, a_isi, a_set, a_slb, a_o, a_src, a_rng, a_bo0, a_bo1, a_brCT, a_brCF, a_cond, a_sid, a_sic, a_sib, a_mea, a_meb, a_mec, b_add, b_sub, c_lt, c_le, c_gt, c_ge, c_eqI, c_neI, c_eqS, c_neS, c_isB, c_isnotB, p_lenL, p_lenT, p_int, p_max, p_min, p_tupL, p_lstT, p_lstL, i_l, i_t, at0, at1, at2, t_bool, s_l, s_t, bp_nm, bp_tp, bps0, bps1, sr_l, sr_t, sr_n, startE, wipe, List.map_cons, List.map_nil, List.length_cons, List.length_nil, List.replicate, List.cons_append, List.nil_append, List.append_nil, Nat.reduceAdd, Nat.reduceSub, Nat.reduceMul, List.getElem?_cons_zero, List.getElem?_cons_succ, List.getElem?_nil, List.set_cons_zero, List.set_cons_succ, List.mapM_cons, List.mapM_nil, Option.pure_def, Option.bind_eq_bind, Option.bind_some, Bool.not_true, Bool.not_false, List.take_length, h1, h3, h4, h5, h6, decide_true, decide_false]; done) | (exfalso; omega)
        | _ => simp only [w_var, a_var, w_con, w_glo, w_op, k_op1, k_op2, w_neg, k_neg, w_cmp, k_cm1, k_cm2, w_chain, k_ch1, k_ch2, w_and, k_and, w_or, k_or, w_not, k_not, w_ite, k_ite, w_tup, k_tup, w_lst, k_lst, w_call, k_call, w_prim, k_prim, w_isi, k_isi, w_ix, k_ix1, k_ix2, w_ts0, w_ts, k_ts1, k_ts2, w_ds0, w_ds, k_ds1d, k_ds1n, k_ds2, x_nil, x_cons, x_set, k_set, x_setM, k_setMt, k_setMn, x_expr, k_expr, x_ret, k_ret, x_retN, x_pass, x_ife, k_if, x_for, k_for, k_finN, k_finD, k_finL, st_t, st_n, rd_d, rd_ref, w_sl, k_sl, k_sl1, k_sl2, w_o0, w_o_var, w_o_con, w_o_op, k_o, w_it_var, w_it_con, w_it_ix, w_it_lst, w_it_tup, w_it_call, w_it_prim, w_it_sl, w_it_op, w_it_comp, w_it_ite, k_src, w_rng, k_rng, w_comp, k_comp, k_eltD, k_eltN, k_cond, body0, body1, x_setI, k_si1, k_si2, k_si3, w_meth, k_me1, k_me2, nxt_next, nxt_ret, nxt_brk, nxt_cont, wp_ok, wps_ok, w_dct0, a_dct1, wps_bt, a_bt, x_parM, w_evT, w_evF, a_alT, a_alN, a_stl, k_pm1, k_pm2, tB, oK_some, a_at, a_atB, a_atD, a_opb, a_opa, a_cmb, a_cma, a_ixb, a_ixa, a_neg, a_chT, a_chF, a_cha2, a_cha, a_brAT, a_brAF, a_brOT, a_brOF, a_brIT, a_brIF, a_brST, a_brSF, a_and, a_or, a_not, a_ite, a_if, a_prim, a_isi, a_set, a_slb, a_o, a_src, a_rng, a_bo0, a_bo1, a_brCT, a_brCF, a_cond, a_sid, a_sic, a_sib, a_mea, a_meb, a_mec, b_add, b_sub, c_lt, c_le, c_gt, c_ge, c_eqI, c_neI, c_eqS, c_neS, c_isB, c_isnotB, p_lenL, p_lenT, p_int, p_max, p_min, p_tupL, p_lstT, p_lstL, i_l, i_t, at0, at1, at2, t_bool, s_l, s_t, bp_nm, bp_tp, bps0, bps1, sr_l, sr_t, sr_n, startE, wipe, List.map_cons, List.map_nil, List.length_cons, List.length_nil, List.replicate, List.cons_append, List.nil_append, List.append_nil, Nat.reduceAdd, Nat.reduceSub, Nat.reduceMul, List.getElem?_cons_zero, List.getElem?_cons_succ, List.getElem?_nil, List.set_cons_zero, List.set_cons_succ, List.mapM_cons, List.mapM_nil, Option.pure_def, Option.bind_eq_bind, Option.bind_some, Bool.not_true, Bool.not_false, isNum, isLife, Bool.and_false, List.take_length]
      | _ => simp only [w_var, a_var, w_con, w_glo, w_op, k_op1, k_op2, w_neg, k_neg, w_cmp, k_cm1, k_cm2, w_chain, k_ch1, k_ch2, w_and, k_and, w_or, k_or, w_not, k_not, w_ite, k_ite, w_tup, k_tup, w_lst, k_lst, w_call, k_call, w_prim, k_prim, w_isi, k_isi, w_ix, k_ix1, k_ix2, w_ts0, w_ts, k_ts1, k_ts2, w_ds0, w_ds, k_ds1d, k_ds1n, k_ds2, x_nil, x_cons, x_set, k_set, x_setM, k_setMt, k_setMn, x_expr, k_expr, x_ret, k_ret, x_retN, x_pass, x_ife, k_if, x_for, k_for, k_finN, k_finD, k_finL, st_t, st_n, rd_d, rd_ref, w_sl, k_sl, k_sl1, k_sl2, w_o0, w_o_var, w_o_con, w_o_op, k_o, w_it_var, w_it_con, w_it_ix, w_it_lst, w_it_tup, w_it_call, w_it_prim, w_it_sl, w_it_op, w_it_comp, w_it_ite, k_src, w_rng, k_rng, w_comp, k_comp, k_eltD, k_eltN, k_cond, body0, body1, x_setI, k_si1, k_si2, k_si3, w_meth, k_me1, k_me2, nxt_next, nxt_ret, nxt_brk, nxt_cont, wp_ok, wps_ok, w_dct0, a_dct1, wps_bt, a_bt, x_parM, w_evT, w_evF, a_alT, a_alN, a_stl, k_pm1, k_pm2, tB, oK_some, a_at, a_atB, a_atD, a_opb, a_opa, a_cmb, a_cma, a_ixb, a_ixa, a_neg, a_chT, a_chF, a_cha2, a_cha, a_brAT, a_brAF, a_brOT, a_brOF, a_brIT, a_brIF, a_brST, a_brSF, a_and, a_or, a_not, a_ite, a_if, a_prim, a_isi, a_set, a_slb, a_o, a_src, a_rng, a_bo0, a_bo1, a_brCT, a_brCF, a_cond, a_sid, a_sic, a_sib, a_mea, a_meb, a_mec, b_add, b_sub, c_lt, c_le, c_gt, c_ge, c_eqI, c_neI, c_eqS, c_neS, c_isB, c_isnotB, p_lenL, p_lenT, p_int, p_max, p_min, p_tupL, p_lstT, p_lstL, i_l, i_t, at0, at1, at2, t_bool, s_l, s_t, bp_nm, bp_tp, bps0, bps1, sr_l, sr_t, sr_n, startE, wipe, List.map_cons, List.map_nil, List.length_cons, List.length_nil, List.replicate, List.cons_append, List.nil_append, List.append_nil, Nat.reduceAdd, Nat.reduceSub, Nat.reduceMul, List.getElem?_cons_zero, List.getElem?_cons_succ, List.getElem?_nil, List.set_cons_zero, List.set_cons_succ, List.mapM_cons, List.mapM_nil, Option.pure_def, Option.bind_eq_bind, Option.bind_some, Bool.not_true, Bool.not_false, isNum, isLife, Bool.false_and, List.take_length]
  · have hz : isLife x lo hi = false := life_no fun a b e => ht ⟨_, e⟩
    simp only [w_var, a_var, w_con, w_glo, w_op, k_op1, k_op2, w_neg, k_neg, w_cmp, k_cm1, k_cm2, w_chain, k_ch1, k_ch2, w_and, k_and, w_or, k_or, w_not, k_not, w_ite, k_ite, w_tup, k_tup, w_lst, k_lst, w_call, k_call, w_prim, k_prim, w_isi, k_isi, w_ix, k_ix1, k_ix2, w_ts0, w_ts, k_ts1, k_ts2, w_ds0, w_ds, k_ds1d, k_ds1n, k_ds2, x_nil, x_cons, x_set, k_set, x_setM, k_setMt, k_setMn, x_expr, k_expr, x_ret, k_ret, x_retN, x_pass, x_ife, k_if, x_for, k_for, k_finN, k_finD, k_finL, st_t, st_n, rd_d, rd_ref, w_sl, k_sl, k_sl1, k_sl2, w_o0, w_o_var, w_o_con, w_o_op, k_o, w_it_var, w_it_con, w_it_ix, w_it_lst, w_it_tup, w_it_call, w_it_prim, w_it_sl, w_it_op, w_it_comp, w_it_ite, k_src, w_rng, k_rng, w_comp, k_comp, k_eltD, k_eltN, k_cond, body0, body1, x_setI, k_si1, k_si2, k_si3, w_meth, k_me1, k_me2, nxt_next, nxt_ret, nxt_brk, nxt_cont, wp_ok, wps_ok, w_dct0, a_dct1, wps_bt, a_bt, x_parM, w_evT, w_evF, a_alT, a_alN, a_stl, k_pm1, k_pm2, tB, oK_some, a_at, a_atB, a_atD, a_opb, a_opa, a_cmb, a_cma, a_ixb, a_ixa, a_neg, a_chT, a_chF, a_cha2, a_cha, a_brAT, a_brAF, a_brOT, a_brOF, a_brIT, a_brIF, a_brST, a_brSF, a_and, a_or, a_not, a_ite, a_if, a_prim, a_isi, a_set, a_slb, a_o, a_src, a_rng, a_bo0, a_bo1, a_brCT, a_brCF, a_cond, a_sid, a_sic, a_sib, a_mea, a_meb, a_mec, b_add, b_sub, c_lt, c_le, c_gt, c_ge, c_eqI, c_neI, c_eqS, c_neS, c_isB, c_isnotB, p_lenL, p_lenT, p_int, p_max, p_min, p_tupL, p_lstT, p_lstL, i_l, i_t, at0, at1, at2, t_bool, s_l, s_t, bp_nm, bp_tp, bps0, bps1, sr_l, sr_t, sr_n, startE, wipe, List.map_cons, List.map_nil, List.length_cons, List.length_nil, List.replicate, List.cons_append, List.nil_append, List.append_nil, Nat.reduceAdd, Nat.reduceSub, Nat.reduceMul, List.getElem?_cons_zero, List.getElem?_cons_succ, List.getElem?_nil, List.set_cons_zero, List.set_cons_succ, List.mapM_cons, List.mapM_nil, Option.pure_def, Option.bind_eq_bind, Option.bind_some, Bool.not_true, Bool.not_false, not_tup fun xs e => ht ⟨xs, e⟩, hz, List.take_length]
end
end Lw


namespace Lw
open MP
theorem compL_mapD {g : D → Store → Res (Option D)} {st : Store} {h : D → D} {kd : KDs} {xs : List D} (hb : ∀ x ∈ xs, ∀ ko, (g x st).wp ko = ko (some (h x)) st) : (compL g xs st).wp kd = kd (xs.map h) st := by
  rw [compL_pure (h := fun x => some (h x)) hb]
  congr 1
  exact congrFun List.filterMap_eq_map xs
theorem bools_map {f : D → Bool} : ∀ xs : List D, bools? (xs.map fun y => .bool (f y)) = some (xs.map f)
  | [] => rfl
  | x :: xs => by
    show (bools? (xs.map fun y => .bool (f y))).map _ = _
    rw [bools_map xs]
    rfl
theorem p_all {f : D → Bool} {xs : List D} : primD .all [.list (xs.map fun y => .bool (f y))] = some (.t (.d (.bool (xs.all f)))) := by
  show (bools? _).map _ = _
  rw [bools_map]
  show some (RV.t (T.d (.bool ((xs.map f).all id)))) = _
  rw [List.all_map]
  rfl
theorem p_all2 {x y : Bool} : primD .all [.list [.bool x, .bool y]] = some (.t (.d (.bool (x && y)))) := by cases x <;> cases y <;> rfl
theorem at_ok {xs : List D} {i : Int} (h0 : 0 ≤ i) (h1 : i < xs.length) : ∃ y, atD xs i = some y ∧ xs[i.toNat]? = some y ∧ y ∈ xs := by
  have hl : i.toNat < xs.length := by omega
  refine ⟨xs[i.toNat], ?_, List.getElem?_eq_getElem hl, List.getElem_mem hl⟩
  unfold atD ixN
  rw [if_pos h0, if_pos h1]
  exact List.getElem?_eq_getElem hl
def ptA (pts : List D) (i : Int) : Int × Int := match pts[i.toNat]? with
  | some (.tuple [.int p, .int q]) => (p, q)
  | _ => (0, 0)
def Pts (pts : List D) : Prop := ∀ y ∈ pts, ∃ p q, y = .tuple [.int p, .int q]
theorem at_pt {pts : List D} (hp : Pts pts) {i : Int} (h0 : 0 ≤ i) (h1 : i < pts.length) : atD pts i = some (.tuple [.int (ptA pts i).1, .int (ptA pts i).2]) := by
  obtain ⟨y, e1, e2, e3⟩ := at_ok h0 h1
  obtain ⟨p, q, rfl⟩ := hp y e3
  unfold ptA
  rw [e1, e2]
def max2 (i j : Int) : Int := if j > i then j else i
def min2 (i j : Int) : Int := if j < i then j else i
def isTie (pts : List D) (x : D) : Bool := match x with
  | .tuple [.int i, .int j, a, b] => decide (0 ≤ i) && decide (i < j) && decide (j < pts.length) && isLife (.tuple [a, b]) (max2 (ptA pts i).1 (ptA pts j).1) (min2 (ptA pts i).2 (ptA pts j).2)
  | _ => false
theorem len4 {xs : List D} (h : decide ((xs.length : Int) = 4) = true) : ∃ a b c d, xs = [a, b, c, d] := by
  have h : (xs.length : Int) = 4 := of_decide_eq_true h
  match xs, h with
  | [a, b, c, d], _ => exact ⟨a, b, c, d, rfl⟩
  | [], h => simp at h
  | [_], h => simp at h
  | [_, _], h => simp at h
  | [_, _, _], h => simp at h
  | _ :: _ :: _ :: _ :: _ :: _, h => simp at h; omega
theorem len3 {xs : List D} (h : decide ((xs.length : Int) = 3) = true) : ∃ a b c, xs = [a, b, c] := by
  have h : (xs.length : Int) = 3 := of_decide_eq_true h
  match xs, h with
  | [a, b, c], _ => exact ⟨a, b, c, rfl⟩
  | [], h => simp at h
  | [_], h => simp at h
  | [_, _], h => simp at h
  | _ :: _ :: _ :: _ :: _, h => simp at h; omega
theorem tie_no {x : D} {pts : List D} (h : ∀ a b c d, x ≠ .tuple [a, b, c, d]) : isTie pts x = false := by
  unfold isTie
  split
  · exact absurd rfl (h _ _ _ _)
  · rfl
section
variable {n wf : Nat} {st : Store} {k : KR} {x : D} {lo hi : Int} {pts : List D}
theorem q_life : (callN tbl wf (n + 2) 15 [.d x, .d (.int lo), .d (.int hi)] st).wp k = k (.t (.d (.bool (isLife x lo hi)))) st := by
  rw [wp_callN (d := d__law_is_life) rfl rfl]
  unfold d__law_is_life
  by_cases ht : ∃ xs, x = .tuple xs
  · obtain ⟨xs, rfl⟩ := ht
    simp only [w_var, a_var, w_con, w_glo, w_op, k_op1, k_op2, w_neg, k_neg, w_cmp, k_cm1, k_cm2, w_chain, k_ch1, k_ch2, w_and, k_and, w_or, k_or, w_not, k_not, w_ite, k_ite, w_tup, k_tup, w_lst, k_lst, w_call, k_call, w_prim, k_prim, w_isi, k_isi, w_ix, k_ix1, k_ix2, w_ts0, w_ts, k_ts1, k_ts2, w_ds0, w_ds, k_ds1d, k_ds1n, k_ds2, x_nil, x_cons, x_set, k_set, x_setM, k_setMt, k_setMn, x_expr, k_expr, x_ret, k_ret, x_retN, x_pass, x_ife, k_if, x_for, k_for, k_finN, k_finD, k_finL, st_t, st_n, rd_d, rd_ref, w_sl, k_sl, k_sl1, k_sl2, w_o0, w_o_var, w_o_con, w_o_op, k_o, w_it_var, w_it_con, w_it_ix, w_it_lst, w_it_tup, w_it_call, w_it_prim, w_it_sl, w_it_op, w_it_comp, w_it_ite, k_src, w_rng, k_rng, w_comp, k_comp, k_eltD, k_eltN, k_cond, body0, body1, x_setI, k_si1, k_si2, k_si3, w_meth, k_me1, k_me2, nxt_next, nxt_ret, nxt_brk, nxt_cont, wp_ok, wps_ok, w_dct0, a_dct1, wps_bt, a_bt, x_parM, w_evT, w_evF, a_alT, a_alN, a_stl, k_pm1, k_pm2, tB, oK_some, a_at, a_atB, a_atD, a_opb, a_opa, a_cmb, a_cma, a_ixb, a_ixa, a_neg, a_chT, a_chF, a_cha2, a_cha, a_brAT, a_brAF, a_brOT, a_brOF, a_brIT, a_brIF, a_brST, a_brSF, a_and, a_or, a_not, a_ite, a_if, a_prim, a_isi, a_set, a_slb, a_o, a_src, a_rng, a_bo0, a_bo1, a_brCT, a_brCF, a_cond, a_sid, a_sic, a_sib, a_mea, a_meb, a_mec, b_add, b_sub, c_lt, c_le, c_gt, c_ge, c_eqI, c_neI, c_eqS, c_neS, c_isB, c_isnotB, p_lenL, p_lenT, p_int, p_max, p_min, p_tupL, p_lstT, p_lstL, i_l, i_t, at0, at1, at2, t_bool, s_l, s_t, bp_nm, bp_tp, bps0, bps1, sr_l, sr_t, sr_n, startE, wipe, List.map_cons, List.map_nil, List.length_cons, List.length_nil, List.replicate, List.cons_append, List.nil_append, List.append_nil, Nat.reduceAdd, Nat.reduceSub, Nat.reduceMul, List.getElem?_cons_zero, List.getElem?_cons_succ, List.getElem?_nil, List.set_cons_zero, List.set_cons_succ, List.mapM_cons, List.mapM_nil, Option.pure_def, Option.bind_eq_bind, Option.bind_some, Bool.not_true, Bool.not_false, show isiD .tuple (.tuple xs) = true from rfl]
    cases h2 : decide ((xs.length : Int) = 2) with
    | false =>
      have hz : isLife (.tuple xs) lo hi = false := life_no fun a b e => by cases e; simp at h2
      simp only [w_var, a_var, w_con, w_glo, w_op, k_op1, k_op2, w_neg, k_neg, w_cmp, k_cm1, k_cm2, w_chain, k_ch1, k_ch2, w_and, k_and, w_or, k_or, w_not, k_not, w_ite, k_ite, w_tup, k_tup, w_lst, k_lst, w_call, k_call, w_prim, k_prim, w_isi, k_isi, w_ix, k_ix1, k_ix2, w_ts0, w_ts, k_ts1, k_ts2, w_ds0, w_ds, k_ds1d, k_ds1n, k_ds2, x_nil, x_cons, x_set, k_set, x_setM, k_setMt, k_setMn, x_expr, k_expr, x_ret, k_ret, x_retN, x_pass, x_ife, k_if, x_for, k_for, k_finN, k_finD, k_finL, st_t, st_n, rd_d, rd_ref, w_sl, k_sl, k_sl1, k_sl2, w_o0, w_o_var, w_o_con, w_o_op, k_o, w_it_var, w_it_con, w_it_ix, w_it_lst, w_it_tup, w_it_call, w_it_prim, w_it_sl, w_it_op, w_it_comp, w_it_ite, k_src, w_rng, k_rng, w_comp, k_comp, k_eltD, k_eltN, k_cond, body0, body1, x_setI, k_si1, k_si2, k_si3, w_meth, k_me1, k_me2, nxt_next, nxt_ret, nxt_brk, nxt_cont, wp_ok, wps_ok, w_dct0, a_dct1, wps_bt, a_bt, x_parM, w_evT, w_evF, a_alT, a_alN, a_stl, k_pm1, k_pm2, tB, oK_some, a_at, a_atB, a_atD, a_opb, a_opa, a_cmb, a_cma, a_ixb, a_ixa, a_neg, a_chT, a_chF, a_cha2, a_cha, a_brAT, a_brAF, a_brOT, a_brOF, a_brIT, a_brIF, a_brST, a_brSF, a_and, a_or, a_not, a_ite, a_if, a_prim, a_isi, a_set, a_slb, a_o, a_src, a_rng, a_bo0, a_bo1, a_brCT, a_brCF, a_cond, a_sid, a_sic, a_sib, a_mea, a_meb, a_mec, b_add, b_sub, c_lt, c_le, c_gt, c_ge, c_eqI, c_neI, c_eqS, c_neS, c_isB, c_isnotB, p_lenL, p_lenT, p_int, p_max, p_min, p_tupL, p_lstT, p_lstL, i_l, i_t, at0, at1, at2, t_bool, s_l, s_t, bp_nm, bp_tp, bps0, bps1, sr_l, sr_t, sr_n, startE, wipe, List.map_cons, List.map_nil, List.length_cons, List.length_nil, List.replicate, List.cons_append, List.nil_append, List.append_nil, Nat.reduceAdd, Nat.reduceSub, Nat.reduceMul, List.getElem?_cons_zero, List.getElem?_cons_succ, List.getElem?_nil, List.set_cons_zero, List.set_cons_succ, List.mapM_cons, List.mapM_nil, Option.pure_def, Option.bind_eq_bind, Option.bind_some, Bool.not_true, Bool.not_false, hz, List.take_length]
    | true =>
      obtain ⟨a, b, rfl⟩ := len2 h2
      cases a with
      | int i =>
        simp only [w_var, a_var, w_con, w_glo, w_op, k_op1, k_op2, w_neg, k_neg, w_cmp, k_cm1, k_cm2, w_chain, k_ch1, k_ch2, w_and, k_and, w_or, k_or, w_not, k_not, w_ite, k_ite, w_tup, k_tup, w_lst, k_lst, w_call, k_call, w_prim, k_prim, w_isi, k_isi, w_ix, k_ix1, k_ix2, w_ts0, w_ts, k_ts1, k_ts2, w_ds0, w_ds, k_ds1d, k_ds1n, k_ds2, x_nil, x_cons, x_set, k_set, x_setM, k_setMt, k_setMn, x_expr, k_expr, x_ret, k_ret, x_retN, x_pass, x_ife, k_if, x_for, k_for, k_finN, k_finD, k_finL, st_t, st_n, rd_d, rd_ref, w_sl, k_sl, k_sl1, k_sl2, w_o0, w_o_var, w_o_con, w_o_op, k_o, w_it_var, w_it_con, w_it_ix, w_it_lst, w_it_tup, w_it_call, w_it_prim, w_it_sl, w_it_op, w_it_comp, w_it_ite, k_src, w_rng, k_rng, w_comp, k_comp, k_eltD, k_eltN, k_cond, body0, body1, x_setI, k_si1, k_si2, k_si3, w_meth, k_me1, k_me2, nxt_next, nxt_ret, nxt_brk, nxt_cont, wp_ok, wps_ok, w_dct0, a_dct1, wps_bt, a_bt, x_parM, w_evT, w_evF, a_alT, a_alN, a_stl, k_pm1, k_pm2, tB, oK_some, a_at, a_atB, a_atD, a_opb, a_opa, a_cmb, a_cma, a_ixb, a_ixa, a_neg, a_chT, a_chF, a_cha2, a_cha, a_brAT, a_brAF, a_brOT, a_brOF, a_brIT, a_brIF, a_brST, a_brSF, a_and, a_or, a_not, a_ite, a_if, a_prim, a_isi, a_set, a_slb, a_o, a_src, a_rng, a_bo0, a_bo1, a_brCT, a_brCF, a_cond, a_sid, a_sic, a_sib, a_mea, a_meb, a_mec, b_add, b_sub, c_lt, c_le, c_gt, c_ge, c_eqI, c_neI, c_eqS, c_neS, c_isB, c_isnotB, p_lenL, p_lenT, p_int, p_max, p_min, p_tupL, p_lstT, p_lstL, i_l, i_t, at0, at1, at2, t_bool, s_l, s_t, bp_nm, bp_tp, bps0, bps1, sr_l, sr_t, sr_n, startE, wipe, List.map_cons, List.map_nil, List.length_cons, List.length_nil, List.replicate, List.cons_append, List.nil_append, List.append_nil, Nat.reduceAdd, Nat.reduceSub, Nat.reduceMul, List.getElem?_cons_zero, List.getElem?_cons_succ, List.getElem?_nil, List.set_cons_zero, List.set_cons_succ, List.mapM_cons, List.mapM_nil, Option.pure_def, Option.bind_eq_bind, Option.bind_some, Bool.not_true, Bool.not_false, q_num, show isNum (.int i) lo hi = (decide (lo ≤ i) && decide (i ≤ hi)) from rfl]
        cases b with
        | int j =>
          by_cases h1 : lo ≤ i <;> by_cases h3 : i ≤ hi <;> by_cases h5 : j ≤ hi <;> by_cases h6 : i ≤ j <;> simp only [h1, h3, h5, h6, decide_true, decide_false, Bool.and_true, Bool.and_false, Bool.true_and, Bool.false_and, isLife] <;> first | (simp only [w_var, a_var, w_con, w_glo, w_op, k_op1, k_op2, w_neg, k_neg, w_cmp, k_cm1, k_cm2, w_chain, k_ch1, k_ch2, w_and, k_and, w_or, k_or, w_not, k_not, w_ite, k_ite, w_tup, k_tup, w_lst, k_lst, w_call, k_call, w_prim, k_prim, w_isi, k_isi, w_ix, k_ix1, k_ix2, w_ts0, w_ts, k_ts1, k_ts2, w_ds0, w_ds, k_ds1d, k_ds1n, k_ds2, x_nil, x_cons, x_set, k_set, x_setM, k_setMt, k_setMn, x_expr, k_expr, x_ret, k_ret, x_retN, x_pass, x_ife, k_if, x_for, k_for, k_finN, k_finD, k_finL, st_t, st_n, rd_d, rd_ref, w_sl, k_sl, k_sl1, k_sl2, w_o0, w_o_var, w_o_con, w_o_op, k_o, w_it_var, w_it_con, w_it_ix, w_it_lst, w_it_tup, w_it_call, w_it_prim, w_it_sl, w_it_op, w_it_comp, w_it_ite, k_src, w_rng, k_rng, w_comp, k_comp, k_eltD, k_eltN, k_cond, body0, body1, x_setI, k_si1, k_si2, k_si3, w_meth, k_me1, k_me2, nxt_next, nxt_ret, nxt_brk, nxt_cont, wp_ok, wps_ok, w_dct0, a_dct1, wps_bt, a_bt, x_parM, w_evT, w_evF, a_alT, a_alN, a_stl, k_pm1, k_pm2, tB, oK_some, a_at, a_atB, a_atD, a_opb, a_opa, a_cmb, a_cma, a_ixb, a_ixa, a_neg, a_chT, a_chF, a_cha2, a_cha, a_brAT, a_brAF, a_brOT, a_brOF, a_brIT, a_brIF, a_brST, a_brSF, a_and, a_or, a_not, a_ite, a_if, a_prim, a_isi, a_set, a_slb, a_o, a_src, a_rng, a_bo0, a_bo1, a_brCT, a_brCF, a_cond, a_sid, a_sic, a_sib, a_mea, a_meb, a_mec, b_add, b_sub, c_lt, c_le, c_gt, c_ge, c_eqI, c_neI, c_eqS, c_neS, c_isB, c_isnotB, p_lenL, p_lenT, p_int, p_max, p_min, p_tupL, p_lstT, p_lstL, i_l, i_t, at0, at1, at2, t_bool, s_l, s_t, bp_nm, bp_tp, bps0, bps1, sr_l, sr_t, sr_n, startE, wipe, List.map_cons, List.map_nil, List.length_cons, List.length_nil, List.replicate, List.cons_append, List.nil_append, List.append_nil, Nat.reduceAdd, Nat.reduceSub, Nat.reduceMul, List.getElem?_cons_zero, List.getElem?_cons_succ, List.getElem?_nil, List.set_cons_zero, List.set_cons_succ, List.mapM_cons, List.mapM_nil, Option.pure_def, Option.bind_eq_bind, Option.bind_some, Bool.not_true, Bool.not_false, q_num, isNum, List.take_length, h1, h3, h5, h6, decide_true, decide_false, Bool.and_true, Bool.true_and, Bool.and_false, Bool.false_and]; done) | (exfalso; omega)
        | _ => by_cases h1 : lo ≤ i <;> by_cases h3 : i ≤ hi <;> simp only [h1, h3, decide_true, decide_false, Bool.and_true, Bool.and_false, Bool.true_and, Bool.false_and, isLife] <;> simp only [w_var, a_var, w_con, w_glo, w_op, k_op1, k_op2, w_neg, k_neg, w_cmp, k_cm1, k_cm2, w_chain, k_ch1, k_ch2, w_and, k_and, w_or, k_or, w_not, k_not, w_ite, k_ite, w_tup, k_tup, w_lst, k_lst, w_call, k_call, w_prim, k_prim, w_isi, k_isi, w_ix, k_ix1, k_ix2, w_ts0, w_ts, k_ts1, k_ts2, w_ds0, w_ds, k_ds1d, k_ds1n, k_ds2, x_nil, x_cons, x_set, k_set, x_setM, k_setMt, k_setMn, x_expr, k_expr, x_ret, k_ret, x_retN, x_pass, x_ife, k_if, x_for, k_for, k_finN, k_finD, k_finL, st_t, st_n, rd_d, rd_ref, w_sl, k_sl, k_sl1, k_sl2, w_o0, w_o_var, w_o_con, w_o_op, k_o, w_it_var, w_it_con, w_it_ix, w_it_lst, w_it_tup, w_it_call, w_it_prim, w_it_sl, w_it_op, w_it_comp, w_it_ite, k_src, w_rng, k_rng, w_comp, k_comp, k_eltD, k_eltN, k_cond, body0, body1, x_setI, k_si1, k_si2, k_si3, w_meth, k_me1, k_me2, nxt_next, nxt_ret, nxt_brk, nxt_cont, wp_ok, wps_ok, w_dct0, a_dct1, wps_bt, a_bt, x_parM, w_evT, w_evF, a_alT, a_alN, a_stl, k_pm1, k_pm2, tB, oK_some, a_at, a_atB, a_atD, a_opb, a_opa, a_cmb, a_cma, a_ixb, a_ixa, a_neg, a_chT, a_chF, a_cha2, a_cha, a_brAT, a_brAF, a_brOT, a_brOF, a_brIT, a_brIF, a_brST, a_brSF, a_and, a_or, a_not, a_ite, a_if, a_prim, a_isi, a_set, a_slb, a_o, a_src, a_rng, a_bo0, a_bo1, a_brCT, a_brCF, a_cond, a_sid, a_sic, a_sib, a_mea, a_meb, a_mec, b_add, b_sub, c_lt, c_le, c_gt, c_ge, c_eqI, c_neI, c_eqS, c_neS, c_isB, c_isnotB, p_lenL, p_lenT, p_int, p_max, p_min, p_tupL, p_lstT, p_lstL, i_l, i_t, at0, at1, at2, t_bool, s_l, s_t, bp_nm, bp_tp, bps0, bps1, sr_l, sr_t, sr_n, startE, wipe, List.map_cons, List.map_nil, List.length_cons, List.length_nil, List.replicate, List.cons_append, List.nil_append, List.append_nil, Nat.reduceAdd, Nat.reduceSub, Nat.reduceMul, List.getElem?_cons_zero, List.getElem?_cons_succ, List.getElem?_nil, List.set_cons_zero, List.set_cons_succ, List.mapM_cons, List.mapM_nil, Option.pure_def, Option.bind_eq_bind, Option.bind_some, Bool.not_true, Bool.not_false, q_num, isNum, List.take_length]
      | _ => simp only [w_var, a_var, w_con, w_glo, w_op, k_op1, k_op2, w_neg, k_neg, w_cmp, k_cm1, k_cm2, w_chain, k_ch1, k_ch2, w_and, k_and, w_or, k_or, w_not, k_not, w_ite, k_ite, w_tup, k_tup, w_lst, k_lst, w_call, k_call, w_prim, k_prim, w_isi, k_isi, w_ix, k_ix1, k_ix2, w_ts0, w_ts, k_ts1, k_ts2, w_ds0, w_ds, k_ds1d, k_ds1n, k_ds2, x_nil, x_cons, x_set, k_set, x_setM, k_setMt, k_setMn, x_expr, k_expr, x_ret, k_ret, x_retN, x_pass, x_ife, k_if, x_for, k_for, k_finN, k_finD, k_finL, st_t, st_n, rd_d, rd_ref, w_sl, k_sl, k_sl1, k_sl2, w_o0, w_o_var, w_o_con, w_o_op, k_o, w_it_var, w_it_con, w_it_ix, w_it_lst, w_it_tup, w_it_call, w_it_prim, w_it_sl, w_it_op, w_it_comp, w_it_ite, k_src, w_rng, k_rng, w_comp, k_comp, k_eltD, k_eltN, k_cond, body0, body1, x_setI, k_si1, k_si2, k_si3, w_meth, k_me1, k_me2, nxt_next, nxt_ret, nxt_brk, nxt_cont, wp_ok, wps_ok, w_dct0, a_dct1, wps_bt, a_bt, x_parM, w_evT, w_evF, a_alT, a_alN, a_stl, k_pm1, k_pm2, tB, oK_some, a_at, a_atB, a_atD, a_opb, a_opa, a_cmb, a_cma, a_ixb, a_ixa, a_neg, a_chT, a_chF, a_cha2, a_cha, a_brAT, a_brAF, a_brOT, a_brOF, a_brIT, a_brIF, a_brST, a_brSF, a_and, a_or, a_not, a_ite, a_if, a_prim, a_isi, a_set, a_slb, a_o, a_src, a_rng, a_bo0, a_bo1, a_brCT, a_brCF, a_cond, a_sid, a_sic, a_sib, a_mea, a_meb, a_mec, b_add, b_sub, c_lt, c_le, c_gt, c_ge, c_eqI, c_neI, c_eqS, c_neS, c_isB, c_isnotB, p_lenL, p_lenT, p_int, p_max, p_min, p_tupL, p_lstT, p_lstL, i_l, i_t, at0, at1, at2, t_bool, s_l, s_t, bp_nm, bp_tp, bps0, bps1, sr_l, sr_t, sr_n, startE, wipe, List.map_cons, List.map_nil, List.length_cons, List.length_nil, List.replicate, List.cons_append, List.nil_append, List.append_nil, Nat.reduceAdd, Nat.reduceSub, Nat.reduceMul, List.getElem?_cons_zero, List.getElem?_cons_succ, List.getElem?_nil, List.set_cons_zero, List.set_cons_succ, List.mapM_cons, List.mapM_nil, Option.pure_def, Option.bind_eq_bind, Option.bind_some, Bool.not_true, Bool.not_false, q_num, isNum, isLife, List.take_length]
  · have hz : isLife x lo hi = false := life_no fun a b e => ht ⟨_, e⟩
    simp only [w_var, a_var, w_con, w_glo, w_op, k_op1, k_op2, w_neg, k_neg, w_cmp, k_cm1, k_cm2, w_chain, k_ch1, k_ch2, w_and, k_and, w_or, k_or, w_not, k_not, w_ite, k_ite, w_tup, k_tup, w_lst, k_lst, w_call, k_call, w_prim, k_prim, w_isi, k_isi, w_ix, k_ix1, k_ix2, w_ts0, w_ts, k_ts1, k_ts2, w_ds0, w_ds, k_ds1d, k_ds1n, k_ds2, x_nil, x_cons, x_set, k_set, x_setM, k_setMt, k_setMn, x_expr, k_expr, x_ret, k_ret, x_retN, x_pass, x_ife, k_if, x_for, k_for, k_finN, k_finD, k_finL, st_t, st_n, rd_d, rd_ref, w_sl, k_sl, k_sl1, k_sl2, w_o0, w_o_var, w_o_con, w_o_op, k_o, w_it_var, w_it_con, w_it_ix, w_it_lst, w_it_tup, w_it_call, w_it_prim, w_it_sl, w_it_op, w_it_comp, w_it_ite, k_src, w_rng, k_rng, w_comp, k_comp, k_eltD, k_eltN, k_cond, body0, body1, x_setI, k_si1, k_si2, k_si3, w_meth, k_me1, k_me2, nxt_next, nxt_ret, nxt_brk, nxt_cont, wp_ok, wps_ok, w_dct0, a_dct1, wps_bt, a_bt, x_parM, w_evT, w_evF, a_alT, a_alN, a_stl, k_pm1, k_pm2, tB, oK_some, a_at, a_atB, a_atD, a_opb, a_opa, a_cmb, a_cma, a_ixb, a_ixa, a_neg, a_chT, a_chF, a_cha2, a_cha, a_brAT, a_brAF, a_brOT, a_brOF, a_brIT, a_brIF, a_brST, a_brSF, a_and, a_or, a_not, a_ite, a_if, a_prim, a_isi, a_set, a_slb, a_o, a_src, a_rng, a_bo0, a_bo1, a_brCT, a_brCF, a_cond, a_sid, a_sic, a_sib, a_mea, a_meb, a_mec, b_add, b_sub, c_lt, c_le, c_gt, c_ge, c_eqI, c_neI, c_eqS, c_neS, c_isB, c_isnotB, p_lenL, p_lenT, p_int, p_max, p_min, p_tupL, p_lstT, p_lstL, i_l, i_t, at0, at1, at2, t_bool, s_l, s_t, bp_nm, bp_tp, bps0, bps1, sr_l, sr_t, sr_n, startE, wipe, List.map_cons, List.map_nil, List.length_cons, List.length_nil, List.replicate, List.cons_append, List.nil_append, List.append_nil, Nat.reduceAdd, Nat.reduceSub, Nat.reduceMul, List.getElem?_cons_zero, List.getElem?_cons_succ, List.getElem?_nil, List.set_cons_zero, List.set_cons_succ, List.mapM_cons, List.mapM_nil, Option.pure_def, Option.bind_eq_bind, Option.bind_some, Bool.not_true, Bool.not_false, not_tup fun xs e => ht ⟨xs, e⟩, hz, List.take_length]
theorem p_tie (hp : Pts pts) : (callN tbl wf (n + 3) 2 [.d x, .d (.tuple pts)] st).wp k = k (.t (.d (.bool (isTie pts x)))) st := by
  rw [wp_callN (d := d_is_tie) rfl rfl]
  unfold d_is_tie
  by_cases ht : ∃ xs, x = .tuple xs
  · obtain ⟨xs, rfl⟩ := ht
    simp only [w_var, a_var, w_con, w_glo, w_op, k_op1, k_op2, w_neg, k_neg, w_cmp, k_cm1, k_cm2, w_chain, k_ch1, k_ch2, w_and, k_and, w_or, k_or, w_not, k_not, w_ite, k_ite, w_tup, k_tup, w_lst, k_lst, w_call, k_call, w_prim, k_prim, w_isi, k_isi, w_ix, k_ix1, k_ix2, w_ts0, w_ts, k_ts1, k_ts2, w_ds0, w_ds, k_ds1d, k_ds1n, k_ds2, x_nil, x_cons, x_set, k_set, x_setM, k_setMt, k_setMn, x_expr, k_expr, x_ret, k_ret, x_retN, x_pass, x_ife, k_if, x_for, k_for, k_finN, k_finD, k_finL, st_t, st_n, rd_d, rd_ref, w_sl, k_sl, k_sl1, k_sl2, w_o0, w_o_var, w_o_con, w_o_op, k_o, w_it_var, w_it_con, w_it_ix, w_it_lst, w_it_tup, w_it_call, w_it_prim, w_it_sl, w_it_op, w_it_comp, w_it_ite, k_src, w_rng, k_rng, w_comp, k_comp, k_eltD, k_eltN, k_cond, body0, body1, x_setI, k_si1, k_si2, k_si3, w_meth, k_me1, k_me2, nxt_next, nxt_ret, nxt_brk, nxt_cont, wp_ok, wps_ok, w_dct0, a_dct1, wps_bt, a_bt, x_parM, w_evT, w_evF, a_alT, a_alN, a_stl, k_pm1, k_pm2, tB, oK_some, a_at, a_atB, a_atD, a_opb, a_opa, a_cmb, a_cma, a_ixb, a_ixa, a_neg, a_chT, a_chF, a_cha2, a_cha, a_brAT, a_brAF, a_brOT, a_brOF, a_brIT, a_brIF, a_brST, a_brSF, a_and, a_or, a_not, a_ite, a_if, a_prim, a_isi, a_set, a_slb, a_o, a_src, a_rng, a_bo0, a_bo1, a_brCT, a_brCF, a_cond, a_sid, a_sic, a_sib, a_mea, a_meb, a_mec, b_add, b_sub, c_lt, c_le, c_gt, c_ge, c_eqI, c_neI, c_eqS, c_neS, c_isB, c_isnotB, p_lenL, p_lenT, p_int, p_max, p_min, p_tupL, p_lstT, p_lstL, i_l, i_t, at0, at1, at2, t_bool, s_l, s_t, bp_nm, bp_tp, bps0, bps1, sr_l, sr_t, sr_n, startE, wipe, List.map_cons, List.map_nil, List.length_cons, List.length_nil, List.replicate, List.cons_append, List.nil_append, List.append_nil, Nat.reduceAdd, Nat.reduceSub, Nat.reduceMul, List.getElem?_cons_zero, List.getElem?_cons_succ, List.getElem?_nil, List.set_cons_zero, List.set_cons_succ, List.mapM_cons, List.mapM_nil, Option.pure_def, Option.bind_eq_bind, Option.bind_some, Bool.not_true, Bool.not_false, show isiD .tuple (.tuple xs) = true from rfl]
    cases h2 : decide ((xs.length : Int) = 4) with
    | false =>
      have hz : isTie pts (.tuple xs) = false := tie_no fun a b c d e => by cases e; simp at h2
      simp only [w_var, a_var, w_con, w_glo, w_op, k_op1, k_op2, w_neg, k_neg, w_cmp, k_cm1, k_cm2, w_chain, k_ch1, k_ch2, w_and, k_and, w_or, k_or, w_not, k_not, w_ite, k_ite, w_tup, k_tup, w_lst, k_lst, w_call, k_call, w_prim, k_prim, w_isi, k_isi, w_ix, k_ix1, k_ix2, w_ts0, w_ts, k_ts1, k_ts2, w_ds0, w_ds, k_ds1d, k_ds1n, k_ds2, x_nil, x_cons, x_set, k_set, x_setM, k_setMt, k_setMn, x_expr, k_expr, x_ret, k_ret, x_retN, x_pass, x_ife, k_if, x_for, k_for, k_finN, k_finD, k_finL, st_t, st_n, rd_d, rd_ref, w_sl, k_sl, k_sl1, k_sl2, w_o0, w_o_var, w_o_con, w_o_op, k_o, w_it_var, w_it_con, w_it_ix, w_it_lst, w_it_tup, w_it_call, w_it_prim, w_it_sl, w_it_op, w_it_comp, w_it_ite, k_src, w_rng, k_rng, w_comp, k_comp, k_eltD, k_eltN, k_cond, body0, body1, x_setI, k_si1, k_si2, k_si3, w_meth, k_me1, k_me2, nxt_next, nxt_ret, nxt_brk, nxt_cont, wp_ok, wps_ok, w_dct0, a_dct1, wps_bt, a_bt, x_parM, w_evT, w_evF, a_alT, a_alN, a_stl, k_pm1, k_pm2, tB, oK_some, a_at, a_atB, a_atD, a_opb, a_opa, a_cmb, a_cma, a_ixb, a_ixa, a_neg, a_chT, a_chF, a_cha2, a_cha, a_brAT, a_brAF, a_brOT, a_brOF, a_brIT, a_brIF, a_brST, a_brSF, a_and, a_or, a_not, a_ite, a_if, a_prim, a_isi, a_set, a_slb, a_o, a_src, a_rng, a_bo0, a_bo1, a_brCT, a_brCF, a_cond, a_sid, a_sic, a_sib, a_mea, a_meb, a_mec, b_add, b_sub, c_lt, c_le, c_gt, c_ge, c_eqI, c_neI, c_eqS, c_neS, c_isB, c_isnotB, p_lenL, p_lenT, p_int, p_max, p_min, p_tupL, p_lstT, p_lstL, i_l, i_t, at0, at1, at2, t_bool, s_l, s_t, bp_nm, bp_tp, bps0, bps1, sr_l, sr_t, sr_n, startE, wipe, List.map_cons, List.map_nil, List.length_cons, List.length_nil, List.replicate, List.cons_append, List.nil_append, List.append_nil, Nat.reduceAdd, Nat.reduceSub, Nat.reduceMul, List.getElem?_cons_zero, List.getElem?_cons_succ, List.getElem?_nil, List.set_cons_zero, List.set_cons_succ, List.mapM_cons, List.mapM_nil, Option.pure_def, Option.bind_eq_bind, Option.bind_some, Bool.not_true, Bool.not_false, hz, List.take_length]
    | true =>
      obtain ⟨a, b, c, d, rfl⟩ := len4 h2
      simp only [w_var, a_var, w_con, w_glo, w_op, k_op1, k_op2, w_neg, k_neg, w_cmp, k_cm1, k_cm2, w_chain, k_ch1, k_ch2, w_and, k_and, w_or, k_or, w_not, k_not, w_ite, k_ite, w_tup, k_tup, w_lst, k_lst, w_call, k_call, w_prim, k_prim, w_isi, k_isi, w_ix, k_ix1, k_ix2, w_ts0, w_ts, k_ts1, k_ts2, w_ds0, w_ds, k_ds1d, k_ds1n, k_ds2, x_nil, x_cons, x_set, k_set, x_setM, k_setMt, k_setMn, x_expr, k_expr, x_ret, k_ret, x_retN, x_pass, x_ife, k_if, x_for, k_for, k_finN, k_finD, k_finL, st_t, st_n, rd_d, rd_ref, w_sl, k_sl, k_sl1, k_sl2, w_o0, w_o_var, w_o_con, w_o_op, k_o, w_it_var, w_it_con, w_it_ix, w_it_lst, w_it_tup, w_it_call, w_it_prim, w_it_sl, w_it_op, w_it_comp, w_it_ite, k_src, w_rng, k_rng, w_comp, k_comp, k_eltD, k_eltN, k_cond, body0, body1, x_setI, k_si1, k_si2, k_si3, w_meth, k_me1, k_me2, nxt_next, nxt_ret, nxt_brk, nxt_cont, wp_ok, wps_ok, w_dct0, a_dct1, wps_bt, a_bt, x_parM, w_evT, w_evF, a_alT, a_alN, a_stl, k_pm1, k_pm2, tB, oK_some, a_at, a_atB, a_atD, a_opb, a_opa, a_cmb, a_cma, a_ixb, a_ixa, a_neg, a_chT, a_chF, a_cha2, a_cha, a_brAT, a_brAF, a_brOT, a_brOF, a_brIT, a_brIF, a_brST, a_brSF, a_and, a_or, a_not, a_ite, a_if, a_prim, a_isi, a_set, a_slb, a_o, a_src, a_rng, a_bo0, a_bo1, a_brCT, a_brCF, a_cond, a_sid, a_sic, a_sib, a_mea, a_meb, a_mec, b_add, b_sub, c_lt, c_le, c_gt, c_ge, c_eqI, c_neI, c_eqS, c_neS, c_isB, c_isnotB, p_lenL, p_lenT, p_int, p_max, p_min, p_tupL, p_lstT, p_lstL, i_l, i_t, at0, at1, at2, t_bool, s_l, s_t, bp_nm, bp_tp, bps0, bps1, sr_l, sr_t, sr_n, startE, wipe, List.map_cons, List.map_nil, List.length_cons, List.length_nil, List.replicate, List.cons_append, List.nil_append, List.append_nil, Nat.reduceAdd, Nat.reduceSub, Nat.reduceMul, List.getElem?_cons_zero, List.getElem?_cons_succ, List.getElem?_nil, List.set_cons_zero, List.set_cons_succ, List.mapM_cons, List.mapM_nil, Option.pure_def, Option.bind_eq_bind, Option.bind_some, Bool.not_true, Bool.not_false, show cutD [a, b, c, d] none (some 2) = [a, b] from rfl, show cutD [a, b, c, d] (some 2) none = [c, d] from rfl]
      rw [compL_mapD (h := fun y => .bool (isNum y 0 (pts.length - 1))) (fun y hy ko => by simp only [w_var, a_var, w_con, w_glo, w_op, k_op1, k_op2, w_neg, k_neg, w_cmp, k_cm1, k_cm2, w_chain, k_ch1, k_ch2, w_and, k_and, w_or, k_or, w_not, k_not, w_ite, k_ite, w_tup, k_tup, w_lst, k_lst, w_call, k_call, w_prim, k_prim, w_isi, k_isi, w_ix, k_ix1, k_ix2, w_ts0, w_ts, k_ts1, k_ts2, w_ds0, w_ds, k_ds1d, k_ds1n, k_ds2, x_nil, x_cons, x_set, k_set, x_setM, k_setMt, k_setMn, x_expr, k_expr, x_ret, k_ret, x_retN, x_pass, x_ife, k_if, x_for, k_for, k_finN, k_finD, k_finL, st_t, st_n, rd_d, rd_ref, w_sl, k_sl, k_sl1, k_sl2, w_o0, w_o_var, w_o_con, w_o_op, k_o, w_it_var, w_it_con, w_it_ix, w_it_lst, w_it_tup, w_it_call, w_it_prim, w_it_sl, w_it_op, w_it_comp, w_it_ite, k_src, w_rng, k_rng, w_comp, k_comp, k_eltD, k_eltN, k_cond, body0, body1, x_setI, k_si1, k_si2, k_si3, w_meth, k_me1, k_me2, nxt_next, nxt_ret, nxt_brk, nxt_cont, wp_ok, wps_ok, w_dct0, a_dct1, wps_bt, a_bt, x_parM, w_evT, w_evF, a_alT, a_alN, a_stl, k_pm1, k_pm2, tB, oK_some, a_at, a_atB, a_atD, a_opb, a_opa, a_cmb, a_cma, a_ixb, a_ixa, a_neg, a_chT, a_chF, a_cha2, a_cha, a_brAT, a_brAF, a_brOT, a_brOF, a_brIT, a_brIF, a_brST, a_brSF, a_and, a_or, a_not, a_ite, a_if, a_prim, a_isi, a_set, a_slb, a_o, a_src, a_rng, a_bo0, a_bo1, a_brCT, a_brCF, a_cond, a_sid, a_sic, a_sib, a_mea, a_meb, a_mec, b_add, b_sub, c_lt, c_le, c_gt, c_ge, c_eqI, c_neI, c_eqS, c_neS, c_isB, c_isnotB, p_lenL, p_lenT, p_int, p_max, p_min, p_tupL, p_lstT, p_lstL, i_l, i_t, at0, at1, at2, t_bool, s_l, s_t, bp_nm, bp_tp, bps0, bps1, sr_l, sr_t, sr_n, startE, wipe, List.map_cons, List.map_nil, List.length_cons, List.length_nil, List.replicate, List.cons_append, List.nil_append, List.append_nil, Nat.reduceAdd, Nat.reduceSub, Nat.reduceMul, List.getElem?_cons_zero, List.getElem?_cons_succ, List.getElem?_nil, List.set_cons_zero, List.set_cons_succ, List.mapM_cons, List.mapM_nil, Option.pure_def, Option.bind_eq_bind, Option.bind_some, Bool.not_true, Bool.not_false, p_num])]
      simp only [w_var, a_var, w_con, w_glo, w_op, k_op1, k_op2, w_neg, k_neg, w_cmp, k_cm1, k_cm2, w_chain, k_ch1, k_ch2, w_and, k_and, w_or, k_or, w_not, k_not, w_ite, k_ite, w_tup, k_tup, w_lst, k_lst, w_call, k_call, w_prim, k_prim, w_isi, k_isi, w_ix, k_ix1, k_ix2, w_ts0, w_ts, k_ts1, k_ts2, w_ds0, w_ds, k_ds1d, k_ds1n, k_ds2, x_nil, x_cons, x_set, k_set, x_setM, k_setMt, k_setMn, x_expr, k_expr, x_ret, k_ret, x_retN, x_pass, x_ife, k_if, x_for, k_for, k_finN, k_finD, k_finL, st_t, st_n, rd_d, rd_ref, w_sl, k_sl, k_sl1, k_sl2, w_o0, w_o_var, w_o_con, w_o_op, k_o, w_it_var, w_it_con, w_it_ix, w_it_lst, w_it_tup, w_it_call, w_it_prim, w_it_sl, w_it_op, w_it_comp, w_it_ite, k_src, w_rng, k_rng, w_comp, k_comp, k_eltD, k_eltN, k_cond, body0, body1, x_setI, k_si1, k_si2, k_si3, w_meth, k_me1, k_me2, nxt_next, nxt_ret, nxt_brk, nxt_cont, wp_ok, wps_ok, w_dct0, a_dct1, wps_bt, a_bt, x_parM, w_evT, w_evF, a_alT, a_alN, a_stl, k_pm1, k_pm2, tB, oK_some, a_at, a_atB, a_atD, a_opb, a_opa, a_cmb, a_cma, a_ixb, a_ixa, a_neg, a_chT, a_chF, a_cha2, a_cha, a_brAT, a_brAF, a_brOT, a_brOF, a_brIT, a_brIF, a_brST, a_brSF, a_and, a_or, a_not, a_ite, a_if, a_prim, a_isi, a_set, a_slb, a_o, a_src, a_rng, a_bo0, a_bo1, a_brCT, a_brCF, a_cond, a_sid, a_sic, a_sib, a_mea, a_meb, a_mec, b_add, b_sub, c_lt, c_le, c_gt, c_ge, c_eqI, c_neI, c_eqS, c_neS, c_isB, c_isnotB, p_lenL, p_lenT, p_int, p_max, p_min, p_tupL, p_lstT, p_lstL, i_l, i_t, at0, at1, at2, t_bool, s_l, s_t, bp_nm, bp_tp, bps0, bps1, sr_l, sr_t, sr_n, startE, wipe, List.map_cons, List.map_nil, List.length_cons, List.length_nil, List.replicate, List.cons_append, List.nil_append, List.append_nil, Nat.reduceAdd, Nat.reduceSub, Nat.reduceMul, List.getElem?_cons_zero, List.getElem?_cons_succ, List.getElem?_nil, List.set_cons_zero, List.set_cons_succ, List.mapM_cons, List.mapM_nil, Option.pure_def, Option.bind_eq_bind, Option.bind_some, Bool.not_true, Bool.not_false, p_all2]
      cases a with
      | int i =>
        cases b with
        | int j =>
          by_cases hall : 0 ≤ i ∧ i ≤ pts.length - 1 ∧ 0 ≤ j ∧ j ≤ pts.length - 1
          · obtain ⟨g1, g2, g3, g4⟩ := hall
            have e1 : (isNum (.int i) 0 (pts.length - 1) && isNum (.int j) 0 (pts.length - 1)) = true := by simp [isNum, g1, g2, g3, g4]
            simp only [w_var, a_var, w_con, w_glo, w_op, k_op1, k_op2, w_neg, k_neg, w_cmp, k_cm1, k_cm2, w_chain, k_ch1, k_ch2, w_and, k_and, w_or, k_or, w_not, k_not, w_ite, k_ite, w_tup, k_tup, w_lst, k_lst, w_call, k_call, w_prim, k_prim, w_isi, k_isi, w_ix, k_ix1, k_ix2, w_ts0, w_ts, k_ts1, k_ts2, w_ds0, w_ds, k_ds1d, k_ds1n, k_ds2, x_nil, x_cons, x_set, k_set, x_setM, k_setMt, k_setMn, x_expr, k_expr, x_ret, k_ret, x_retN, x_pass, x_ife, k_if, x_for, k_for, k_finN, k_finD, k_finL, st_t, st_n, rd_d, rd_ref, w_sl, k_sl, k_sl1, k_sl2, w_o0, w_o_var, w_o_con, w_o_op, k_o, w_it_var, w_it_con, w_it_ix, w_it_lst, w_it_tup, w_it_call, w_it_prim, w_it_sl, w_it_op, w_it_comp, w_it_ite, k_src, w_rng, k_rng, w_comp, k_comp, k_eltD, k_eltN, k_cond, body0, body1, x_setI, k_si1, k_si2, k_si3, w_meth, k_me1, k_me2, nxt_next, nxt_ret, nxt_brk, nxt_cont, wp_ok, wps_ok, w_dct0, a_dct1, wps_bt, a_bt, x_parM, w_evT, w_evF, a_alT, a_alN, a_stl, k_pm1, k_pm2, tB, oK_some, a_at, a_atB, a_atD, a_opb, a_opa, a_cmb, a_cma, a_ixb, a_ixa, a_neg, a_chT, a_chF, a_cha2, a_cha, a_brAT, a_brAF, a_brOT, a_brOF, a_brIT, a_brIF, a_brST, a_brSF, a_and, a_or, a_not, a_ite, a_if, a_prim, a_isi, a_set, a_slb, a_o, a_src, a_rng, a_bo0, a_bo1, a_brCT, a_brCF, a_cond, a_sid, a_sic, a_sib, a_mea, a_meb, a_mec, b_add, b_sub, c_lt, c_le, c_gt, c_ge, c_eqI, c_neI, c_eqS, c_neS, c_isB, c_isnotB, p_lenL, p_lenT, p_int, p_max, p_min, p_tupL, p_lstT, p_lstL, i_l, i_t, at0, at1, at2, t_bool, s_l, s_t, bp_nm, bp_tp, bps0, bps1, sr_l, sr_t, sr_n, startE, wipe, List.map_cons, List.map_nil, List.length_cons, List.length_nil, List.replicate, List.cons_append, List.nil_append, List.append_nil, Nat.reduceAdd, Nat.reduceSub, Nat.reduceMul, List.getElem?_cons_zero, List.getElem?_cons_succ, List.getElem?_nil, List.set_cons_zero, List.set_cons_succ, List.mapM_cons, List.mapM_nil, Option.pure_def, Option.bind_eq_bind, Option.bind_some, Bool.not_true, Bool.not_false, e1]
            by_cases hij : j ≤ i
            · have hz : isTie pts (.tuple [.int i, .int j, c, d]) = false := by simp [isTie]; intro _ h; omega
              simp only [w_var, a_var, w_con, w_glo, w_op, k_op1, k_op2, w_neg, k_neg, w_cmp, k_cm1, k_cm2, w_chain, k_ch1, k_ch2, w_and, k_and, w_or, k_or, w_not, k_not, w_ite, k_ite, w_tup, k_tup, w_lst, k_lst, w_call, k_call, w_prim, k_prim, w_isi, k_isi, w_ix, k_ix1, k_ix2, w_ts0, w_ts, k_ts1, k_ts2, w_ds0, w_ds, k_ds1d, k_ds1n, k_ds2, x_nil, x_cons, x_set, k_set, x_setM, k_setMt, k_setMn, x_expr, k_expr, x_ret, k_ret, x_retN, x_pass, x_ife, k_if, x_for, k_for, k_finN, k_finD, k_finL, st_t, st_n, rd_d, rd_ref, w_sl, k_sl, k_sl1, k_sl2, w_o0, w_o_var, w_o_con, w_o_op, k_o, w_it_var, w_it_con, w_it_ix, w_it_lst, w_it_tup, w_it_call, w_it_prim, w_it_sl, w_it_op, w_it_comp, w_it_ite, k_src, w_rng, k_rng, w_comp, k_comp, k_eltD, k_eltN, k_cond, body0, body1, x_setI, k_si1, k_si2, k_si3, w_meth, k_me1, k_me2, nxt_next, nxt_ret, nxt_brk, nxt_cont, wp_ok, wps_ok, w_dct0, a_dct1, wps_bt, a_bt, x_parM, w_evT, w_evF, a_alT, a_alN, a_stl, k_pm1, k_pm2, tB, oK_some, a_at, a_atB, a_atD, a_opb, a_opa, a_cmb, a_cma, a_ixb, a_ixa, a_neg, a_chT, a_chF, a_cha2, a_cha, a_brAT, a_brAF, a_brOT, a_brOF, a_brIT, a_brIF, a_brST, a_brSF, a_and, a_or, a_not, a_ite, a_if, a_prim, a_isi, a_set, a_slb, a_o, a_src, a_rng, a_bo0, a_bo1, a_brCT, a_brCF, a_cond, a_sid, a_sic, a_sib, a_mea, a_meb, a_mec, b_add, b_sub, c_lt, c_le, c_gt, c_ge, c_eqI, c_neI, c_eqS, c_neS, c_isB, c_isnotB, p_lenL, p_lenT, p_int, p_max, p_min, p_tupL, p_lstT, p_lstL, i_l, i_t, at0, at1, at2, t_bool, s_l, s_t, bp_nm, bp_tp, bps0, bps1, sr_l, sr_t, sr_n, startE, wipe, List.map_cons, List.map_nil, List.length_cons, List.length_nil, List.replicate, List.cons_append, List.nil_append, List.append_nil, Nat.reduceAdd, Nat.reduceSub, Nat.reduceMul, List.getElem?_cons_zero, List.getElem?_cons_succ, List.getElem?_nil, List.set_cons_zero, List.set_cons_succ, List.mapM_cons, List.mapM_nil, Option.pure_def, Option.bind_eq_bind, Option.bind_some, Bool.not_true, Bool.not_false, decide_eq_true hij, hz, List.take_length]
            · have hz : isTie pts (.tuple [.int i, .int j, c, d]) = isLife (.tuple [c, d]) (max2 (ptA pts i).1 (ptA pts j).1) (min2 (ptA pts i).2 (ptA pts j).2) := by
                have z1 : decide (0 ≤ i) = true := decide_eq_true g1
                have z2 : decide (i < j) = true := decide_eq_true (by omega)
                have z3 : decide (j < pts.length) = true := decide_eq_true (by omega)
                simp only [isTie, z1, z2, z3, Bool.true_and]
              simp only [w_var, a_var, w_con, w_glo, w_op, k_op1, k_op2, w_neg, k_neg, w_cmp, k_cm1, k_cm2, w_chain, k_ch1, k_ch2, w_and, k_and, w_or, k_or, w_not, k_not, w_ite, k_ite, w_tup, k_tup, w_lst, k_lst, w_call, k_call, w_prim, k_prim, w_isi, k_isi, w_ix, k_ix1, k_ix2, w_ts0, w_ts, k_ts1, k_ts2, w_ds0, w_ds, k_ds1d, k_ds1n, k_ds2, x_nil, x_cons, x_set, k_set, x_setM, k_setMt, k_setMn, x_expr, k_expr, x_ret, k_ret, x_retN, x_pass, x_ife, k_if, x_for, k_for, k_finN, k_finD, k_finL, st_t, st_n, rd_d, rd_ref, w_sl, k_sl, k_sl1, k_sl2, w_o0, w_o_var, w_o_con, w_o_op, k_o, w_it_var, w_it_con, w_it_ix, w_it_lst, w_it_tup, w_it_call, w_it_prim, w_it_sl, w_it_op, w_it_comp, w_it_ite, k_src, w_rng, k_rng, w_comp, k_comp, k_eltD, k_eltN, k_cond, body0, body1, x_setI, k_si1, k_si2, k_si3, w_meth, k_me1, k_me2, nxt_next, nxt_ret, nxt_brk, nxt_cont, wp_ok, wps_ok, w_dct0, a_dct1, wps_bt, a_bt, x_parM, w_evT, w_evF, a_alT, a_alN, a_stl, k_pm1, k_pm2, tB, oK_some, a_at, a_atB, a_atD, a_opb, a_opa, a_cmb, a_cma, a_ixb, a_ixa, a_neg, a_chT, a_chF, a_cha2, a_cha, a_brAT, a_brAF, a_brOT, a_brOF, a_brIT, a_brIF, a_brST, a_brSF, a_and, a_or, a_not, a_ite, a_if, a_prim, a_isi, a_set, a_slb, a_o, a_src, a_rng, a_bo0, a_bo1, a_brCT, a_brCF, a_cond, a_sid, a_sic, a_sib, a_mea, a_meb, a_mec, b_add, b_sub, c_lt, c_le, c_gt, c_ge, c_eqI, c_neI, c_eqS, c_neS, c_isB, c_isnotB, p_lenL, p_lenT, p_int, p_max, p_min, p_tupL, p_lstT, p_lstL, i_l, i_t, at0, at1, at2, t_bool, s_l, s_t, bp_nm, bp_tp, bps0, bps1, sr_l, sr_t, sr_n, startE, wipe, List.map_cons, List.map_nil, List.length_cons, List.length_nil, List.replicate, List.cons_append, List.nil_append, List.append_nil, Nat.reduceAdd, Nat.reduceSub, Nat.reduceMul, List.getElem?_cons_zero, List.getElem?_cons_succ, List.getElem?_nil, List.set_cons_zero, List.set_cons_succ, List.mapM_cons, List.mapM_nil, Option.pure_def, Option.bind_eq_bind, Option.bind_some, Bool.not_true, Bool.not_false, decide_eq_false hij, show cutD [PySem.PyData.int i, .int j, c, d] none (some 2) = [.int i, .int j] from rfl, show cutD [PySem.PyData.int i, .int j, c, d] (some 2) none = [c, d] from rfl]
              rw [compL_mapD (h := fun y => match y with | .int z => .tuple [.int (ptA pts z).1, .int (ptA pts z).2] | _ => .none) (fun y hy ko => by
                rcases List.mem_cons.mp hy with rfl | hy
                · simp only [w_var, a_var, w_con, w_glo, w_op, k_op1, k_op2, w_neg, k_neg, w_cmp, k_cm1, k_cm2, w_chain, k_ch1, k_ch2, w_and, k_and, w_or, k_or, w_not, k_not, w_ite, k_ite, w_tup, k_tup, w_lst, k_lst, w_call, k_call, w_prim, k_prim, w_isi, k_isi, w_ix, k_ix1, k_ix2, w_ts0, w_ts, k_ts1, k_ts2, w_ds0, w_ds, k_ds1d, k_ds1n, k_ds2, x_nil, x_cons, x_set, k_set, x_setM, k_setMt, k_setMn, x_expr, k_expr, x_ret, k_ret, x_retN, x_pass, x_ife, k_if, x_for, k_for, k_finN, k_finD, k_finL, st_t, st_n, rd_d, rd_ref, w_sl, k_sl, k_sl1, k_sl2, w_o0, w_o_var, w_o_con, w_o_op, k_o, w_it_var, w_it_con, w_it_ix, w_it_lst, w_it_tup, w_it_call, w_it_prim, w_it_sl, w_it_op, w_it_comp, w_it_ite, k_src, w_rng, k_rng, w_comp, k_comp, k_eltD, k_eltN, k_cond, body0, body1, x_setI, k_si1, k_si2, k_si3, w_meth, k_me1, k_me2, nxt_next, nxt_ret, nxt_brk, nxt_cont, wp_ok, wps_ok, w_dct0, a_dct1, wps_bt, a_bt, x_parM, w_evT, w_evF, a_alT, a_alN, a_stl, k_pm1, k_pm2, tB, oK_some, a_at, a_atB, a_atD, a_opb, a_opa, a_cmb, a_cma, a_ixb, a_ixa, a_neg, a_chT, a_chF, a_cha2, a_cha, a_brAT, a_brAF, a_brOT, a_brOF, a_brIT, a_brIF, a_brST, a_brSF, a_and, a_or, a_not, a_ite, a_if, a_prim, a_isi, a_set, a_slb, a_o, a_src, a_rng, a_bo0, a_bo1, a_brCT, a_brCF, a_cond, a_sid, a_sic, a_sib, a_mea, a_meb, a_mec, b_add, b_sub, c_lt, c_le, c_gt, c_ge, c_eqI, c_neI, c_eqS, c_neS, c_isB, c_isnotB, p_lenL, p_lenT, p_int, p_max, p_min, p_tupL, p_lstT, p_lstL, i_l, i_t, at0, at1, at2, t_bool, s_l, s_t, bp_nm, bp_tp, bps0, bps1, sr_l, sr_t, sr_n, startE, wipe, List.map_cons, List.map_nil, List.length_cons, List.length_nil, List.replicate, List.cons_append, List.nil_append, List.append_nil, Nat.reduceAdd, Nat.reduceSub, Nat.reduceMul, List.getElem?_cons_zero, List.getElem?_cons_succ, List.getElem?_nil, List.set_cons_zero, List.set_cons_succ, List.mapM_cons, List.mapM_nil, Option.pure_def, Option.bind_eq_bind, Option.bind_some, Bool.not_true, Bool.not_false, at_pt hp g1 (by omega)]
                · rcases List.mem_cons.mp hy with rfl | hy
                  · simp only [w_var, a_var, w_con, w_glo, w_op, k_op1, k_op2, w_neg, k_neg, w_cmp, k_cm1, k_cm2, w_chain, k_ch1, k_ch2, w_and, k_and, w_or, k_or, w_not, k_not, w_ite, k_ite, w_tup, k_tup, w_lst, k_lst, w_call, k_call, w_prim, k_prim, w_isi, k_isi, w_ix, k_ix1, k_ix2, w_ts0, w_ts, k_ts1, k_ts2, w_ds0, w_ds, k_ds1d, k_ds1n, k_ds2, x_nil, x_cons, x_set, k_set, x_setM, k_setMt, k_setMn, x_expr, k_expr, x_ret, k_ret, x_retN, x_pass, x_ife, k_if, x_for, k_for, k_finN, k_finD, k_finL, st_t, st_n, rd_d, rd_ref, w_sl, k_sl, k_sl1, k_sl2, w_o0, w_o_var, w_o_con, w_o_op, k_o, w_it_var, w_it_con, w_it_ix, w_it_lst, w_it_tup, w_it_call, w_it_prim, w_it_sl, w_it_op, w_it_comp, w_it_ite, k_src, w_rng, k_rng, w_comp, k_comp, k_eltD, k_eltN, k_cond, body0, body1, x_setI, k_si1, k_si2, k_si3, w_meth, k_me1, k_me2, nxt_next, nxt_ret, nxt_brk, nxt_cont, wp_ok, wps_ok, w_dct0, a_dct1, wps_bt, a_bt, x_parM, w_evT, w_evF, a_alT, a_alN, a_stl, k_pm1, k_pm2, tB, oK_some, a_at, a_atB, a_atD, a_opb, a_opa, a_cmb, a_cma, a_ixb, a_ixa, a_neg, a_chT, a_chF, a_cha2, a_cha, a_brAT, a_brAF, a_brOT, a_brOF, a_brIT, a_brIF, a_brST, a_brSF, a_and, a_or, a_not, a_ite, a_if, a_prim, a_isi, a_set, a_slb, a_o, a_src, a_rng, a_bo0, a_bo1, a_brCT, a_brCF, a_cond, a_sid, a_sic, a_sib, a_mea, a_meb, a_mec, b_add, b_sub, c_lt, c_le, c_gt, c_ge, c_eqI, c_neI, c_eqS, c_neS, c_isB, c_isnotB, p_lenL, p_lenT, p_int, p_max, p_min, p_tupL, p_lstT, p_lstL, i_l, i_t, at0, at1, at2, t_bool, s_l, s_t, bp_nm, bp_tp, bps0, bps1, sr_l, sr_t, sr_n, startE, wipe, List.map_cons, List.map_nil, List.length_cons, List.length_nil, List.replicate, List.cons_append, List.nil_append, List.append_nil, Nat.reduceAdd, Nat.reduceSub, Nat.reduceMul, List.getElem?_cons_zero, List.getElem?_cons_succ, List.getElem?_nil, List.set_cons_zero, List.set_cons_succ, List.mapM_cons, List.mapM_nil, Option.pure_def, Option.bind_eq_bind, Option.bind_some, Bool.not_true, Bool.not_false, at_pt hp g3 (by omega)]
                  · cases hy)]
              simp only [w_var, a_var, w_con, w_glo, w_op, k_op1, k_op2, w_neg, k_neg, w_cmp, k_cm1, k_cm2, w_chain, k_ch1, k_ch2, w_and, k_and, w_or, k_or, w_not, k_not, w_ite, k_ite, w_tup, k_tup, w_lst, k_lst, w_call, k_call, w_prim, k_prim, w_isi, k_isi, w_ix, k_ix1, k_ix2, w_ts0, w_ts, k_ts1, k_ts2, w_ds0, w_ds, k_ds1d, k_ds1n, k_ds2, x_nil, x_cons, x_set, k_set, x_setM, k_setMt, k_setMn, x_expr, k_expr, x_ret, k_ret, x_retN, x_pass, x_ife, k_if, x_for, k_for, k_finN, k_finD, k_finL, st_t, st_n, rd_d, rd_ref, w_sl, k_sl, k_sl1, k_sl2, w_o0, w_o_var, w_o_con, w_o_op, k_o, w_it_var, w_it_con, w_it_ix, w_it_lst, w_it_tup, w_it_call, w_it_prim, w_it_sl, w_it_op, w_it_comp, w_it_ite, k_src, w_rng, k_rng, w_comp, k_comp, k_eltD, k_eltN, k_cond, body0, body1, x_setI, k_si1, k_si2, k_si3, w_meth, k_me1, k_me2, nxt_next, nxt_ret, nxt_brk, nxt_cont, wp_ok, wps_ok, w_dct0, a_dct1, wps_bt, a_bt, x_parM, w_evT, w_evF, a_alT, a_alN, a_stl, k_pm1, k_pm2, tB, oK_some, a_at, a_atB, a_atD, a_opb, a_opa, a_cmb, a_cma, a_ixb, a_ixa, a_neg, a_chT, a_chF, a_cha2, a_cha, a_brAT, a_brAF, a_brOT, a_brOF, a_brIT, a_brIF, a_brST, a_brSF, a_and, a_or, a_not, a_ite, a_if, a_prim, a_isi, a_set, a_slb, a_o, a_src, a_rng, a_bo0, a_bo1, a_brCT, a_brCF, a_cond, a_sid, a_sic, a_sib, a_mea, a_meb, a_mec, b_add, b_sub, c_lt, c_le, c_gt, c_ge, c_eqI, c_neI, c_eqS, c_neS, c_isB, c_isnotB, p_lenL, p_lenT, p_int, p_max, p_min, p_tupL, p_lstT, p_lstL, i_l, i_t, at0, at1, at2, t_bool, s_l, s_t, bp_nm, bp_tp, bps0, bps1, sr_l, sr_t, sr_n, startE, wipe, List.map_cons, List.map_nil, List.length_cons, List.length_nil, List.replicate, List.cons_append, List.nil_append, List.append_nil, Nat.reduceAdd, Nat.reduceSub, Nat.reduceMul, List.getElem?_cons_zero, List.getElem?_cons_succ, List.getElem?_nil, List.set_cons_zero, List.set_cons_succ, List.mapM_cons, List.mapM_nil, Option.pure_def, Option.bind_eq_bind, Option.bind_some, Bool.not_true, Bool.not_false]
              rw [compL_mapD (h := fun y => match y with | .tuple [.int z, .int t] => .int z | _ => .none) (fun y hy ko => by
                rcases List.mem_cons.mp hy with rfl | hy
                · simp only [w_var, a_var, w_con, w_glo, w_op, k_op1, k_op2, w_neg, k_neg, w_cmp, k_cm1, k_cm2, w_chain, k_ch1, k_ch2, w_and, k_and, w_or, k_or, w_not, k_not, w_ite, k_ite, w_tup, k_tup, w_lst, k_lst, w_call, k_call, w_prim, k_prim, w_isi, k_isi, w_ix, k_ix1, k_ix2, w_ts0, w_ts, k_ts1, k_ts2, w_ds0, w_ds, k_ds1d, k_ds1n, k_ds2, x_nil, x_cons, x_set, k_set, x_setM, k_setMt, k_setMn, x_expr, k_expr, x_ret, k_ret, x_retN, x_pass, x_ife, k_if, x_for, k_for, k_finN, k_finD, k_finL, st_t, st_n, rd_d, rd_ref, w_sl, k_sl, k_sl1, k_sl2, w_o0, w_o_var, w_o_con, w_o_op, k_o, w_it_var, w_it_con, w_it_ix, w_it_lst, w_it_tup, w_it_call, w_it_prim, w_it_sl, w_it_op, w_it_comp, w_it_ite, k_src, w_rng, k_rng, w_comp, k_comp, k_eltD, k_eltN, k_cond, body0, body1, x_setI, k_si1, k_si2, k_si3, w_meth, k_me1, k_me2, nxt_next, nxt_ret, nxt_brk, nxt_cont, wp_ok, wps_ok, w_dct0, a_dct1, wps_bt, a_bt, x_parM, w_evT, w_evF, a_alT, a_alN, a_stl, k_pm1, k_pm2, tB, oK_some, a_at, a_atB, a_atD, a_opb, a_opa, a_cmb, a_cma, a_ixb, a_ixa, a_neg, a_chT, a_chF, a_cha2, a_cha, a_brAT, a_brAF, a_brOT, a_brOF, a_brIT, a_brIF, a_brST, a_brSF, a_and, a_or, a_not, a_ite, a_if, a_prim, a_isi, a_set, a_slb, a_o, a_src, a_rng, a_bo0, a_bo1, a_brCT, a_brCF, a_cond, a_sid, a_sic, a_sib, a_mea, a_meb, a_mec, b_add, b_sub, c_lt, c_le, c_gt, c_ge, c_eqI, c_neI, c_eqS, c_neS, c_isB, c_isnotB, p_lenL, p_lenT, p_int, p_max, p_min, p_tupL, p_lstT, p_lstL, i_l, i_t, at0, at1, at2, t_bool, s_l, s_t, bp_nm, bp_tp, bps0, bps1, sr_l, sr_t, sr_n, startE, wipe, List.map_cons, List.map_nil, List.length_cons, List.length_nil, List.replicate, List.cons_append, List.nil_append, List.append_nil, Nat.reduceAdd, Nat.reduceSub, Nat.reduceMul, List.getElem?_cons_zero, List.getElem?_cons_succ, List.getElem?_nil, List.set_cons_zero, List.set_cons_succ, List.mapM_cons, List.mapM_nil, Option.pure_def, Option.bind_eq_bind, Option.bind_some, Bool.not_true, Bool.not_false]
                · rcases List.mem_cons.mp hy with rfl | hy
                  · simp only [w_var, a_var, w_con, w_glo, w_op, k_op1, k_op2, w_neg, k_neg, w_cmp, k_cm1, k_cm2, w_chain, k_ch1, k_ch2, w_and, k_and, w_or, k_or, w_not, k_not, w_ite, k_ite, w_tup, k_tup, w_lst, k_lst, w_call, k_call, w_prim, k_prim, w_isi, k_isi, w_ix, k_ix1, k_ix2, w_ts0, w_ts, k_ts1, k_ts2, w_ds0, w_ds, k_ds1d, k_ds1n, k_ds2, x_nil, x_cons, x_set, k_set, x_setM, k_setMt, k_setMn, x_expr, k_expr, x_ret, k_ret, x_retN, x_pass, x_ife, k_if, x_for, k_for, k_finN, k_finD, k_finL, st_t, st_n, rd_d, rd_ref, w_sl, k_sl, k_sl1, k_sl2, w_o0, w_o_var, w_o_con, w_o_op, k_o, w_it_var, w_it_con, w_it_ix, w_it_lst, w_it_tup, w_it_call, w_it_prim, w_it_sl, w_it_op, w_it_comp, w_it_ite, k_src, w_rng, k_rng, w_comp, k_comp, k_eltD, k_eltN, k_cond, body0, body1, x_setI, k_si1, k_si2, k_si3, w_meth, k_me1, k_me2, nxt_next, nxt_ret, nxt_brk, nxt_cont, wp_ok, wps_ok, w_dct0, a_dct1, wps_bt, a_bt, x_parM, w_evT, w_evF, a_alT, a_alN, a_stl, k_pm1, k_pm2, tB, oK_some, a_at, a_atB, a_atD, a_opb, a_opa, a_cmb, a_cma, a_ixb, a_ixa, a_neg, a_chT, a_chF, a_cha2, a_cha, a_brAT, a_brAF, a_brOT, a_brOF, a_brIT, a_brIF, a_brST, a_brSF, a_and, a_or, a_not, a_ite, a_if, a_prim, a_isi, a_set, a_slb, a_o, a_src, a_rng, a_bo0, a_bo1, a_brCT, a_brCF, a_cond, a_sid, a_sic, a_sib, a_mea, a_meb, a_mec, b_add, b_sub, c_lt, c_le, c_gt, c_ge, c_eqI, c_neI, c_eqS, c_neS, c_isB, c_isnotB, p_lenL, p_lenT, p_int, p_max, p_min, p_tupL, p_lstT, p_lstL, i_l, i_t, at0, at1, at2, t_bool, s_l, s_t, bp_nm, bp_tp, bps0, bps1, sr_l, sr_t, sr_n, startE, wipe, List.map_cons, List.map_nil, List.length_cons, List.length_nil, List.replicate, List.cons_append, List.nil_append, List.append_nil, Nat.reduceAdd, Nat.reduceSub, Nat.reduceMul, List.getElem?_cons_zero, List.getElem?_cons_succ, List.getElem?_nil, List.set_cons_zero, List.set_cons_succ, List.mapM_cons, List.mapM_nil, Option.pure_def, Option.bind_eq_bind, Option.bind_some, Bool.not_true, Bool.not_false]
                  · cases hy)]
              have pm : primD .max [.list [.int (ptA pts i).1, .int (ptA pts j).1]] = some (.t (.d (.int (max2 (ptA pts i).1 (ptA pts j).1)))) := rfl
              have pn : primD .min [.list [.int (ptA pts i).2, .int (ptA pts j).2]] = some (.t (.d (.int (min2 (ptA pts i).2 (ptA pts j).2)))) := rfl
              simp only [w_var, a_var, w_con, w_glo, w_op, k_op1, k_op2, w_neg, k_neg, w_cmp, k_cm1, k_cm2, w_chain, k_ch1, k_ch2, w_and, k_and, w_or, k_or, w_not, k_not, w_ite, k_ite, w_tup, k_tup, w_lst, k_lst, w_call, k_call, w_prim, k_prim, w_isi, k_isi, w_ix, k_ix1, k_ix2, w_ts0, w_ts, k_ts1, k_ts2, w_ds0, w_ds, k_ds1d, k_ds1n, k_ds2, x_nil, x_cons, x_set, k_set, x_setM, k_setMt, k_setMn, x_expr, k_expr, x_ret, k_ret, x_retN, x_pass, x_ife, k_if, x_for, k_for, k_finN, k_finD, k_finL, st_t, st_n, rd_d, rd_ref, w_sl, k_sl, k_sl1, k_sl2, w_o0, w_o_var, w_o_con, w_o_op, k_o, w_it_var, w_it_con, w_it_ix, w_it_lst, w_it_tup, w_it_call, w_it_prim, w_it_sl, w_it_op, w_it_comp, w_it_ite, k_src, w_rng, k_rng, w_comp, k_comp, k_eltD, k_eltN, k_cond, body0, body1, x_setI, k_si1, k_si2, k_si3, w_meth, k_me1, k_me2, nxt_next, nxt_ret, nxt_brk, nxt_cont, wp_ok, wps_ok, w_dct0, a_dct1, wps_bt, a_bt, x_parM, w_evT, w_evF, a_alT, a_alN, a_stl, k_pm1, k_pm2, tB, oK_some, a_at, a_atB, a_atD, a_opb, a_opa, a_cmb, a_cma, a_ixb, a_ixa, a_neg, a_chT, a_chF, a_cha2, a_cha, a_brAT, a_brAF, a_brOT, a_brOF, a_brIT, a_brIF, a_brST, a_brSF, a_and, a_or, a_not, a_ite, a_if, a_prim, a_isi, a_set, a_slb, a_o, a_src, a_rng, a_bo0, a_bo1, a_brCT, a_brCF, a_cond, a_sid, a_sic, a_sib, a_mea, a_meb, a_mec, b_add, b_sub, c_lt, c_le, c_gt, c_ge, c_eqI, c_neI, c_eqS, c_neS, c_isB, c_isnotB, p_lenL, p_lenT, p_int, p_max, p_min, p_tupL, p_lstT, p_lstL, i_l, i_t, at0, at1, at2, t_bool, s_l, s_t, bp_nm, bp_tp, bps0, bps1, sr_l, sr_t, sr_n, startE, wipe, List.map_cons, List.map_nil, List.length_cons, List.length_nil, List.replicate, List.cons_append, List.nil_append, List.append_nil, Nat.reduceAdd, Nat.reduceSub, Nat.reduceMul, List.getElem?_cons_zero, List.getElem?_cons_succ, List.getElem?_nil, List.set_cons_zero, List.set_cons_succ, List.mapM_cons, List.mapM_nil, Option.pure_def, Option.bind_eq_bind, Option.bind_some, Bool.not_true, Bool.not_false, pm]
              rw [compL_mapD (h := fun y => match y with | .tuple [.int z, .int t] => .int t | _ => .none) (fun y hy ko => by
                rcases List.mem_cons.mp hy with rfl | hy
                · simp only [w_var, a_var, w_con, w_glo, w_op, k_op1, k_op2, w_neg, k_neg, w_cmp, k_cm1, k_cm2, w_chain, k_ch1, k_ch2, w_and, k_and, w_or, k_or, w_not, k_not, w_ite, k_ite, w_tup, k_tup, w_lst, k_lst, w_call, k_call, w_prim, k_prim, w_isi, k_isi, w_ix, k_ix1, k_ix2, w_ts0, w_ts, k_ts1, k_ts2, w_ds0, w_ds, k_ds1d, k_ds1n, k_ds2, x_nil, x_cons, x_set, k_set, x_setM, k_setMt, k_setMn, x_expr, k_expr, x_ret, k_ret, x_retN, x_pass, x_ife, k_if, x_for, k_for, k_finN, k_finD, k_finL, st_t, st_n, rd_d, rd_ref, w_sl, k_sl, k_sl1, k_sl2, w_o0, w_o_var, w_o_con, w_o_op, k_o, w_it_var, w_it_con, w_it_ix, w_it_lst, w_it_tup, w_it_call, w_it_prim, w_it_sl, w_it_op, w_it_comp, w_it_ite, k_src, w_rng, k_rng, w_comp, k_comp, k_eltD, k_eltN, k_cond, body0, body1, x_setI, k_si1, k_si2, k_si3, w_meth, k_me1, k_me2, nxt_next, nxt_ret, nxt_brk, nxt_cont, wp_ok, wps_ok, w_dct0, a_dct1, wps_bt, a_bt, x_parM, w_evT, w_evF, a_alT, a_alN, a_stl, k_pm1, k_pm2, tB, oK_some, a_at, a_atB, a_atD, a_opb, a_opa, a_cmb, a_cma, a_ixb, a_ixa, a_neg, a_chT, a_chF, a_cha2, a_cha, a_brAT, a_brAF, a_brOT, a_brOF, a_brIT, a_brIF, a_brST, a_brSF, a_and, a_or, a_not, a_ite, a_if, a_prim, a_isi, a_set, a_slb, a_o, a_src, a_rng, a_bo0, a_bo1, a_brCT, a_brCF, a_cond, a_sid, a_sic, a_sib, a_mea, a_meb, a_mec, b_add, b_sub, c_lt, c_le, c_gt, c_ge, c_eqI, c_neI, c_eqS, c_neS, c_isB, c_isnotB, p_lenL, p_lenT, p_int, p_max, p_min, p_tupL, p_lstT, p_lstL, i_l, i_t, at0, at1, at2, t_bool, s_l, s_t, bp_nm, bp_tp, bps0, bps1, sr_l, sr_t, sr_n, startE, wipe, List.map_cons, List.map_nil, List.length_cons, List.length_nil, List.replicate, List.cons_append, List.nil_append, List.append_nil, Nat.reduceAdd, Nat.reduceSub, Nat.reduceMul, List.getElem?_cons_zero, List.getElem?_cons_succ, List.getElem?_nil, List.set_cons_zero, List.set_cons_succ, List.mapM_cons, List.mapM_nil, Option.pure_def, Option.bind_eq_bind, Option.bind_some, Bool.not_true, Bool.not_false]
                · rcases List.mem_cons.mp hy with rfl | hy
                  · simp only [w_var, a_var, w_con, w_glo, w_op, k_op1, k_op2, w_neg, k_neg, w_cmp, k_cm1, k_cm2, w_chain, k_ch1, k_ch2, w_and, k_and, w_or, k_or, w_not, k_not, w_ite, k_ite, w_tup, k_tup, w_lst, k_lst, w_call, k_call, w_prim, k_prim, w_isi, k_isi, w_ix, k_ix1, k_ix2, w_ts0, w_ts, k_ts1, k_ts2, w_ds0, w_ds, k_ds1d, k_ds1n, k_ds2, x_nil, x_cons, x_set, k_set, x_setM, k_setMt, k_setMn, x_expr, k_expr, x_ret, k_ret, x_retN, x_pass, x_ife, k_if, x_for, k_for, k_finN, k_finD, k_finL, st_t, st_n, rd_d, rd_ref, w_sl, k_sl, k_sl1, k_sl2, w_o0, w_o_var, w_o_con, w_o_op, k_o, w_it_var, w_it_con, w_it_ix, w_it_lst, w_it_tup, w_it_call, w_it_prim, w_it_sl, w_it_op, w_it_comp, w_it_ite, k_src, w_rng, k_rng, w_comp, k_comp, k_eltD, k_eltN, k_cond, body0, body1, x_setI, k_si1, k_si2, k_si3, w_meth, k_me1, k_me2, nxt_next, nxt_ret, nxt_brk, nxt_cont, wp_ok, wps_ok, w_dct0, a_dct1, wps_bt, a_bt, x_parM, w_evT, w_evF, a_alT, a_alN, a_stl, k_pm1, k_pm2, tB, oK_some, a_at, a_atB, a_atD, a_opb, a_opa, a_cmb, a_cma, a_ixb, a_ixa, a_neg, a_chT, a_chF, a_cha2, a_cha, a_brAT, a_brAF, a_brOT, a_brOF, a_brIT, a_brIF, a_brST, a_brSF, a_and, a_or, a_not, a_ite, a_if, a_prim, a_isi, a_set, a_slb, a_o, a_src, a_rng, a_bo0, a_bo1, a_brCT, a_brCF, a_cond, a_sid, a_sic, a_sib, a_mea, a_meb, a_mec, b_add, b_sub, c_lt, c_le, c_gt, c_ge, c_eqI, c_neI, c_eqS, c_neS, c_isB, c_isnotB, p_lenL, p_lenT, p_int, p_max, p_min, p_tupL, p_lstT, p_lstL, i_l, i_t, at0, at1, at2, t_bool, s_l, s_t, bp_nm, bp_tp, bps0, bps1, sr_l, sr_t, sr_n, startE, wipe, List.map_cons, List.map_nil, List.length_cons, List.length_nil, List.replicate, List.cons_append, List.nil_append, List.append_nil, Nat.reduceAdd, Nat.reduceSub, Nat.reduceMul, List.getElem?_cons_zero, List.getElem?_cons_succ, List.getElem?_nil, List.set_cons_zero, List.set_cons_succ, List.mapM_cons, List.mapM_nil, Option.pure_def, Option.bind_eq_bind, Option.bind_some, Bool.not_true, Bool.not_false]
                  · cases hy)]
              simp only [w_var, a_var, w_con, w_glo, w_op, k_op1, k_op2, w_neg, k_neg, w_cmp, k_cm1, k_cm2, w_chain, k_ch1, k_ch2, w_and, k_and, w_or, k_or, w_not, k_not, w_ite, k_ite, w_tup, k_tup, w_lst, k_lst, w_call, k_call, w_prim, k_prim, w_isi, k_isi, w_ix, k_ix1, k_ix2, w_ts0, w_ts, k_ts1, k_ts2, w_ds0, w_ds, k_ds1d, k_ds1n, k_ds2, x_nil, x_cons, x_set, k_set, x_setM, k_setMt, k_setMn, x_expr, k_expr, x_ret, k_ret, x_retN, x_pass, x_ife, k_if, x_for, k_for, k_finN, k_finD, k_finL, st_t, st_n, rd_d, rd_ref, w_sl, k_sl, k_sl1, k_sl2, w_o0, w_o_var, w_o_con, w_o_op, k_o, w_it_var, w_it_con, w_it_ix, w_it_lst, w_it_tup, w_it_call, w_it_prim, w_it_sl, w_it_op, w_it_comp, w_it_ite, k_src, w_rng, k_rng, w_comp, k_comp, k_eltD, k_eltN, k_cond, body0, body1, x_setI, k_si1, k_si2, k_si3, w_meth, k_me1, k_me2, nxt_next, nxt_ret, nxt_brk, nxt_cont, wp_ok, wps_ok, w_dct0, a_dct1, wps_bt, a_bt, x_parM, w_evT, w_evF, a_alT, a_alN, a_stl, k_pm1, k_pm2, tB, oK_some, a_at, a_atB, a_atD, a_opb, a_opa, a_cmb, a_cma, a_ixb, a_ixa, a_neg, a_chT, a_chF, a_cha2, a_cha, a_brAT, a_brAF, a_brOT, a_brOF, a_brIT, a_brIF, a_brST, a_brSF, a_and, a_or, a_not, a_ite, a_if, a_prim, a_isi, a_set, a_slb, a_o, a_src, a_rng, a_bo0, a_bo1, a_brCT, a_brCF, a_cond, a_sid, a_sic, a_sib, a_mea, a_meb, a_mec, b_add, b_sub, c_lt, c_le, c_gt, c_ge, c_eqI, c_neI, c_eqS, c_neS, c_isB, c_isnotB, p_lenL, p_lenT, p_int, p_max, p_min, p_tupL, p_lstT, p_lstL, i_l, i_t, at0, at1, at2, t_bool, s_l, s_t, bp_nm, bp_tp, bps0, bps1, sr_l, sr_t, sr_n, startE, wipe, List.map_cons, List.map_nil, List.length_cons, List.length_nil, List.replicate, List.cons_append, List.nil_append, List.append_nil, Nat.reduceAdd, Nat.reduceSub, Nat.reduceMul, List.getElem?_cons_zero, List.getElem?_cons_succ, List.getElem?_nil, List.set_cons_zero, List.set_cons_succ, List.mapM_cons, List.mapM_nil, Option.pure_def, Option.bind_eq_bind, Option.bind_some, Bool.not_true, Bool.not_false, pn, p_life, hz, List.take_length]
              rfl
          · have e1 : (isNum (.int i) 0 (pts.length - 1) && isNum (.int j) 0 (pts.length - 1)) = false := by
              simp [isNum]
              omega
            have hz : isTie pts (.tuple [.int i, .int j, c, d]) = false := by
              simp [isTie]
              intros
              omega
            simp only [w_var, a_var, w_con, w_glo, w_op, k_op1, k_op2, w_neg, k_neg, w_cmp, k_cm1, k_cm2, w_chain, k_ch1, k_ch2, w_and, k_and, w_or, k_or, w_not, k_not, w_ite, k_ite, w_tup, k_tup, w_lst, k_lst, w_call, k_call, w_prim, k_prim, w_isi, k_isi, w_ix, k_ix1, k_ix2, w_ts0, w_ts, k_ts1, k_ts2, w_ds0, w_ds, k_ds1d, k_ds1n, k_ds2, x_nil, x_cons, x_set, k_set, x_setM, k_setMt, k_setMn, x_expr, k_expr, x_ret, k_ret, x_retN, x_pass, x_ife, k_if, x_for, k_for, k_finN, k_finD, k_finL, st_t, st_n, rd_d, rd_ref, w_sl, k_sl, k_sl1, k_sl2, w_o0, w_o_var, w_o_con, w_o_op, k_o, w_it_var, w_it_con, w_it_ix, w_it_lst, w_it_tup, w_it_call, w_it_prim, w_it_sl, w_it_op, w_it_comp, w_it_ite, k_src, w_rng, k_rng, w_comp, k_comp, k_eltD, k_eltN, k_cond, body0, body1, x_setI, k_si1, k_si2, k_si3, w_meth, k_me1, k_me2, nxt_next, nxt_ret, nxt_brk, nxt_cont, wp_ok, wps_ok, w_dct0, a_dct1, wps_bt, a_bt, x_parM, w_evT, w_evF, a_alT, a_alN, a_stl, k_pm1, k_pm2, tB, oK_some, a_at, a_atB, a_atD, a_opb, a_opa, a_cmb, a_cma, a_ixb, a_ixa, a_neg, a_chT, a_chF, a_cha2, a_cha, a_brAT, a_brAF, a_brOT, a_brOF, a_brIT, a_brIF, a_brST, a_brSF, a_and, a_or, a_not, a_ite, a_if, a_prim, a_isi, a_set, a_slb, a_o, a_src, a_rng, a_bo0, a_bo1, a_brCT, a_brCF, a_cond, a_sid, a_sic, a_sib, a_mea, a_meb, a_mec, b_add, b_sub, c_lt, c_le, c_gt, c_ge, c_eqI, c_neI, c_eqS, c_neS, c_isB, c_isnotB, p_lenL, p_lenT, p_int, p_max, p_min, p_tupL, p_lstT, p_lstL, i_l, i_t, at0, at1, at2, t_bool, s_l, s_t, bp_nm, bp_tp, bps0, bps1, sr_l, sr_t, sr_n, startE, wipe, List.map_cons, List.map_nil, List.length_cons, List.length_nil, List.replicate, List.cons_append, List.nil_append, List.append_nil, Nat.reduceAdd, Nat.reduceSub, Nat.reduceMul, List.getElem?_cons_zero, List.getElem?_cons_succ, List.getElem?_nil, List.set_cons_zero, List.set_cons_succ, List.mapM_cons, List.mapM_nil, Option.pure_def, Option.bind_eq_bind, Option.bind_some, Bool.not_true, Bool.not_false, e1, hz, List.take_length]
        | _ => simp only [w_var, a_var, w_con, w_glo, w_op, k_op1, k_op2, w_neg, k_neg, w_cmp, k_cm1, k_cm2, w_chain, k_ch1, k_ch2, w_and, k_and, w_or, k_or, w_not, k_not, w_ite, k_ite, w_tup, k_tup, w_lst, k_lst, w_call, k_call, w_prim, k_prim, w_isi, k_isi, w_ix, k_ix1, k_ix2, w_ts0, w_ts, k_ts1, k_ts2, w_ds0, w_ds, k_ds1d, k_ds1n, k_ds2, x_nil, x_cons, x_set, k_set, x_setM, k_setMt, k_setMn, x_expr, k_expr, x_ret, k_ret, x_retN, x_pass, x_ife, k_if, x_for, k_for, k_finN, k_finD, k_finL, st_t, st_n, rd_d, rd_ref, w_sl, k_sl, k_sl1, k_sl2, w_o0, w_o_var, w_o_con, w_o_op, k_o, w_it_var, w_it_con, w_it_ix, w_it_lst, w_it_tup, w_it_call, w_it_prim, w_it_sl, w_it_op, w_it_comp, w_it_ite, k_src, w_rng, k_rng, w_comp, k_comp, k_eltD, k_eltN, k_cond, body0, body1, x_setI, k_si1, k_si2, k_si3, w_meth, k_me1, k_me2, nxt_next, nxt_ret, nxt_brk, nxt_cont, wp_ok, wps_ok, w_dct0, a_dct1, wps_bt, a_bt, x_parM, w_evT, w_evF, a_alT, a_alN, a_stl, k_pm1, k_pm2, tB, oK_some, a_at, a_atB, a_atD, a_opb, a_opa, a_cmb, a_cma, a_ixb, a_ixa, a_neg, a_chT, a_chF, a_cha2, a_cha, a_brAT, a_brAF, a_brOT, a_brOF, a_brIT, a_brIF, a_brST, a_brSF, a_and, a_or, a_not, a_ite, a_if, a_prim, a_isi, a_set, a_slb, a_o, a_src, a_rng, a_bo0, a_bo1, a_brCT, a_brCF, a_cond, a_sid, a_sic, a_sib, a_mea, a_meb, a_mec, b_add, b_sub, c_lt, c_le, c_gt, c_ge, c_eqI, c_neI, c_eqS, c_neS, c_isB, c_isnotB, p_lenL, p_lenT, p_int, p_max, p_min, p_tupL, p_lstT, p_lstL, i_l, i_t, at0, at1, at2, t_bool, s_l, s_t, bp_nm, bp_tp, bps0, bps1, sr_l, sr_t, sr_n, startE, wipe, List.map_cons, List.map_nil, List.length_cons, List.length_nil, List.replicate, List.cons_append, List.nil_append, List.append_nil, Nat.reduceAdd, Nat.reduceSub, Nat.reduceMul, List.getElem?_cons_zero, List.getElem?_cons_succ, List.getElem?_nil, List.set_cons_zero, List.set_cons_succ, List.mapM_cons, List.mapM_nil, Option.pure_def, Option.bind_eq_bind, Option.bind_some, Bool.not_true, Bool.not_false, isNum, isTie, Bool.and_false, List.take_length]
      | _ => simp only [w_var, a_var, w_con, w_glo, w_op, k_op1, k_op2, w_neg, k_neg, w_cmp, k_cm1, k_cm2, w_chain, k_ch1, k_ch2, w_and, k_and, w_or, k_or, w_not, k_not, w_ite, k_ite, w_tup, k_tup, w_lst, k_lst, w_call, k_call, w_prim, k_prim, w_isi, k_isi, w_ix, k_ix1, k_ix2, w_ts0, w_ts, k_ts1, k_ts2, w_ds0, w_ds, k_ds1d, k_ds1n, k_ds2, x_nil, x_cons, x_set, k_set, x_setM, k_setMt, k_setMn, x_expr, k_expr, x_ret, k_ret, x_retN, x_pass, x_ife, k_if, x_for, k_for, k_finN, k_finD, k_finL, st_t, st_n, rd_d, rd_ref, w_sl, k_sl, k_sl1, k_sl2, w_o0, w_o_var, w_o_con, w_o_op, k_o, w_it_var, w_it_con, w_it_ix, w_it_lst, w_it_tup, w_it_call, w_it_prim, w_it_sl, w_it_op, w_it_comp, w_it_ite, k_src, w_rng, k_rng, w_comp, k_comp, k_eltD, k_eltN, k_cond, body0, body1, x_setI, k_si1, k_si2, k_si3, w_meth, k_me1, k_me2, nxt_next, nxt_ret, nxt_brk, nxt_cont, wp_ok, wps_ok, w_dct0, a_dct1, wps_bt, a_bt, x_parM, w_evT, w_evF, a_alT, a_alN, a_stl, k_pm1, k_pm2, tB, oK_some, a_at, a_atB, a_atD, a_opb, a_opa, a_cmb, a_cma, a_ixb, a_ixa, a_neg, a_chT, a_chF, a_cha2, a_cha, a_brAT, a_brAF, a_brOT, a_brOF, a_brIT, a_brIF, a_brST, a_brSF, a_and, a_or, a_not, a_ite, a_if, a_prim, a_isi, a_set, a_slb, a_o, a_src, a_rng, a_bo0, a_bo1, a_brCT, a_brCF, a_cond, a_sid, a_sic, a_sib, a_mea, a_meb, a_mec, b_add, b_sub, c_lt, c_le, c_gt, c_ge, c_eqI, c_neI, c_eqS, c_neS, c_isB, c_isnotB, p_lenL, p_lenT, p_int, p_max, p_min, p_tupL, p_lstT, p_lstL, i_l, i_t, at0, at1, at2, t_bool, s_l, s_t, bp_nm, bp_tp, bps0, bps1, sr_l, sr_t, sr_n, startE, wipe, List.map_cons, List.map_nil, List.length_cons, List.length_nil, List.replicate, List.cons_append, List.nil_append, List.append_nil, Nat.reduceAdd, Nat.reduceSub, Nat.reduceMul, List.getElem?_cons_zero, List.getElem?_cons_succ, List.getElem?_nil, List.set_cons_zero, List.set_cons_succ, List.mapM_cons, List.mapM_nil, Option.pure_def, Option.bind_eq_bind, Option.bind_some, Bool.not_true, Bool.not_false, isNum, isTie, Bool.false_and, List.take_length]
  · have hz : isTie pts x = false := tie_no fun a b c d e => ht ⟨_, e⟩
    simp only [w_var, a_var, w_con, w_glo, w_op, k_op1, k_op2, w_neg, k_neg, w_cmp, k_cm1, k_cm2, w_chain, k_ch1, k_ch2, w_and, k_and, w_or, k_or, w_not, k_not, w_ite, k_ite, w_tup, k_tup, w_lst, k_lst, w_call, k_call, w_prim, k_prim, w_isi, k_isi, w_ix, k_ix1, k_ix2, w_ts0, w_ts, k_ts1, k_ts2, w_ds0, w_ds, k_ds1d, k_ds1n, k_ds2, x_nil, x_cons, x_set, k_set, x_setM, k_setMt, k_setMn, x_expr, k_expr, x_ret, k_ret, x_retN, x_pass, x_ife, k_if, x_for, k_for, k_finN, k_finD, k_finL, st_t, st_n, rd_d, rd_ref, w_sl, k_sl, k_sl1, k_sl2, w_o0, w_o_var, w_o_con, w_o_op, k_o, w_it_var, w_it_con, w_it_ix, w_it_lst, w_it_tup, w_it_call, w_it_prim, w_it_sl, w_it_op, w_it_comp, w_it_ite, k_src, w_rng, k_rng, w_comp, k_comp, k_eltD, k_eltN, k_cond, body0, body1, x_setI, k_si1, k_si2, k_si3, w_meth, k_me1, k_me2, nxt_next, nxt_ret, nxt_brk, nxt_cont, wp_ok, wps_ok, w_dct0, a_dct1, wps_bt, a_bt, x_parM, w_evT, w_evF, a_alT, a_alN, a_stl, k_pm1, k_pm2, tB, oK_some, a_at, a_atB, a_atD, a_opb, a_opa, a_cmb, a_cma, a_ixb, a_ixa, a_neg, a_chT, a_chF, a_cha2, a_cha, a_brAT, a_brAF, a_brOT, a_brOF, a_brIT, a_brIF, a_brST, a_brSF, a_and, a_or, a_not, a_ite, a_if, a_prim, a_isi, a_set, a_slb, a_o, a_src, a_rng, a_bo0, a_bo1, a_brCT, a_brCF, a_cond, a_sid, a_sic, a_sib, a_mea, a_meb, a_mec, b_add, b_sub, c_lt, c_le, c_gt, c_ge, c_eqI, c_neI, c_eqS, c_neS, c_isB, c_isnotB, p_lenL, p_lenT, p_int, p_max, p_min, p_tupL, p_lstT, p_lstL, i_l, i_t, at0, at1, at2, t_bool, s_l, s_t, bp_nm, bp_tp, bps0, bps1, sr_l, sr_t, sr_n, startE, wipe, List.map_cons, List.map_nil, List.length_cons, List.length_nil, List.replicate, List.cons_append, List.nil_append, List.append_nil, Nat.reduceAdd, Nat.reduceSub, Nat.reduceMul, List.getElem?_cons_zero, List.getElem?_cons_succ, List.getElem?_nil, List.set_cons_zero, List.set_cons_succ, List.mapM_cons, List.mapM_nil, Option.pure_def, Option.bind_eq_bind, Option.bind_some, Bool.not_true, Bool.not_false, not_tup fun xs e => ht ⟨xs, e⟩, hz, List.take_length]
theorem q_tie (hp : Pts pts) : (callN tbl wf (n + 3) 16 [.d x, .d (.tuple pts)] st).wp k = k (.t (.d (.bool (isTie pts x)))) st := by
  rw [wp_callN (d := d__law_is_tie) rfl rfl]
  unfold d__law_is_tie
  by_cases ht : ∃ xs, x = .tuple xs
  · obtain ⟨xs, rfl⟩ := ht
    simp only [w_var, a_var, w_con, w_glo, w_op, k_op1, k_op2, w_neg, k_neg, w_cmp, k_cm1, k_cm2, w_chain, k_ch1, k_ch2, w_and, k_and, w_or, k_or, w_not, k_not, w_ite, k_ite, w_tup, k_tup, w_lst, k_lst, w_call, k_call, w_prim, k_prim, w_isi, k_isi, w_ix, k_ix1, k_ix2, w_ts0, w_ts, k_ts1, k_ts2, w_ds0, w_ds, k_ds1d, k_ds1n, k_ds2, x_nil, x_cons, x_set, k_set, x_setM, k_setMt, k_setMn, x_expr, k_expr, x_ret, k_ret, x_retN, x_pass, x_ife, k_if, x_for, k_for, k_finN, k_finD, k_finL, st_t, st_n, rd_d, rd_ref, w_sl, k_sl, k_sl1, k_sl2, w_o0, w_o_var, w_o_con, w_o_op, k_o, w_it_var, w_it_con, w_it_ix, w_it_lst, w_it_tup, w_it_call, w_it_prim, w_it_sl, w_it_op, w_it_comp, w_it_ite, k_src, w_rng, k_rng, w_comp, k_comp, k_eltD, k_eltN, k_cond, body0, body1, x_setI, k_si1, k_si2, k_si3, w_meth, k_me1, k_me2, nxt_next, nxt_ret, nxt_brk, nxt_cont, wp_ok, wps_ok, w_dct0, a_dct1, wps_bt, a_bt, x_parM, w_evT, w_evF, a_alT, a_alN, a_stl, k_pm1, k_pm2, tB, oK_some, a_at, a_atB, a_atD, a_opb, a_opa, a_cmb, a_cma, a_ixb, a_ixa, a_neg, a_chT, a_chF, a_cha2, a_cha, a_brAT, a_brAF, a_brOT, a_brOF, a_brIT, a_brIF, a_brST, a_brSF, a_and, a_or, a_not, a_ite, a_if, a_prim, a_isi, a_set, a_slb, a_o, a_src, a_rng, a_bo0, a_bo1, a_brCT, a_brCF, a_cond, a_sid, a_sic, a_sib, a_mea, a_meb, a_mec, b_add, b_sub, c_lt, c_le, c_gt, c_ge, c_eqI, c_neI, c_eqS, c_neS, c_isB, c_isnotB, p_lenL, p_lenT, p_int, p_max, p_min, p_tupL, p_lstT, p_lstL, i_l, i_t, at0, at1, at2, t_bool, s_l, s_t, bp_nm, bp_tp, bps0, bps1, sr_l, sr_t, sr_n, startE, wipe, List.map_cons, List.map_nil, List.length_cons, List.length_nil, List.replicate, List.cons_append, List.nil_append, List.append_nil, Nat.reduceAdd, Nat.reduceSub, Nat.reduceMul, List.getElem?_cons_zero, List.getElem?_cons_succ, List.getElem?_nil, List.set_cons_zero, List.set_cons_succ, List.mapM_cons, List.mapM_nil, Option.pure_def, Option.bind_eq_bind, Option.bind_some, Bool.not_true, Bool.not_false, show isiD .tuple (.tuple xs) = true from rfl]
    cases h2 : decide ((xs.length : Int) = 4) with
    | false =>
      have hz : isTie pts (.tuple xs) = false := tie_no fun a b c d e => by cases e; simp at h2
      simp only [w_var, a_var, w_con, w_glo, w_op, k_op1, k_op2, w_neg, k_neg, w_cmp, k_cm1, k_cm2, w_chain, k_ch1, k_ch2, w_and, k_and, w_or, k_or, w_not, k_not, w_ite, k_ite, w_tup, k_tup, w_lst, k_lst, w_call, k_call, w_prim, k_prim, w_isi, k_isi, w_ix, k_ix1, k_ix2, w_ts0, w_ts, k_ts1, k_ts2, w_ds0, w_ds, k_ds1d, k_ds1n, k_ds2, x_nil, x_cons, x_set, k_set, x_setM, k_setMt, k_setMn, x_expr, k_expr, x_ret, k_ret, x_retN, x_pass, x_ife, k_if, x_for, k_for, k_finN, k_finD, k_finL, st_t, st_n, rd_d, rd_ref, w_sl, k_sl, k_sl1, k_sl2, w_o0, w_o_var, w_o_con, w_o_op, k_o, w_it_var, w_it_con, w_it_ix, w_it_lst, w_it_tup, w_it_call, w_it_prim, w_it_sl, w_it_op, w_it_comp, w_it_ite, k_src, w_rng, k_rng, w_comp, k_comp, k_eltD, k_eltN, k_cond, body0, body1, x_setI, k_si1, k_si2, k_si3, w_meth, k_me1, k_me2, nxt_next, nxt_ret, nxt_brk, nxt_cont, wp_ok, wps_ok, w_dct0, a_dct1, wps_bt, a_bt, x_parM, w_evT, w_evF, a_alT, a_alN, a_stl, k_pm1, k_pm2, tB, oK_some, a_at, a_atB, a_atD, a_opb, a_opa, a_cmb, a_cma, a_ixb, a_ixa, a_neg, a_chT, a_chF, a_cha2, a_cha, a_brAT, a_brAF, a_brOT, a_brOF, a_brIT, a_brIF, a_brST, a_brSF, a_and, a_or, a_not, a_ite, a_if, a_prim, a_isi, a_set, a_slb, a_o, a_src, a_rng, a_bo0, a_bo1, a_brCT, a_brCF, a_cond, a_sid, a_sic, a_sib, a_mea, a_meb, a_mec, b_add, b_sub, c_lt, c_le, c_gt, c_ge, c_eqI, c_neI, c_eqS, c_neS, c_isB, c_isnotB, p_lenL, p_lenT, p_int, p_max, p_min, p_tupL, p_lstT, p_lstL, i_l, i_t, at0, at1, at2, t_bool, s_l, s_t, bp_nm, bp_tp, bps0, bps1, sr_l, sr_t, sr_n, startE, wipe, List.map_cons, List.map_nil, List.length_cons, List.length_nil, List.replicate, List.cons_append, List.nil_append, List.append_nil, Nat.reduceAdd, Nat.reduceSub, Nat.reduceMul, List.getElem?_cons_zero, List.getElem?_cons_succ, List.getElem?_nil, List.set_cons_zero, List.set_cons_succ, List.mapM_cons, List.mapM_nil, Option.pure_def, Option.bind_eq_bind, Option.bind_some, Bool.not_true, Bool.not_false, hz, List.take_length]
    | true =>
      obtain ⟨a, b, c, d, rfl⟩ := len4 h2
      simp only [w_var, a_var, w_con, w_glo, w_op, k_op1, k_op2, w_neg, k_neg, w_cmp, k_cm1, k_cm2, w_chain, k_ch1, k_ch2, w_and, k_and, w_or, k_or, w_not, k_not, w_ite, k_ite, w_tup, k_tup, w_lst, k_lst, w_call, k_call, w_prim, k_prim, w_isi, k_isi, w_ix, k_ix1, k_ix2, w_ts0, w_ts, k_ts1, k_ts2, w_ds0, w_ds, k_ds1d, k_ds1n, k_ds2, x_nil, x_cons, x_set, k_set, x_setM, k_setMt, k_setMn, x_expr, k_expr, x_ret, k_ret, x_retN, x_pass, x_ife, k_if, x_for, k_for, k_finN, k_finD, k_finL, st_t, st_n, rd_d, rd_ref, w_sl, k_sl, k_sl1, k_sl2, w_o0, w_o_var, w_o_con, w_o_op, k_o, w_it_var, w_it_con, w_it_ix, w_it_lst, w_it_tup, w_it_call, w_it_prim, w_it_sl, w_it_op, w_it_comp, w_it_ite, k_src, w_rng, k_rng, w_comp, k_comp, k_eltD, k_eltN, k_cond, body0, body1, x_setI, k_si1, k_si2, k_si3, w_meth, k_me1, k_me2, nxt_next, nxt_ret, nxt_brk, nxt_cont, wp_ok, wps_ok, w_dct0, a_dct1, wps_bt, a_bt, x_parM, w_evT, w_evF, a_alT, a_alN, a_stl, k_pm1, k_pm2, tB, oK_some, a_at, a_atB, a_atD, a_opb, a_opa, a_cmb, a_cma, a_ixb, a_ixa, a_neg, a_chT, a_chF, a_cha2, a_cha, a_brAT, a_brAF, a_brOT, a_brOF, a_brIT, a_brIF, a_brST, a_brSF, a_and, a_or, a_not, a_ite, a_if, a_prim, a_isi, a_set, a_slb, a_o, a_src, a_rng, a_bo0, a_bo1, a_brCT, a_brCF, a_cond, a_sid, a_sic, a_sib, a_mea, a_meb, a_mec, b_add, b_sub, c_lt, c_le, c_gt, c_ge, c_eqI, c_neI, c_eqS, c_neS, c_isB, c_isnotB, p_lenL, p_lenT, p_int, p_max, p_min, p_tupL, p_lstT, p_lstL, i_l, i_t, at0, at1, at2, t_bool, s_l, s_t, bp_nm, bp_tp, bps0, bps1, sr_l, sr_t, sr_n, startE, wipe, List.map_cons, List.map_nil, List.length_cons, List.length_nil, List.replicate, List.cons_append, List.nil_append, List.append_nil, Nat.reduceAdd, Nat.reduceSub, Nat.reduceMul, List.getElem?_cons_zero, List.getElem?_cons_succ, List.getElem?_nil, List.set_cons_zero, List.set_cons_succ, List.mapM_cons, List.mapM_nil, Option.pure_def, Option.bind_eq_bind, Option.bind_some, Bool.not_true, Bool.not_false, show cutD [a, b, c, d] (some 2) none = [c, d] from rfl, q_num]
      cases b with
      | int j =>
        by_cases hj : 1 ≤ j ∧ j ≤ pts.length - 1
        · have e1 : isNum (.int j) 1 (pts.length - 1) = true := by simp [isNum, hj.1, hj.2]
          simp only [w_var, a_var, w_con, w_glo, w_op, k_op1, k_op2, w_neg, k_neg, w_cmp, k_cm1, k_cm2, w_chain, k_ch1, k_ch2, w_and, k_and, w_or, k_or, w_not, k_not, w_ite, k_ite, w_tup, k_tup, w_lst, k_lst, w_call, k_call, w_prim, k_prim, w_isi, k_isi, w_ix, k_ix1, k_ix2, w_ts0, w_ts, k_ts1, k_ts2, w_ds0, w_ds, k_ds1d, k_ds1n, k_ds2, x_nil, x_cons, x_set, k_set, x_setM, k_setMt, k_setMn, x_expr, k_expr, x_ret, k_ret, x_retN, x_pass, x_ife, k_if, x_for, k_for, k_finN, k_finD, k_finL, st_t, st_n, rd_d, rd_ref, w_sl, k_sl, k_sl1, k_sl2, w_o0, w_o_var, w_o_con, w_o_op, k_o, w_it_var, w_it_con, w_it_ix, w_it_lst, w_it_tup, w_it_call, w_it_prim, w_it_sl, w_it_op, w_it_comp, w_it_ite, k_src, w_rng, k_rng, w_comp, k_comp, k_eltD, k_eltN, k_cond, body0, body1, x_setI, k_si1, k_si2, k_si3, w_meth, k_me1, k_me2, nxt_next, nxt_ret, nxt_brk, nxt_cont, wp_ok, wps_ok, w_dct0, a_dct1, wps_bt, a_bt, x_parM, w_evT, w_evF, a_alT, a_alN, a_stl, k_pm1, k_pm2, tB, oK_some, a_at, a_atB, a_atD, a_opb, a_opa, a_cmb, a_cma, a_ixb, a_ixa, a_neg, a_chT, a_chF, a_cha2, a_cha, a_brAT, a_brAF, a_brOT, a_brOF, a_brIT, a_brIF, a_brST, a_brSF, a_and, a_or, a_not, a_ite, a_if, a_prim, a_isi, a_set, a_slb, a_o, a_src, a_rng, a_bo0, a_bo1, a_brCT, a_brCF, a_cond, a_sid, a_sic, a_sib, a_mea, a_meb, a_mec, b_add, b_sub, c_lt, c_le, c_gt, c_ge, c_eqI, c_neI, c_eqS, c_neS, c_isB, c_isnotB, p_lenL, p_lenT, p_int, p_max, p_min, p_tupL, p_lstT, p_lstL, i_l, i_t, at0, at1, at2, t_bool, s_l, s_t, bp_nm, bp_tp, bps0, bps1, sr_l, sr_t, sr_n, startE, wipe, List.map_cons, List.map_nil, List.length_cons, List.length_nil, List.replicate, List.cons_append, List.nil_append, List.append_nil, Nat.reduceAdd, Nat.reduceSub, Nat.reduceMul, List.getElem?_cons_zero, List.getElem?_cons_succ, List.getElem?_nil, List.set_cons_zero, List.set_cons_succ, List.mapM_cons, List.mapM_nil, Option.pure_def, Option.bind_eq_bind, Option.bind_some, Bool.not_true, Bool.not_false, e1, q_num]
          cases a with
          | int i =>
            by_cases hi : 0 ≤ i ∧ i ≤ j - 1
            · have e2 : isNum (.int i) 0 (j - 1) = true := by simp [isNum, hi.1, hi.2]
              have hz : isTie pts (.tuple [.int i, .int j, c, d]) = isLife (.tuple [c, d]) (max2 (ptA pts i).1 (ptA pts j).1) (min2 (ptA pts i).2 (ptA pts j).2) := by
                have z1 : decide (0 ≤ i) = true := decide_eq_true hi.1
                have z2 : decide (i < j) = true := decide_eq_true (by omega)
                have z3 : decide (j < pts.length) = true := decide_eq_true (by omega)
                simp only [isTie, z1, z2, z3, Bool.true_and]
              have a1 := at_pt hp (i := i) hi.1 (by omega)
              have a2 := at_pt hp (i := j) (by omega) (by omega)
              simp only [w_var, a_var, w_con, w_glo, w_op, k_op1, k_op2, w_neg, k_neg, w_cmp, k_cm1, k_cm2, w_chain, k_ch1, k_ch2, w_and, k_and, w_or, k_or, w_not, k_not, w_ite, k_ite, w_tup, k_tup, w_lst, k_lst, w_call, k_call, w_prim, k_prim, w_isi, k_isi, w_ix, k_ix1, k_ix2, w_ts0, w_ts, k_ts1, k_ts2, w_ds0, w_ds, k_ds1d, k_ds1n, k_ds2, x_nil, x_cons, x_set, k_set, x_setM, k_setMt, k_setMn, x_expr, k_expr, x_ret, k_ret, x_retN, x_pass, x_ife, k_if, x_for, k_for, k_finN, k_finD, k_finL, st_t, st_n, rd_d, rd_ref, w_sl, k_sl, k_sl1, k_sl2, w_o0, w_o_var, w_o_con, w_o_op, k_o, w_it_var, w_it_con, w_it_ix, w_it_lst, w_it_tup, w_it_call, w_it_prim, w_it_sl, w_it_op, w_it_comp, w_it_ite, k_src, w_rng, k_rng, w_comp, k_comp, k_eltD, k_eltN, k_cond, body0, body1, x_setI, k_si1, k_si2, k_si3, w_meth, k_me1, k_me2, nxt_next, nxt_ret, nxt_brk, nxt_cont, wp_ok, wps_ok, w_dct0, a_dct1, wps_bt, a_bt, x_parM, w_evT, w_evF, a_alT, a_alN, a_stl, k_pm1, k_pm2, tB, oK_some, a_at, a_atB, a_atD, a_opb, a_opa, a_cmb, a_cma, a_ixb, a_ixa, a_neg, a_chT, a_chF, a_cha2, a_cha, a_brAT, a_brAF, a_brOT, a_brOF, a_brIT, a_brIF, a_brST, a_brSF, a_and, a_or, a_not, a_ite, a_if, a_prim, a_isi, a_set, a_slb, a_o, a_src, a_rng, a_bo0, a_bo1, a_brCT, a_brCF, a_cond, a_sid, a_sic, a_sib, a_mea, a_meb, a_mec, b_add, b_sub, c_lt, c_le, c_gt, c_ge, c_eqI, c_neI, c_eqS, c_neS, c_isB, c_isnotB, p_lenL, p_lenT, p_int, p_max, p_min, p_tupL, p_lstT, p_lstL, i_l, i_t, at0, at1, at2, t_bool, s_l, s_t, bp_nm, bp_tp, bps0, bps1, sr_l, sr_t, sr_n, startE, wipe, List.map_cons, List.map_nil, List.length_cons, List.length_nil, List.replicate, List.cons_append, List.nil_append, List.append_nil, Nat.reduceAdd, Nat.reduceSub, Nat.reduceMul, List.getElem?_cons_zero, List.getElem?_cons_succ, List.getElem?_nil, List.set_cons_zero, List.set_cons_succ, List.mapM_cons, List.mapM_nil, Option.pure_def, Option.bind_eq_bind, Option.bind_some, Bool.not_true, Bool.not_false, e2, a1, a2, show cutD [PySem.PyData.int i, .int j, c, d] (some 2) none = [c, d] from rfl, q_life, hz, List.take_length]
              rfl
            · have e2 : isNum (.int i) 0 (j - 1) = false := by simp [isNum]; omega
              have hz : isTie pts (.tuple [.int i, .int j, c, d]) = false := by simp [isTie]; intros; omega
              simp only [w_var, a_var, w_con, w_glo, w_op, k_op1, k_op2, w_neg, k_neg, w_cmp, k_cm1, k_cm2, w_chain, k_ch1, k_ch2, w_and, k_and, w_or, k_or, w_not, k_not, w_ite, k_ite, w_tup, k_tup, w_lst, k_lst, w_call, k_call, w_prim, k_prim, w_isi, k_isi, w_ix, k_ix1, k_ix2, w_ts0, w_ts, k_ts1, k_ts2, w_ds0, w_ds, k_ds1d, k_ds1n, k_ds2, x_nil, x_cons, x_set, k_set, x_setM, k_setMt, k_setMn, x_expr, k_expr, x_ret, k_ret, x_retN, x_pass, x_ife, k_if, x_for, k_for, k_finN, k_finD, k_finL, st_t, st_n, rd_d, rd_ref, w_sl, k_sl, k_sl1, k_sl2, w_o0, w_o_var, w_o_con, w_o_op, k_o, w_it_var, w_it_con, w_it_ix, w_it_lst, w_it_tup, w_it_call, w_it_prim, w_it_sl, w_it_op, w_it_comp, w_it_ite, k_src, w_rng, k_rng, w_comp, k_comp, k_eltD, k_eltN, k_cond, body0, body1, x_setI, k_si1, k_si2, k_si3, w_meth, k_me1, k_me2, nxt_next, nxt_ret, nxt_brk, nxt_cont, wp_ok, wps_ok, w_dct0, a_dct1, wps_bt, a_bt, x_parM, w_evT, w_evF, a_alT, a_alN, a_stl, k_pm1, k_pm2, tB, oK_some, a_at, a_atB, a_atD, a_opb, a_opa, a_cmb, a_cma, a_ixb, a_ixa, a_neg, a_chT, a_chF, a_cha2, a_cha, a_brAT, a_brAF, a_brOT, a_brOF, a_brIT, a_brIF, a_brST, a_brSF, a_and, a_or, a_not, a_ite, a_if, a_prim, a_isi, a_set, a_slb, a_o, a_src, a_rng, a_bo0, a_bo1, a_brCT, a_brCF, a_cond, a_sid, a_sic, a_sib, a_mea, a_meb, a_mec, b_add, b_sub, c_lt, c_le, c_gt, c_ge, c_eqI, c_neI, c_eqS, c_neS, c_isB, c_isnotB, p_lenL, p_lenT, p_int, p_max, p_min, p_tupL, p_lstT, p_lstL, i_l, i_t, at0, at1, at2, t_bool, s_l, s_t, bp_nm, bp_tp, bps0, bps1, sr_l, sr_t, sr_n, startE, wipe, List.map_cons, List.map_nil, List.length_cons, List.length_nil, List.replicate, List.cons_append, List.nil_append, List.append_nil, Nat.reduceAdd, Nat.reduceSub, Nat.reduceMul, List.getElem?_cons_zero, List.getElem?_cons_succ, List.getElem?_nil, List.set_cons_zero, List.set_cons_succ, List.mapM_cons, List.mapM_nil, Option.pure_def, Option.bind_eq_bind, Option.bind_some, Bool.not_true, Bool.not_false, e2, hz, List.take_length]
          | _ => simp only [w_var, a_var, w_con, w_glo, w_op, k_op1, k_op2, w_neg, k_neg, w_cmp, k_cm1, k_cm2, w_chain, k_ch1, k_ch2, w_and, k_and, w_or, k_or, w_not, k_not, w_ite, k_ite, w_tup, k_tup, w_lst, k_lst, w_call, k_call, w_prim, k_prim, w_isi, k_isi, w_ix, k_ix1, k_ix2, w_ts0, w_ts, k_ts1, k_ts2, w_ds0, w_ds, k_ds1d, k_ds1n, k_ds2, x_nil, x_cons, x_set, k_set, x_setM, k_setMt, k_setMn, x_expr, k_expr, x_ret, k_ret, x_retN, x_pass, x_ife, k_if, x_for, k_for, k_finN, k_finD, k_finL, st_t, st_n, rd_d, rd_ref, w_sl, k_sl, k_sl1, k_sl2, w_o0, w_o_var, w_o_con, w_o_op, k_o, w_it_var, w_it_con, w_it_ix, w_it_lst, w_it_tup, w_it_call, w_it_prim, w_it_sl, w_it_op, w_it_comp, w_it_ite, k_src, w_rng, k_rng, w_comp, k_comp, k_eltD, k_eltN, k_cond, body0, body1, x_setI, k_si1, k_si2, k_si3, w_meth, k_me1, k_me2, nxt_next, nxt_ret, nxt_brk, nxt_cont, wp_ok, wps_ok, w_dct0, a_dct1, wps_bt, a_bt, x_parM, w_evT, w_evF, a_alT, a_alN, a_stl, k_pm1, k_pm2, tB, oK_some, a_at, a_atB, a_atD, a_opb, a_opa, a_cmb, a_cma, a_ixb, a_ixa, a_neg, a_chT, a_chF, a_cha2, a_cha, a_brAT, a_brAF, a_brOT, a_brOF, a_brIT, a_brIF, a_brST, a_brSF, a_and, a_or, a_not, a_ite, a_if, a_prim, a_isi, a_set, a_slb, a_o, a_src, a_rng, a_bo0, a_bo1, a_brCT, a_brCF, a_cond, a_sid, a_sic, a_sib, a_mea, a_meb, a_mec, b_add, b_sub, c_lt, c_le, c_gt, c_ge, c_eqI, c_neI, c_eqS, c_neS, c_isB, c_isnotB, p_lenL, p_lenT, p_int, p_max, p_min, p_tupL, p_lstT, p_lstL, i_l, i_t, at0, at1, at2, t_bool, s_l, s_t, bp_nm, bp_tp, bps0, bps1, sr_l, sr_t, sr_n, startE, wipe, List.map_cons, List.map_nil, List.length_cons, List.length_nil, List.replicate, List.cons_append, List.nil_append, List.append_nil, Nat.reduceAdd, Nat.reduceSub, Nat.reduceMul, List.getElem?_cons_zero, List.getElem?_cons_succ, List.getElem?_nil, List.set_cons_zero, List.set_cons_succ, List.mapM_cons, List.mapM_nil, Option.pure_def, Option.bind_eq_bind, Option.bind_some, Bool.not_true, Bool.not_false, isNum, isTie, List.take_length]
        · have e1 : isNum (.int j) 1 (pts.length - 1) = false := by simp [isNum]; omega
          have hz : isTie pts (.tuple [a, .int j, c, d]) = false := by
            cases a <;> simp [isTie]
            intros
            omega
          simp only [w_var, a_var, w_con, w_glo, w_op, k_op1, k_op2, w_neg, k_neg, w_cmp, k_cm1, k_cm2, w_chain, k_ch1, k_ch2, w_and, k_and, w_or, k_or, w_not, k_not, w_ite, k_ite, w_tup, k_tup, w_lst, k_lst, w_call, k_call, w_prim, k_prim, w_isi, k_isi, w_ix, k_ix1, k_ix2, w_ts0, w_ts, k_ts1, k_ts2, w_ds0, w_ds, k_ds1d, k_ds1n, k_ds2, x_nil, x_cons, x_set, k_set, x_setM, k_setMt, k_setMn, x_expr, k_expr, x_ret, k_ret, x_retN, x_pass, x_ife, k_if, x_for, k_for, k_finN, k_finD, k_finL, st_t, st_n, rd_d, rd_ref, w_sl, k_sl, k_sl1, k_sl2, w_o0, w_o_var, w_o_con, w_o_op, k_o, w_it_var, w_it_con, w_it_ix, w_it_lst, w_it_tup, w_it_call, w_it_prim, w_it_sl, w_it_op, w_it_comp, w_it_ite, k_src, w_rng, k_rng, w_comp, k_comp, k_eltD, k_eltN, k_cond, body0, body1, x_setI, k_si1, k_si2, k_si3, w_meth, k_me1, k_me2, nxt_next, nxt_ret, nxt_brk, nxt_cont, wp_ok, wps_ok, w_dct0, a_dct1, wps_bt, a_bt, x_parM, w_evT, w_evF, a_alT, a_alN, a_stl, k_pm1, k_pm2, tB, oK_some, a_at, a_atB, a_atD, a_opb, a_opa, a_cmb, a_cma, a_ixb, a_ixa, a_neg, a_chT, a_chF, a_cha2, a_cha, a_brAT, a_brAF, a_brOT, a_brOF, a_brIT, a_brIF, a_brST, a_brSF, a_and, a_or, a_not, a_ite, a_if, a_prim, a_isi, a_set, a_slb, a_o, a_src, a_rng, a_bo0, a_bo1, a_brCT, a_brCF, a_cond, a_sid, a_sic, a_sib, a_mea, a_meb, a_mec, b_add, b_sub, c_lt, c_le, c_gt, c_ge, c_eqI, c_neI, c_eqS, c_neS, c_isB, c_isnotB, p_lenL, p_lenT, p_int, p_max, p_min, p_tupL, p_lstT, p_lstL, i_l, i_t, at0, at1, at2, t_bool, s_l, s_t, bp_nm, bp_tp, bps0, bps1, sr_l, sr_t, sr_n, startE, wipe, List.map_cons, List.map_nil, List.length_cons, List.length_nil, List.replicate, List.cons_append, List.nil_append, List.append_nil, Nat.reduceAdd, Nat.reduceSub, Nat.reduceMul, List.getElem?_cons_zero, List.getElem?_cons_succ, List.getElem?_nil, List.set_cons_zero, List.set_cons_succ, List.mapM_cons, List.mapM_nil, Option.pure_def, Option.bind_eq_bind, Option.bind_some, Bool.not_true, Bool.not_false, e1, hz, List.take_length]
      | _ => cases a <;> simp only [w_var, a_var, w_con, w_glo, w_op, k_op1, k_op2, w_neg, k_neg, w_cmp, k_cm1, k_cm2, w_chain, k_ch1, k_ch2, w_and, k_and, w_or, k_or, w_not, k_not, w_ite, k_ite, w_tup, k_tup, w_lst, k_lst, w_call, k_call, w_prim, k_prim, w_isi, k_isi, w_ix, k_ix1, k_ix2, w_ts0, w_ts, k_ts1, k_ts2, w_ds0, w_ds, k_ds1d, k_ds1n, k_ds2, x_nil, x_cons, x_set, k_set, x_setM, k_setMt, k_setMn, x_expr, k_expr, x_ret, k_ret, x_retN, x_pass, x_ife, k_if, x_for, k_for, k_finN, k_finD, k_finL, st_t, st_n, rd_d, rd_ref, w_sl, k_sl, k_sl1, k_sl2, w_o0, w_o_var, w_o_con, w_o_op, k_o, w_it_var, w_it_con, w_it_ix, w_it_lst, w_it_tup, w_it_call, w_it_prim, w_it_sl, w_it_op, w_it_comp, w_it_ite, k_src, w_rng, k_rng, w_comp, k_comp, k_eltD, k_eltN, k_cond, body0, body1, x_setI, k_si1, k_si2, k_si3, w_meth, k_me1, k_me2, nxt_next, nxt_ret, nxt_brk, nxt_cont, wp_ok, wps_ok, w_dct0, a_dct1, wps_bt, a_bt, x_parM, w_evT, w_evF, a_alT, a_alN, a_stl, k_pm1, k_pm2, tB, oK_some, a_at, a_atB, a_atD, a_opb, a_opa, a_cmb, a_cma, a_ixb, a_ixa, a_neg, a_chT, a_chF, a_cha2, a_cha, a_brAT, a_brAF, a_brOT, a_brOF, a_brIT, a_brIF, a_brST, a_brSF, a_and, a_or, a_not, a_ite, a_if, a_prim, a_isi, a_set, a_slb, a_o, a_src, a_rng, a_bo0, a_bo1, a_brCT, a_brCF, a_cond, a_sid, a_sic, a_sib, a_mea, a_meb, a_mec, b_add, b_sub, c_lt, c_le, c_gt, c_ge, c_eqI, c_neI, c_eqS, c_neS, c_isB, c_isnotB, p_lenL, p_lenT, p_int, p_max, p_min, p_tupL, p_lstT, p_lstL, i_l, i_t, at0, at1, at2, t_bool, s_l, s_t, bp_nm, bp_tp, bps0, bps1, sr_l, sr_t, sr_n, startE, wipe, List.map_cons, List.map_nil, List.length_cons, List.length_nil, List.replicate, List.cons_append, List.nil_append, List.append_nil, Nat.reduceAdd, Nat.reduceSub, Nat.reduceMul, List.getElem?_cons_zero, List.getElem?_cons_succ, List.getElem?_nil, List.set_cons_zero, List.set_cons_succ, List.mapM_cons, List.mapM_nil, Option.pure_def, Option.bind_eq_bind, Option.bind_some, Bool.not_true, Bool.not_false, isNum, isTie, List.take_length]
  · have hz : isTie pts x = false := tie_no fun a b c d e => ht ⟨_, e⟩
    simp only [w_var, a_var, w_con, w_glo, w_op, k_op1, k_op2, w_neg, k_neg, w_cmp, k_cm1, k_cm2, w_chain, k_ch1, k_ch2, w_and, k_and, w_or, k_or, w_not, k_not, w_ite, k_ite, w_tup, k_tup, w_lst, k_lst, w_call, k_call, w_prim, k_prim, w_isi, k_isi, w_ix, k_ix1, k_ix2, w_ts0, w_ts, k_ts1, k_ts2, w_ds0, w_ds, k_ds1d, k_ds1n, k_ds2, x_nil, x_cons, x_set, k_set, x_setM, k_setMt, k_setMn, x_expr, k_expr, x_ret, k_ret, x_retN, x_pass, x_ife, k_if, x_for, k_for, k_finN, k_finD, k_finL, st_t, st_n, rd_d, rd_ref, w_sl, k_sl, k_sl1, k_sl2, w_o0, w_o_var, w_o_con, w_o_op, k_o, w_it_var, w_it_con, w_it_ix, w_it_lst, w_it_tup, w_it_call, w_it_prim, w_it_sl, w_it_op, w_it_comp, w_it_ite, k_src, w_rng, k_rng, w_comp, k_comp, k_eltD, k_eltN, k_cond, body0, body1, x_setI, k_si1, k_si2, k_si3, w_meth, k_me1, k_me2, nxt_next, nxt_ret, nxt_brk, nxt_cont, wp_ok, wps_ok, w_dct0, a_dct1, wps_bt, a_bt, x_parM, w_evT, w_evF, a_alT, a_alN, a_stl, k_pm1, k_pm2, tB, oK_some, a_at, a_atB, a_atD, a_opb, a_opa, a_cmb, a_cma, a_ixb, a_ixa, a_neg, a_chT, a_chF, a_cha2, a_cha, a_brAT, a_brAF, a_brOT, a_brOF, a_brIT, a_brIF, a_brST, a_brSF, a_and, a_or, a_not, a_ite, a_if, a_prim, a_isi, a_set, a_slb, a_o, a_src, a_rng, a_bo0, a_bo1, a_brCT, a_brCF, a_cond, a_sid, a_sic, a_sib, a_mea, a_meb, a_mec, b_add, b_sub, c_lt, c_le, c_gt, c_ge, c_eqI, c_neI, c_eqS, c_neS, c_isB, c_isnotB, p_lenL, p_lenT, p_int, p_max, p_min, p_tupL, p_lstT, p_lstL, i_l, i_t, at0, at1, at2, t_bool, s_l, s_t, bp_nm, bp_tp, bps0, bps1, sr_l, sr_t, sr_n, startE, wipe, List.map_cons, List.map_nil, List.length_cons, List.length_nil, List.replicate, List.cons_append, List.nil_append, List.append_nil, Nat.reduceAdd, Nat.reduceSub, Nat.reduceMul, List.getElem?_cons_zero, List.getElem?_cons_succ, List.getElem?_nil, List.set_cons_zero, List.set_cons_succ, List.mapM_cons, List.mapM_nil, Option.pure_def, Option.bind_eq_bind, Option.bind_some, Bool.not_true, Bool.not_false, not_tup fun xs e => ht ⟨xs, e⟩, hz, List.take_length]
end
end Lw


namespace Lw
open MP
def isNet (x : D) : Bool := match x with
  | .tuple [.int last, .tuple pts, .tuple ts] => decide (0 ≤ last) && decide (last ≤ 8) && decide (pts.length ≤ 7) && decide (ts.length ≤ 9) && pts.all (fun y => isLife y 0 last) && ts.all (isTie pts)
  | _ => false
theorem net_no {x : D} (h : ∀ a b c, x ≠ .tuple [a, b, c]) : isNet x = false := by
  unfold isNet
  split
  · exact absurd rfl (h _ _ _)
  · rfl
theorem life_pt {y : D} {lo hi : Int} (h : isLife y lo hi = true) : ∃ p q, y = .tuple [.int p, .int q] := by
  unfold isLife at h
  split at h
  · exact ⟨_, _, rfl⟩
  · cases h
theorem pts_of {pts : List D} {lo hi : Int} (h : pts.all (fun y => isLife y lo hi) = true) : Pts pts := fun y hy => life_pt (List.all_eq_true.mp h y hy)
/-- a list of ones -/
theorem ones_shaped : ∀ zs : List D, (∀ z ∈ zs, z = .int 1) → PySem.SeqAt.shaped (.list zs) = true := by
  intro zs h
  have h1 : ∀ zs : List D, (∀ z ∈ zs, z = .int 1) → PySem.PyData.canLayAll0 zs = true := by
    intro zs
    induction zs with
    | nil => intro _; rfl
    | cons z zs ih =>
      intro h
      simp only [PySem.PyData.canLayAll0, Bool.and_eq_true]
      refine ⟨?_, ih fun y hy => h y (by simp [hy])⟩
      rw [h z (by simp)]
      rfl
  have h2 : ∀ zs : List D, (∀ z ∈ zs, z = .int 1) → PySem.PyData.depthAll zs ≤ 1 := by
    intro zs
    induction zs with
    | nil => intro _; simp [PySem.PyData.depthAll]
    | cons z zs ih =>
      intro h
      have i1 := ih fun y hy => h y (by simp [hy])
      rw [h z (by simp)]
      simp only [PySem.PyData.depthAll, PySem.PyData.depth]
      omega
  have a1 := h1 zs h
  have a2 := h2 zs h
  simp only [PySem.SeqAt.shaped, PySem.PyData.canLay0, PySem.PyData.depth, a1, Bool.true_and]
  exact decide_eq_true (by omega)
theorem nil_shaped : PySem.SeqAt.shaped (.list []) = true := ones_shaped [] (by simp)
theorem eqv_nil {zs : List D} : PySem.PyData.eqv (.list zs) (.list []) = zs.isEmpty := by
  cases zs <;> simp [PySem.PyData.eqv, PySem.PyData.eqvAll]
theorem ones_empty {f : D → Bool} : ∀ xs : List D, (xs.filterMap fun y => if f y then some (.int 1 : D) else none).isEmpty = xs.all fun y => !f y
  | [] => rfl
  | x :: xs => by
    cases h : f x <;> simp [List.filterMap_cons, h]
    have := ones_empty (f := f) xs
    simpa using this
theorem ones_mem {f : D → Bool} {xs : List D} : ∀ z ∈ (xs.filterMap fun y => if f y then some (.int 1 : D) else none), z = .int 1 := by
  intro z hz
  obtain ⟨y, _, e⟩ := List.mem_filterMap.mp hz
  split at e
  · cases e; rfl
  · cases e
section
variable {n wf : Nat} {st : Store} {k : KR} {x : D}
theorem p_net : (callN tbl wf (n + 4) 3 [.d x] st).wp k = k (.t (.d (.bool (isNet x)))) st := by
  rw [wp_callN (d := d_is_net) rfl rfl]
  unfold d_is_net
  by_cases ht : ∃ xs, x = .tuple xs
  · obtain ⟨xs, rfl⟩ := ht
    simp only [w_var, a_var, w_con, w_glo, w_op, k_op1, k_op2, w_neg, k_neg, w_cmp, k_cm1, k_cm2, w_chain, k_ch1, k_ch2, w_and, k_and, w_or, k_or, w_not, k_not, w_ite, k_ite, w_tup, k_tup, w_lst, k_lst, w_call, k_call, w_prim, k_prim, w_isi, k_isi, w_ix, k_ix1, k_ix2, w_ts0, w_ts, k_ts1, k_ts2, w_ds0, w_ds, k_ds1d, k_ds1n, k_ds2, x_nil, x_cons, x_set, k_set, x_setM, k_setMt, k_setMn, x_expr, k_expr, x_ret, k_ret, x_retN, x_pass, x_ife, k_if, x_for, k_for, k_finN, k_finD, k_finL, st_t, st_n, rd_d, rd_ref, w_sl, k_sl, k_sl1, k_sl2, w_o0, w_o_var, w_o_con, w_o_op, k_o, w_it_var, w_it_con, w_it_ix, w_it_lst, w_it_tup, w_it_call, w_it_prim, w_it_sl, w_it_op, w_it_comp, w_it_ite, k_src, w_rng, k_rng, w_comp, k_comp, k_eltD, k_eltN, k_cond, body0, body1, x_setI, k_si1, k_si2, k_si3, w_meth, k_me1, k_me2, nxt_next, nxt_ret, nxt_brk, nxt_cont, wp_ok, wps_ok, w_dct0, a_dct1, wps_bt, a_bt, x_parM, w_evT, w_evF, a_alT, a_alN, a_stl, k_pm1, k_pm2, tB, oK_some, a_at, a_atB, a_atD, a_opb, a_opa, a_cmb, a_cma, a_ixb, a_ixa, a_neg, a_chT, a_chF, a_cha2, a_cha, a_brAT, a_brAF, a_brOT, a_brOF, a_brIT, a_brIF, a_brST, a_brSF, a_and, a_or, a_not, a_ite, a_if, a_prim, a_isi, a_set, a_slb, a_o, a_src, a_rng, a_bo0, a_bo1, a_brCT, a_brCF, a_cond, a_sid, a_sic, a_sib, a_mea, a_meb, a_mec, b_add, b_sub, c_lt, c_le, c_gt, c_ge, c_eqI, c_neI, c_eqS, c_neS, c_isB, c_isnotB, p_lenL, p_lenT, p_int, p_max, p_min, p_tupL, p_lstT, p_lstL, i_l, i_t, at0, at1, at2, t_bool, s_l, s_t, bp_nm, bp_tp, bps0, bps1, sr_l, sr_t, sr_n, startE, wipe, List.map_cons, List.map_nil, List.length_cons, List.length_nil, List.replicate, List.cons_append, List.nil_append, List.append_nil, Nat.reduceAdd, Nat.reduceSub, Nat.reduceMul, List.getElem?_cons_zero, List.getElem?_cons_succ, List.getElem?_nil, List.set_cons_zero, List.set_cons_succ, List.mapM_cons, List.mapM_nil, Option.pure_def, Option.bind_eq_bind, Option.bind_some, Bool.not_true, Bool.not_false, show isiD .tuple (.tuple xs) = true from rfl]
    cases h2 : decide ((xs.length : Int) = 3) with
    | false =>
      have hz : isNet (.tuple xs) = false := net_no fun a b c e => by cases e; simp at h2
      simp only [w_var, a_var, w_con, w_glo, w_op, k_op1, k_op2, w_neg, k_neg, w_cmp, k_cm1, k_cm2, w_chain, k_ch1, k_ch2, w_and, k_and, w_or, k_or, w_not, k_not, w_ite, k_ite, w_tup, k_tup, w_lst, k_lst, w_call, k_call, w_prim, k_prim, w_isi, k_isi, w_ix, k_ix1, k_ix2, w_ts0, w_ts, k_ts1, k_ts2, w_ds0, w_ds, k_ds1d, k_ds1n, k_ds2, x_nil, x_cons, x_set, k_set, x_setM, k_setMt, k_setMn, x_expr, k_expr, x_ret, k_ret, x_retN, x_pass, x_ife, k_if, x_for, k_for, k_finN, k_finD, k_finL, st_t, st_n, rd_d, rd_ref, w_sl, k_sl, k_sl1, k_sl2, w_o0, w_o_var, w_o_con, w_o_op, k_o, w_it_var, w_it_con, w_it_ix, w_it_lst, w_it_tup, w_it_call, w_it_prim, w_it_sl, w_it_op, w_it_comp, w_it_ite, k_src, w_rng, k_rng, w_comp, k_comp, k_eltD, k_eltN, k_cond, body0, body1, x_setI, k_si1, k_si2, k_si3, w_meth, k_me1, k_me2, nxt_next, nxt_ret, nxt_brk, nxt_cont, wp_ok, wps_ok, w_dct0, a_dct1, wps_bt, a_bt, x_parM, w_evT, w_evF, a_alT, a_alN, a_stl, k_pm1, k_pm2, tB, oK_some, a_at, a_atB, a_atD, a_opb, a_opa, a_cmb, a_cma, a_ixb, a_ixa, a_neg, a_chT, a_chF, a_cha2, a_cha, a_brAT, a_brAF, a_brOT, a_brOF, a_brIT, a_brIF, a_brST, a_brSF, a_and, a_or, a_not, a_ite, a_if, a_prim, a_isi, a_set, a_slb, a_o, a_src, a_rng, a_bo0, a_bo1, a_brCT, a_brCF, a_cond, a_sid, a_sic, a_sib, a_mea, a_meb, a_mec, b_add, b_sub, c_lt, c_le, c_gt, c_ge, c_eqI, c_neI, c_eqS, c_neS, c_isB, c_isnotB, p_lenL, p_lenT, p_int, p_max, p_min, p_tupL, p_lstT, p_lstL, i_l, i_t, at0, at1, at2, t_bool, s_l, s_t, bp_nm, bp_tp, bps0, bps1, sr_l, sr_t, sr_n, startE, wipe, List.map_cons, List.map_nil, List.length_cons, List.length_nil, List.replicate, List.cons_append, List.nil_append, List.append_nil, Nat.reduceAdd, Nat.reduceSub, Nat.reduceMul, List.getElem?_cons_zero, List.getElem?_cons_succ, List.getElem?_nil, List.set_cons_zero, List.set_cons_succ, List.mapM_cons, List.mapM_nil, Option.pure_def, Option.bind_eq_bind, Option.bind_some, Bool.not_true, Bool.not_false, hz, List.take_length]
    | true =>
      obtain ⟨a, b, c, rfl⟩ := len3 h2
      simp only [w_var, a_var, w_con, w_glo, w_op, k_op1, k_op2, w_neg, k_neg, w_cmp, k_cm1, k_cm2, w_chain, k_ch1, k_ch2, w_and, k_and, w_or, k_or, w_not, k_not, w_ite, k_ite, w_tup, k_tup, w_lst, k_lst, w_call, k_call, w_prim, k_prim, w_isi, k_isi, w_ix, k_ix1, k_ix2, w_ts0, w_ts, k_ts1, k_ts2, w_ds0, w_ds, k_ds1d, k_ds1n, k_ds2, x_nil, x_cons, x_set, k_set, x_setM, k_setMt, k_setMn, x_expr, k_expr, x_ret, k_ret, x_retN, x_pass, x_ife, k_if, x_for, k_for, k_finN, k_finD, k_finL, st_t, st_n, rd_d, rd_ref, w_sl, k_sl, k_sl1, k_sl2, w_o0, w_o_var, w_o_con, w_o_op, k_o, w_it_var, w_it_con, w_it_ix, w_it_lst, w_it_tup, w_it_call, w_it_prim, w_it_sl, w_it_op, w_it_comp, w_it_ite, k_src, w_rng, k_rng, w_comp, k_comp, k_eltD, k_eltN, k_cond, body0, body1, x_setI, k_si1, k_si2, k_si3, w_meth, k_me1, k_me2, nxt_next, nxt_ret, nxt_brk, nxt_cont, wp_ok, wps_ok, w_dct0, a_dct1, wps_bt, a_bt, x_parM, w_evT, w_evF, a_alT, a_alN, a_stl, k_pm1, k_pm2, tB, oK_some, a_at, a_atB, a_atD, a_opb, a_opa, a_cmb, a_cma, a_ixb, a_ixa, a_neg, a_chT, a_chF, a_cha2, a_cha, a_brAT, a_brAF, a_brOT, a_brOF, a_brIT, a_brIF, a_brST, a_brSF, a_and, a_or, a_not, a_ite, a_if, a_prim, a_isi, a_set, a_slb, a_o, a_src, a_rng, a_bo0, a_bo1, a_brCT, a_brCF, a_cond, a_sid, a_sic, a_sib, a_mea, a_meb, a_mec, b_add, b_sub, c_lt, c_le, c_gt, c_ge, c_eqI, c_neI, c_eqS, c_neS, c_isB, c_isnotB, p_lenL, p_lenT, p_int, p_max, p_min, p_tupL, p_lstT, p_lstL, i_l, i_t, at0, at1, at2, t_bool, s_l, s_t, bp_nm, bp_tp, bps0, bps1, sr_l, sr_t, sr_n, startE, wipe, List.map_cons, List.map_nil, List.length_cons, List.length_nil, List.replicate, List.cons_append, List.nil_append, List.append_nil, Nat.reduceAdd, Nat.reduceSub, Nat.reduceMul, List.getElem?_cons_zero, List.getElem?_cons_succ, List.getElem?_nil, List.set_cons_zero, List.set_cons_succ, List.mapM_cons, List.mapM_nil, Option.pure_def, Option.bind_eq_bind, Option.bind_some, Bool.not_true, Bool.not_false, p_num]
      cases a with
      | int last =>
        by_cases hl : 0 ≤ last ∧ last ≤ 8
        · have e1 : isNum (.int last) 0 8 = true := by simp [isNum, hl.1, hl.2]
          simp only [w_var, a_var, w_con, w_glo, w_op, k_op1, k_op2, w_neg, k_neg, w_cmp, k_cm1, k_cm2, w_chain, k_ch1, k_ch2, w_and, k_and, w_or, k_or, w_not, k_not, w_ite, k_ite, w_tup, k_tup, w_lst, k_lst, w_call, k_call, w_prim, k_prim, w_isi, k_isi, w_ix, k_ix1, k_ix2, w_ts0, w_ts, k_ts1, k_ts2, w_ds0, w_ds, k_ds1d, k_ds1n, k_ds2, x_nil, x_cons, x_set, k_set, x_setM, k_setMt, k_setMn, x_expr, k_expr, x_ret, k_ret, x_retN, x_pass, x_ife, k_if, x_for, k_for, k_finN, k_finD, k_finL, st_t, st_n, rd_d, rd_ref, w_sl, k_sl, k_sl1, k_sl2, w_o0, w_o_var, w_o_con, w_o_op, k_o, w_it_var, w_it_con, w_it_ix, w_it_lst, w_it_tup, w_it_call, w_it_prim, w_it_sl, w_it_op, w_it_comp, w_it_ite, k_src, w_rng, k_rng, w_comp, k_comp, k_eltD, k_eltN, k_cond, body0, body1, x_setI, k_si1, k_si2, k_si3, w_meth, k_me1, k_me2, nxt_next, nxt_ret, nxt_brk, nxt_cont, wp_ok, wps_ok, w_dct0, a_dct1, wps_bt, a_bt, x_parM, w_evT, w_evF, a_alT, a_alN, a_stl, k_pm1, k_pm2, tB, oK_some, a_at, a_atB, a_atD, a_opb, a_opa, a_cmb, a_cma, a_ixb, a_ixa, a_neg, a_chT, a_chF, a_cha2, a_cha, a_brAT, a_brAF, a_brOT, a_brOF, a_brIT, a_brIF, a_brST, a_brSF, a_and, a_or, a_not, a_ite, a_if, a_prim, a_isi, a_set, a_slb, a_o, a_src, a_rng, a_bo0, a_bo1, a_brCT, a_brCF, a_cond, a_sid, a_sic, a_sib, a_mea, a_meb, a_mec, b_add, b_sub, c_lt, c_le, c_gt, c_ge, c_eqI, c_neI, c_eqS, c_neS, c_isB, c_isnotB, p_lenL, p_lenT, p_int, p_max, p_min, p_tupL, p_lstT, p_lstL, i_l, i_t, at0, at1, at2, t_bool, s_l, s_t, bp_nm, bp_tp, bps0, bps1, sr_l, sr_t, sr_n, startE, wipe, List.map_cons, List.map_nil, List.length_cons, List.length_nil, List.replicate, List.cons_append, List.nil_append, List.append_nil, Nat.reduceAdd, Nat.reduceSub, Nat.reduceMul, List.getElem?_cons_zero, List.getElem?_cons_succ, List.getElem?_nil, List.set_cons_zero, List.set_cons_succ, List.mapM_cons, List.mapM_nil, Option.pure_def, Option.bind_eq_bind, Option.bind_some, Bool.not_true, Bool.not_false, e1]
          by_cases hb : ∃ pts, b = .tuple pts
          · obtain ⟨pts, rfl⟩ := hb
            simp only [w_var, a_var, w_con, w_glo, w_op, k_op1, k_op2, w_neg, k_neg, w_cmp, k_cm1, k_cm2, w_chain, k_ch1, k_ch2, w_and, k_and, w_or, k_or, w_not, k_not, w_ite, k_ite, w_tup, k_tup, w_lst, k_lst, w_call, k_call, w_prim, k_prim, w_isi, k_isi, w_ix, k_ix1, k_ix2, w_ts0, w_ts, k_ts1, k_ts2, w_ds0, w_ds, k_ds1d, k_ds1n, k_ds2, x_nil, x_cons, x_set, k_set, x_setM, k_setMt, k_setMn, x_expr, k_expr, x_ret, k_ret, x_retN, x_pass, x_ife, k_if, x_for, k_for, k_finN, k_finD, k_finL, st_t, st_n, rd_d, rd_ref, w_sl, k_sl, k_sl1, k_sl2, w_o0, w_o_var, w_o_con, w_o_op, k_o, w_it_var, w_it_con, w_it_ix, w_it_lst, w_it_tup, w_it_call, w_it_prim, w_it_sl, w_it_op, w_it_comp, w_it_ite, k_src, w_rng, k_rng, w_comp, k_comp, k_eltD, k_eltN, k_cond, body0, body1, x_setI, k_si1, k_si2, k_si3, w_meth, k_me1, k_me2, nxt_next, nxt_ret, nxt_brk, nxt_cont, wp_ok, wps_ok, w_dct0, a_dct1, wps_bt, a_bt, x_parM, w_evT, w_evF, a_alT, a_alN, a_stl, k_pm1, k_pm2, tB, oK_some, a_at, a_atB, a_atD, a_opb, a_opa, a_cmb, a_cma, a_ixb, a_ixa, a_neg, a_chT, a_chF, a_cha2, a_cha, a_brAT, a_brAF, a_brOT, a_brOF, a_brIT, a_brIF, a_brST, a_brSF, a_and, a_or, a_not, a_ite, a_if, a_prim, a_isi, a_set, a_slb, a_o, a_src, a_rng, a_bo0, a_bo1, a_brCT, a_brCF, a_cond, a_sid, a_sic, a_sib, a_mea, a_meb, a_mec, b_add, b_sub, c_lt, c_le, c_gt, c_ge, c_eqI, c_neI, c_eqS, c_neS, c_isB, c_isnotB, p_lenL, p_lenT, p_int, p_max, p_min, p_tupL, p_lstT, p_lstL, i_l, i_t, at0, at1, at2, t_bool, s_l, s_t, bp_nm, bp_tp, bps0, bps1, sr_l, sr_t, sr_n, startE, wipe, List.map_cons, List.map_nil, List.length_cons, List.length_nil, List.replicate, List.cons_append, List.nil_append, List.append_nil, Nat.reduceAdd, Nat.reduceSub, Nat.reduceMul, List.getElem?_cons_zero, List.getElem?_cons_succ, List.getElem?_nil, List.set_cons_zero, List.set_cons_succ, List.mapM_cons, List.mapM_nil, Option.pure_def, Option.bind_eq_bind, Option.bind_some, Bool.not_true, Bool.not_false, show isiD .tuple (.tuple pts) = true from rfl]
            by_cases hn : (7 : Int) < pts.length
            · have hz : isNet (.tuple [.int last, .tuple pts, c]) = false := by
                unfold isNet
                split
                · rename_i heq
                  cases heq
                  have : decide (pts.length ≤ 7) = false := decide_eq_false (by omega)
                  simp [this]
                · rfl
              simp only [w_var, a_var, w_con, w_glo, w_op, k_op1, k_op2, w_neg, k_neg, w_cmp, k_cm1, k_cm2, w_chain, k_ch1, k_ch2, w_and, k_and, w_or, k_or, w_not, k_not, w_ite, k_ite, w_tup, k_tup, w_lst, k_lst, w_call, k_call, w_prim, k_prim, w_isi, k_isi, w_ix, k_ix1, k_ix2, w_ts0, w_ts, k_ts1, k_ts2, w_ds0, w_ds, k_ds1d, k_ds1n, k_ds2, x_nil, x_cons, x_set, k_set, x_setM, k_setMt, k_setMn, x_expr, k_expr, x_ret, k_ret, x_retN, x_pass, x_ife, k_if, x_for, k_for, k_finN, k_finD, k_finL, st_t, st_n, rd_d, rd_ref, w_sl, k_sl, k_sl1, k_sl2, w_o0, w_o_var, w_o_con, w_o_op, k_o, w_it_var, w_it_con, w_it_ix, w_it_lst, w_it_tup, w_it_call, w_it_prim, w_it_sl, w_it_op, w_it_comp, w_it_ite, k_src, w_rng, k_rng, w_comp, k_comp, k_eltD, k_eltN, k_cond, body0, body1, x_setI, k_si1, k_si2, k_si3, w_meth, k_me1, k_me2, nxt_next, nxt_ret, nxt_brk, nxt_cont, wp_ok, wps_ok, w_dct0, a_dct1, wps_bt, a_bt, x_parM, w_evT, w_evF, a_alT, a_alN, a_stl, k_pm1, k_pm2, tB, oK_some, a_at, a_atB, a_atD, a_opb, a_opa, a_cmb, a_cma, a_ixb, a_ixa, a_neg, a_chT, a_chF, a_cha2, a_cha, a_brAT, a_brAF, a_brOT, a_brOF, a_brIT, a_brIF, a_brST, a_brSF, a_and, a_or, a_not, a_ite, a_if, a_prim, a_isi, a_set, a_slb, a_o, a_src, a_rng, a_bo0, a_bo1, a_brCT, a_brCF, a_cond, a_sid, a_sic, a_sib, a_mea, a_meb, a_mec, b_add, b_sub, c_lt, c_le, c_gt, c_ge, c_eqI, c_neI, c_eqS, c_neS, c_isB, c_isnotB, p_lenL, p_lenT, p_int, p_max, p_min, p_tupL, p_lstT, p_lstL, i_l, i_t, at0, at1, at2, t_bool, s_l, s_t, bp_nm, bp_tp, bps0, bps1, sr_l, sr_t, sr_n, startE, wipe, List.map_cons, List.map_nil, List.length_cons, List.length_nil, List.replicate, List.cons_append, List.nil_append, List.append_nil, Nat.reduceAdd, Nat.reduceSub, Nat.reduceMul, List.getElem?_cons_zero, List.getElem?_cons_succ, List.getElem?_nil, List.set_cons_zero, List.set_cons_succ, List.mapM_cons, List.mapM_nil, Option.pure_def, Option.bind_eq_bind, Option.bind_some, Bool.not_true, Bool.not_false, decide_eq_true hn, hz, List.take_length]
            · simp only [w_var, a_var, w_con, w_glo, w_op, k_op1, k_op2, w_neg, k_neg, w_cmp, k_cm1, k_cm2, w_chain, k_ch1, k_ch2, w_and, k_and, w_or, k_or, w_not, k_not, w_ite, k_ite, w_tup, k_tup, w_lst, k_lst, w_call, k_call, w_prim, k_prim, w_isi, k_isi, w_ix, k_ix1, k_ix2, w_ts0, w_ts, k_ts1, k_ts2, w_ds0, w_ds, k_ds1d, k_ds1n, k_ds2, x_nil, x_cons, x_set, k_set, x_setM, k_setMt, k_setMn, x_expr, k_expr, x_ret, k_ret, x_retN, x_pass, x_ife, k_if, x_for, k_for, k_finN, k_finD, k_finL, st_t, st_n, rd_d, rd_ref, w_sl, k_sl, k_sl1, k_sl2, w_o0, w_o_var, w_o_con, w_o_op, k_o, w_it_var, w_it_con, w_it_ix, w_it_lst, w_it_tup, w_it_call, w_it_prim, w_it_sl, w_it_op, w_it_comp, w_it_ite, k_src, w_rng, k_rng, w_comp, k_comp, k_eltD, k_eltN, k_cond, body0, body1, x_setI, k_si1, k_si2, k_si3, w_meth, k_me1, k_me2, nxt_next, nxt_ret, nxt_brk, nxt_cont, wp_ok, wps_ok, w_dct0, a_dct1, wps_bt, a_bt, x_parM, w_evT, w_evF, a_alT, a_alN, a_stl, k_pm1, k_pm2, tB, oK_some, a_at, a_atB, a_atD, a_opb, a_opa, a_cmb, a_cma, a_ixb, a_ixa, a_neg, a_chT, a_chF, a_cha2, a_cha, a_brAT, a_brAF, a_brOT, a_brOF, a_brIT, a_brIF, a_brST, a_brSF, a_and, a_or, a_not, a_ite, a_if, a_prim, a_isi, a_set, a_slb, a_o, a_src, a_rng, a_bo0, a_bo1, a_brCT, a_brCF, a_cond, a_sid, a_sic, a_sib, a_mea, a_meb, a_mec, b_add, b_sub, c_lt, c_le, c_gt, c_ge, c_eqI, c_neI, c_eqS, c_neS, c_isB, c_isnotB, p_lenL, p_lenT, p_int, p_max, p_min, p_tupL, p_lstT, p_lstL, i_l, i_t, at0, at1, at2, t_bool, s_l, s_t, bp_nm, bp_tp, bps0, bps1, sr_l, sr_t, sr_n, startE, wipe, List.map_cons, List.map_nil, List.length_cons, List.length_nil, List.replicate, List.cons_append, List.nil_append, List.append_nil, Nat.reduceAdd, Nat.reduceSub, Nat.reduceMul, List.getElem?_cons_zero, List.getElem?_cons_succ, List.getElem?_nil, List.set_cons_zero, List.set_cons_succ, List.mapM_cons, List.mapM_nil, Option.pure_def, Option.bind_eq_bind, Option.bind_some, Bool.not_true, Bool.not_false, decide_eq_false hn]
              by_cases hc : ∃ ts, c = .tuple ts
              · obtain ⟨ts, rfl⟩ := hc
                simp only [w_var, a_var, w_con, w_glo, w_op, k_op1, k_op2, w_neg, k_neg, w_cmp, k_cm1, k_cm2, w_chain, k_ch1, k_ch2, w_and, k_and, w_or, k_or, w_not, k_not, w_ite, k_ite, w_tup, k_tup, w_lst, k_lst, w_call, k_call, w_prim, k_prim, w_isi, k_isi, w_ix, k_ix1, k_ix2, w_ts0, w_ts, k_ts1, k_ts2, w_ds0, w_ds, k_ds1d, k_ds1n, k_ds2, x_nil, x_cons, x_set, k_set, x_setM, k_setMt, k_setMn, x_expr, k_expr, x_ret, k_ret, x_retN, x_pass, x_ife, k_if, x_for, k_for, k_finN, k_finD, k_finL, st_t, st_n, rd_d, rd_ref, w_sl, k_sl, k_sl1, k_sl2, w_o0, w_o_var, w_o_con, w_o_op, k_o, w_it_var, w_it_con, w_it_ix, w_it_lst, w_it_tup, w_it_call, w_it_prim, w_it_sl, w_it_op, w_it_comp, w_it_ite, k_src, w_rng, k_rng, w_comp, k_comp, k_eltD, k_eltN, k_cond, body0, body1, x_setI, k_si1, k_si2, k_si3, w_meth, k_me1, k_me2, nxt_next, nxt_ret, nxt_brk, nxt_cont, wp_ok, wps_ok, w_dct0, a_dct1, wps_bt, a_bt, x_parM, w_evT, w_evF, a_alT, a_alN, a_stl, k_pm1, k_pm2, tB, oK_some, a_at, a_atB, a_atD, a_opb, a_opa, a_cmb, a_cma, a_ixb, a_ixa, a_neg, a_chT, a_chF, a_cha2, a_cha, a_brAT, a_brAF, a_brOT, a_brOF, a_brIT, a_brIF, a_brST, a_brSF, a_and, a_or, a_not, a_ite, a_if, a_prim, a_isi, a_set, a_slb, a_o, a_src, a_rng, a_bo0, a_bo1, a_brCT, a_brCF, a_cond, a_sid, a_sic, a_sib, a_mea, a_meb, a_mec, b_add, b_sub, c_lt, c_le, c_gt, c_ge, c_eqI, c_neI, c_eqS, c_neS, c_isB, c_isnotB, p_lenL, p_lenT, p_int, p_max, p_min, p_tupL, p_lstT, p_lstL, i_l, i_t, at0, at1, at2, t_bool, s_l, s_t, bp_nm, bp_tp, bps0, bps1, sr_l, sr_t, sr_n, startE, wipe, List.map_cons, List.map_nil, List.length_cons, List.length_nil, List.replicate, List.cons_append, List.nil_append, List.append_nil, Nat.reduceAdd, Nat.reduceSub, Nat.reduceMul, List.getElem?_cons_zero, List.getElem?_cons_succ, List.getElem?_nil, List.set_cons_zero, List.set_cons_succ, List.mapM_cons, List.mapM_nil, Option.pure_def, Option.bind_eq_bind, Option.bind_some, Bool.not_true, Bool.not_false, show isiD .tuple (.tuple ts) = true from rfl]
                by_cases hm : (9 : Int) < ts.length
                · have hz : isNet (.tuple [.int last, .tuple pts, .tuple ts]) = false := by
                    simp [isNet]
                    intros
                    omega
                  simp only [w_var, a_var, w_con, w_glo, w_op, k_op1, k_op2, w_neg, k_neg, w_cmp, k_cm1, k_cm2, w_chain, k_ch1, k_ch2, w_and, k_and, w_or, k_or, w_not, k_not, w_ite, k_ite, w_tup, k_tup, w_lst, k_lst, w_call, k_call, w_prim, k_prim, w_isi, k_isi, w_ix, k_ix1, k_ix2, w_ts0, w_ts, k_ts1, k_ts2, w_ds0, w_ds, k_ds1d, k_ds1n, k_ds2, x_nil, x_cons, x_set, k_set, x_setM, k_setMt, k_setMn, x_expr, k_expr, x_ret, k_ret, x_retN, x_pass, x_ife, k_if, x_for, k_for, k_finN, k_finD, k_finL, st_t, st_n, rd_d, rd_ref, w_sl, k_sl, k_sl1, k_sl2, w_o0, w_o_var, w_o_con, w_o_op, k_o, w_it_var, w_it_con, w_it_ix, w_it_lst, w_it_tup, w_it_call, w_it_prim, w_it_sl, w_it_op, w_it_comp, w_it_ite, k_src, w_rng, k_rng, w_comp, k_comp, k_eltD, k_eltN, k_cond, body0, body1, x_setI, k_si1, k_si2, k_si3, w_meth, k_me1, k_me2, nxt_next, nxt_ret, nxt_brk, nxt_cont, wp_ok, wps_ok, w_dct0, a_dct1, wps_bt, a_bt, x_parM, w_evT, w_evF, a_alT, a_alN, a_stl, k_pm1, k_pm2, tB, oK_some, a_at, a_atB, a_atD, a_opb, a_opa, a_cmb, a_cma, a_ixb, a_ixa, a_neg, a_chT, a_chF, a_cha2, a_cha, a_brAT, a_brAF, a_brOT, a_brOF, a_brIT, a_brIF, a_brST, a_brSF, a_and, a_or, a_not, a_ite, a_if, a_prim, a_isi, a_set, a_slb, a_o, a_src, a_rng, a_bo0, a_bo1, a_brCT, a_brCF, a_cond, a_sid, a_sic, a_sib, a_mea, a_meb, a_mec, b_add, b_sub, c_lt, c_le, c_gt, c_ge, c_eqI, c_neI, c_eqS, c_neS, c_isB, c_isnotB, p_lenL, p_lenT, p_int, p_max, p_min, p_tupL, p_lstT, p_lstL, i_l, i_t, at0, at1, at2, t_bool, s_l, s_t, bp_nm, bp_tp, bps0, bps1, sr_l, sr_t, sr_n, startE, wipe, List.map_cons, List.map_nil, List.length_cons, List.length_nil, List.replicate, List.cons_append, List.nil_append, List.append_nil, Nat.reduceAdd, Nat.reduceSub, Nat.reduceMul, List.getElem?_cons_zero, List.getElem?_cons_succ, List.getElem?_nil, List.set_cons_zero, List.set_cons_succ, List.mapM_cons, List.mapM_nil, Option.pure_def, Option.bind_eq_bind, Option.bind_some, Bool.not_true, Bool.not_false, decide_eq_true hm, hz, List.take_length]
                · simp only [w_var, a_var, w_con, w_glo, w_op, k_op1, k_op2, w_neg, k_neg, w_cmp, k_cm1, k_cm2, w_chain, k_ch1, k_ch2, w_and, k_and, w_or, k_or, w_not, k_not, w_ite, k_ite, w_tup, k_tup, w_lst, k_lst, w_call, k_call, w_prim, k_prim, w_isi, k_isi, w_ix, k_ix1, k_ix2, w_ts0, w_ts, k_ts1, k_ts2, w_ds0, w_ds, k_ds1d, k_ds1n, k_ds2, x_nil, x_cons, x_set, k_set, x_setM, k_setMt, k_setMn, x_expr, k_expr, x_ret, k_ret, x_retN, x_pass, x_ife, k_if, x_for, k_for, k_finN, k_finD, k_finL, st_t, st_n, rd_d, rd_ref, w_sl, k_sl, k_sl1, k_sl2, w_o0, w_o_var, w_o_con, w_o_op, k_o, w_it_var, w_it_con, w_it_ix, w_it_lst, w_it_tup, w_it_call, w_it_prim, w_it_sl, w_it_op, w_it_comp, w_it_ite, k_src, w_rng, k_rng, w_comp, k_comp, k_eltD, k_eltN, k_cond, body0, body1, x_setI, k_si1, k_si2, k_si3, w_meth, k_me1, k_me2, nxt_next, nxt_ret, nxt_brk, nxt_cont, wp_ok, wps_ok, w_dct0, a_dct1, wps_bt, a_bt, x_parM, w_evT, w_evF, a_alT, a_alN, a_stl, k_pm1, k_pm2, tB, oK_some, a_at, a_atB, a_atD, a_opb, a_opa, a_cmb, a_cma, a_ixb, a_ixa, a_neg, a_chT, a_chF, a_cha2, a_cha, a_brAT, a_brAF, a_brOT, a_brOF, a_brIT, a_brIF, a_brST, a_brSF, a_and, a_or, a_not, a_ite, a_if, a_prim, a_isi, a_set, a_slb, a_o, a_src, a_rng, a_bo0, a_bo1, a_brCT, a_brCF, a_cond, a_sid, a_sic, a_sib, a_mea, a_meb, a_mec, b_add, b_sub, c_lt, c_le, c_gt, c_ge, c_eqI, c_neI, c_eqS, c_neS, c_isB, c_isnotB, p_lenL, p_lenT, p_int, p_max, p_min, p_tupL, p_lstT, p_lstL, i_l, i_t, at0, at1, at2, t_bool, s_l, s_t, bp_nm, bp_tp, bps0, bps1, sr_l, sr_t, sr_n, startE, wipe, List.map_cons, List.map_nil, List.length_cons, List.length_nil, List.replicate, List.cons_append, List.nil_append, List.append_nil, Nat.reduceAdd, Nat.reduceSub, Nat.reduceMul, List.getElem?_cons_zero, List.getElem?_cons_succ, List.getElem?_nil, List.set_cons_zero, List.set_cons_succ, List.mapM_cons, List.mapM_nil, Option.pure_def, Option.bind_eq_bind, Option.bind_some, Bool.not_true, Bool.not_false, decide_eq_false hm]
                  rw [compL_mapD (h := fun y => .bool (isLife y 0 last)) (fun y hy ko => by simp only [w_var, a_var, w_con, w_glo, w_op, k_op1, k_op2, w_neg, k_neg, w_cmp, k_cm1, k_cm2, w_chain, k_ch1, k_ch2, w_and, k_and, w_or, k_or, w_not, k_not, w_ite, k_ite, w_tup, k_tup, w_lst, k_lst, w_call, k_call, w_prim, k_prim, w_isi, k_isi, w_ix, k_ix1, k_ix2, w_ts0, w_ts, k_ts1, k_ts2, w_ds0, w_ds, k_ds1d, k_ds1n, k_ds2, x_nil, x_cons, x_set, k_set, x_setM, k_setMt, k_setMn, x_expr, k_expr, x_ret, k_ret, x_retN, x_pass, x_ife, k_if, x_for, k_for, k_finN, k_finD, k_finL, st_t, st_n, rd_d, rd_ref, w_sl, k_sl, k_sl1, k_sl2, w_o0, w_o_var, w_o_con, w_o_op, k_o, w_it_var, w_it_con, w_it_ix, w_it_lst, w_it_tup, w_it_call, w_it_prim, w_it_sl, w_it_op, w_it_comp, w_it_ite, k_src, w_rng, k_rng, w_comp, k_comp, k_eltD, k_eltN, k_cond, body0, body1, x_setI, k_si1, k_si2, k_si3, w_meth, k_me1, k_me2, nxt_next, nxt_ret, nxt_brk, nxt_cont, wp_ok, wps_ok, w_dct0, a_dct1, wps_bt, a_bt, x_parM, w_evT, w_evF, a_alT, a_alN, a_stl, k_pm1, k_pm2, tB, oK_some, a_at, a_atB, a_atD, a_opb, a_opa, a_cmb, a_cma, a_ixb, a_ixa, a_neg, a_chT, a_chF, a_cha2, a_cha, a_brAT, a_brAF, a_brOT, a_brOF, a_brIT, a_brIF, a_brST, a_brSF, a_and, a_or, a_not, a_ite, a_if, a_prim, a_isi, a_set, a_slb, a_o, a_src, a_rng, a_bo0, a_bo1, a_brCT, a_brCF, a_cond, a_sid, a_sic, a_sib, a_mea, a_meb, a_mec, b_add, b_sub, c_lt, c_le, c_gt, c_ge, c_eqI, c_neI, c_eqS, c_neS, c_isB, c_isnotB, p_lenL, p_lenT, p_int, p_max, p_min, p_tupL, p_lstT, p_lstL, i_l, i_t, at0, at1, at2, t_bool, s_l, s_t, bp_nm, bp_tp, bps0, bps1, sr_l, sr_t, sr_n, startE, wipe, List.map_cons, List.map_nil, List.length_cons, List.length_nil, List.replicate, List.cons_append, List.nil_append, List.append_nil, Nat.reduceAdd, Nat.reduceSub, Nat.reduceMul, List.getElem?_cons_zero, List.getElem?_cons_succ, List.getElem?_nil, List.set_cons_zero, List.set_cons_succ, List.mapM_cons, List.mapM_nil, Option.pure_def, Option.bind_eq_bind, Option.bind_some, Bool.not_true, Bool.not_false, p_life])]
                  have hz : isNet (.tuple [.int last, .tuple pts, .tuple ts]) = (pts.all (fun y => isLife y 0 last) && ts.all (isTie pts)) := by
                    have z1 : decide (0 ≤ last) = true := decide_eq_true hl.1
                    have z2 : decide (last ≤ 8) = true := decide_eq_true hl.2
                    have z3 : decide (pts.length ≤ 7) = true := decide_eq_true (by omega)
                    have z4 : decide (ts.length ≤ 9) = true := decide_eq_true (by omega)
                    simp only [isNet, z1, z2, z3, z4, Bool.true_and]
                  simp only [w_var, a_var, w_con, w_glo, w_op, k_op1, k_op2, w_neg, k_neg, w_cmp, k_cm1, k_cm2, w_chain, k_ch1, k_ch2, w_and, k_and, w_or, k_or, w_not, k_not, w_ite, k_ite, w_tup, k_tup, w_lst, k_lst, w_call, k_call, w_prim, k_prim, w_isi, k_isi, w_ix, k_ix1, k_ix2, w_ts0, w_ts, k_ts1, k_ts2, w_ds0, w_ds, k_ds1d, k_ds1n, k_ds2, x_nil, x_cons, x_set, k_set, x_setM, k_setMt, k_setMn, x_expr, k_expr, x_ret, k_ret, x_retN, x_pass, x_ife, k_if, x_for, k_for, k_finN, k_finD, k_finL, st_t, st_n, rd_d, rd_ref, w_sl, k_sl, k_sl1, k_sl2, w_o0, w_o_var, w_o_con, w_o_op, k_o, w_it_var, w_it_con, w_it_ix, w_it_lst, w_it_tup, w_it_call, w_it_prim, w_it_sl, w_it_op, w_it_comp, w_it_ite, k_src, w_rng, k_rng, w_comp, k_comp, k_eltD, k_eltN, k_cond, body0, body1, x_setI, k_si1, k_si2, k_si3, w_meth, k_me1, k_me2, nxt_next, nxt_ret, nxt_brk, nxt_cont, wp_ok, wps_ok, w_dct0, a_dct1, wps_bt, a_bt, x_parM, w_evT, w_evF, a_alT, a_alN, a_stl, k_pm1, k_pm2, tB, oK_some, a_at, a_atB, a_atD, a_opb, a_opa, a_cmb, a_cma, a_ixb, a_ixa, a_neg, a_chT, a_chF, a_cha2, a_cha, a_brAT, a_brAF, a_brOT, a_brOF, a_brIT, a_brIF, a_brST, a_brSF, a_and, a_or, a_not, a_ite, a_if, a_prim, a_isi, a_set, a_slb, a_o, a_src, a_rng, a_bo0, a_bo1, a_brCT, a_brCF, a_cond, a_sid, a_sic, a_sib, a_mea, a_meb, a_mec, b_add, b_sub, c_lt, c_le, c_gt, c_ge, c_eqI, c_neI, c_eqS, c_neS, c_isB, c_isnotB, p_lenL, p_lenT, p_int, p_max, p_min, p_tupL, p_lstT, p_lstL, i_l, i_t, at0, at1, at2, t_bool, s_l, s_t, bp_nm, bp_tp, bps0, bps1, sr_l, sr_t, sr_n, startE, wipe, List.map_cons, List.map_nil, List.length_cons, List.length_nil, List.replicate, List.cons_append, List.nil_append, List.append_nil, Nat.reduceAdd, Nat.reduceSub, Nat.reduceMul, List.getElem?_cons_zero, List.getElem?_cons_succ, List.getElem?_nil, List.set_cons_zero, List.set_cons_succ, List.mapM_cons, List.mapM_nil, Option.pure_def, Option.bind_eq_bind, Option.bind_some, Bool.not_true, Bool.not_false, p_all]
                  cases hp : pts.all (fun y => isLife y 0 last) with
                  | false => simp only [w_var, a_var, w_con, w_glo, w_op, k_op1, k_op2, w_neg, k_neg, w_cmp, k_cm1, k_cm2, w_chain, k_ch1, k_ch2, w_and, k_and, w_or, k_or, w_not, k_not, w_ite, k_ite, w_tup, k_tup, w_lst, k_lst, w_call, k_call, w_prim, k_prim, w_isi, k_isi, w_ix, k_ix1, k_ix2, w_ts0, w_ts, k_ts1, k_ts2, w_ds0, w_ds, k_ds1d, k_ds1n, k_ds2, x_nil, x_cons, x_set, k_set, x_setM, k_setMt, k_setMn, x_expr, k_expr, x_ret, k_ret, x_retN, x_pass, x_ife, k_if, x_for, k_for, k_finN, k_finD, k_finL, st_t, st_n, rd_d, rd_ref, w_sl, k_sl, k_sl1, k_sl2, w_o0, w_o_var, w_o_con, w_o_op, k_o, w_it_var, w_it_con, w_it_ix, w_it_lst, w_it_tup, w_it_call, w_it_prim, w_it_sl, w_it_op, w_it_comp, w_it_ite, k_src, w_rng, k_rng, w_comp, k_comp, k_eltD, k_eltN, k_cond, body0, body1, x_setI, k_si1, k_si2, k_si3, w_meth, k_me1, k_me2, nxt_next, nxt_ret, nxt_brk, nxt_cont, wp_ok, wps_ok, w_dct0, a_dct1, wps_bt, a_bt, x_parM, w_evT, w_evF, a_alT, a_alN, a_stl, k_pm1, k_pm2, tB, oK_some, a_at, a_atB, a_atD, a_opb, a_opa, a_cmb, a_cma, a_ixb, a_ixa, a_neg, a_chT, a_chF, a_cha2, a_cha, a_brAT, a_brAF, a_brOT, a_brOF, a_brIT, a_brIF, a_brST, a_brSF, a_and, a_or, a_not, a_ite, a_if, a_prim, a_isi, a_set, a_slb, a_o, a_src, a_rng, a_bo0, a_bo1, a_brCT, a_brCF, a_cond, a_sid, a_sic, a_sib, a_mea, a_meb, a_mec, b_add, b_sub, c_lt, c_le, c_gt, c_ge, c_eqI, c_neI, c_eqS, c_neS, c_isB, c_isnotB, p_lenL, p_lenT, p_int, p_max, p_min, p_tupL, p_lstT, p_lstL, i_l, i_t, at0, at1, at2, t_bool, s_l, s_t, bp_nm, bp_tp, bps0, bps1, sr_l, sr_t, sr_n, startE, wipe, List.map_cons, List.map_nil, List.length_cons, List.length_nil, List.replicate, List.cons_append, List.nil_append, List.append_nil, Nat.reduceAdd, Nat.reduceSub, Nat.reduceMul, List.getElem?_cons_zero, List.getElem?_cons_succ, List.getElem?_nil, List.set_cons_zero, List.set_cons_succ, List.mapM_cons, List.mapM_nil, Option.pure_def, Option.bind_eq_bind, Option.bind_some, Bool.not_true, Bool.not_false, hz, hp, Bool.false_and, List.take_length]
                  | true =>
                    simp only [w_var, a_var, w_con, w_glo, w_op, k_op1, k_op2, w_neg, k_neg, w_cmp, k_cm1, k_cm2, w_chain, k_ch1, k_ch2, w_and, k_and, w_or, k_or, w_not, k_not, w_ite, k_ite, w_tup, k_tup, w_lst, k_lst, w_call, k_call, w_prim, k_prim, w_isi, k_isi, w_ix, k_ix1, k_ix2, w_ts0, w_ts, k_ts1, k_ts2, w_ds0, w_ds, k_ds1d, k_ds1n, k_ds2, x_nil, x_cons, x_set, k_set, x_setM, k_setMt, k_setMn, x_expr, k_expr, x_ret, k_ret, x_retN, x_pass, x_ife, k_if, x_for, k_for, k_finN, k_finD, k_finL, st_t, st_n, rd_d, rd_ref, w_sl, k_sl, k_sl1, k_sl2, w_o0, w_o_var, w_o_con, w_o_op, k_o, w_it_var, w_it_con, w_it_ix, w_it_lst, w_it_tup, w_it_call, w_it_prim, w_it_sl, w_it_op, w_it_comp, w_it_ite, k_src, w_rng, k_rng, w_comp, k_comp, k_eltD, k_eltN, k_cond, body0, body1, x_setI, k_si1, k_si2, k_si3, w_meth, k_me1, k_me2, nxt_next, nxt_ret, nxt_brk, nxt_cont, wp_ok, wps_ok, w_dct0, a_dct1, wps_bt, a_bt, x_parM, w_evT, w_evF, a_alT, a_alN, a_stl, k_pm1, k_pm2, tB, oK_some, a_at, a_atB, a_atD, a_opb, a_opa, a_cmb, a_cma, a_ixb, a_ixa, a_neg, a_chT, a_chF, a_cha2, a_cha, a_brAT, a_brAF, a_brOT, a_brOF, a_brIT, a_brIF, a_brST, a_brSF, a_and, a_or, a_not, a_ite, a_if, a_prim, a_isi, a_set, a_slb, a_o, a_src, a_rng, a_bo0, a_bo1, a_brCT, a_brCF, a_cond, a_sid, a_sic, a_sib, a_mea, a_meb, a_mec, b_add, b_sub, c_lt, c_le, c_gt, c_ge, c_eqI, c_neI, c_eqS, c_neS, c_isB, c_isnotB, p_lenL, p_lenT, p_int, p_max, p_min, p_tupL, p_lstT, p_lstL, i_l, i_t, at0, at1, at2, t_bool, s_l, s_t, bp_nm, bp_tp, bps0, bps1, sr_l, sr_t, sr_n, startE, wipe, List.map_cons, List.map_nil, List.length_cons, List.length_nil, List.replicate, List.cons_append, List.nil_append, List.append_nil, Nat.reduceAdd, Nat.reduceSub, Nat.reduceMul, List.getElem?_cons_zero, List.getElem?_cons_succ, List.getElem?_nil, List.set_cons_zero, List.set_cons_succ, List.mapM_cons, List.mapM_nil, Option.pure_def, Option.bind_eq_bind, Option.bind_some, Bool.not_true, Bool.not_false, hz, hp, Bool.true_and, List.take_length]
                    rw [compL_mapD (h := fun y => .bool (isTie pts y)) (fun y hy ko => by simp only [w_var, a_var, w_con, w_glo, w_op, k_op1, k_op2, w_neg, k_neg, w_cmp, k_cm1, k_cm2, w_chain, k_ch1, k_ch2, w_and, k_and, w_or, k_or, w_not, k_not, w_ite, k_ite, w_tup, k_tup, w_lst, k_lst, w_call, k_call, w_prim, k_prim, w_isi, k_isi, w_ix, k_ix1, k_ix2, w_ts0, w_ts, k_ts1, k_ts2, w_ds0, w_ds, k_ds1d, k_ds1n, k_ds2, x_nil, x_cons, x_set, k_set, x_setM, k_setMt, k_setMn, x_expr, k_expr, x_ret, k_ret, x_retN, x_pass, x_ife, k_if, x_for, k_for, k_finN, k_finD, k_finL, st_t, st_n, rd_d, rd_ref, w_sl, k_sl, k_sl1, k_sl2, w_o0, w_o_var, w_o_con, w_o_op, k_o, w_it_var, w_it_con, w_it_ix, w_it_lst, w_it_tup, w_it_call, w_it_prim, w_it_sl, w_it_op, w_it_comp, w_it_ite, k_src, w_rng, k_rng, w_comp, k_comp, k_eltD, k_eltN, k_cond, body0, body1, x_setI, k_si1, k_si2, k_si3, w_meth, k_me1, k_me2, nxt_next, nxt_ret, nxt_brk, nxt_cont, wp_ok, wps_ok, w_dct0, a_dct1, wps_bt, a_bt, x_parM, w_evT, w_evF, a_alT, a_alN, a_stl, k_pm1, k_pm2, tB, oK_some, a_at, a_atB, a_atD, a_opb, a_opa, a_cmb, a_cma, a_ixb, a_ixa, a_neg, a_chT, a_chF, a_cha2, a_cha, a_brAT, a_brAF, a_brOT, a_brOF, a_brIT, a_brIF, a_brST, a_brSF, a_and, a_or, a_not, a_ite, a_if, a_prim, a_isi, a_set, a_slb, a_o, a_src, a_rng, a_bo0, a_bo1, a_brCT, a_brCF, a_cond, a_sid, a_sic, a_sib, a_mea, a_meb, a_mec, b_add, b_sub, c_lt, c_le, c_gt, c_ge, c_eqI, c_neI, c_eqS, c_neS, c_isB, c_isnotB, p_lenL, p_lenT, p_int, p_max, p_min, p_tupL, p_lstT, p_lstL, i_l, i_t, at0, at1, at2, t_bool, s_l, s_t, bp_nm, bp_tp, bps0, bps1, sr_l, sr_t, sr_n, startE, wipe, List.map_cons, List.map_nil, List.length_cons, List.length_nil, List.replicate, List.cons_append, List.nil_append, List.append_nil, Nat.reduceAdd, Nat.reduceSub, Nat.reduceMul, List.getElem?_cons_zero, List.getElem?_cons_succ, List.getElem?_nil, List.set_cons_zero, List.set_cons_succ, List.mapM_cons, List.mapM_nil, Option.pure_def, Option.bind_eq_bind, Option.bind_some, Bool.not_true, Bool.not_false, p_tie (pts_of hp)])]
                    simp only [w_var, a_var, w_con, w_glo, w_op, k_op1, k_op2, w_neg, k_neg, w_cmp, k_cm1, k_cm2, w_chain, k_ch1, k_ch2, w_and, k_and, w_or, k_or, w_not, k_not, w_ite, k_ite, w_tup, k_tup, w_lst, k_lst, w_call, k_call, w_prim, k_prim, w_isi, k_isi, w_ix, k_ix1, k_ix2, w_ts0, w_ts, k_ts1, k_ts2, w_ds0, w_ds, k_ds1d, k_ds1n, k_ds2, x_nil, x_cons, x_set, k_set, x_setM, k_setMt, k_setMn, x_expr, k_expr, x_ret, k_ret, x_retN, x_pass, x_ife, k_if, x_for, k_for, k_finN, k_finD, k_finL, st_t, st_n, rd_d, rd_ref, w_sl, k_sl, k_sl1, k_sl2, w_o0, w_o_var, w_o_con, w_o_op, k_o, w_it_var, w_it_con, w_it_ix, w_it_lst, w_it_tup, w_it_call, w_it_prim, w_it_sl, w_it_op, w_it_comp, w_it_ite, k_src, w_rng, k_rng, w_comp, k_comp, k_eltD, k_eltN, k_cond, body0, body1, x_setI, k_si1, k_si2, k_si3, w_meth, k_me1, k_me2, nxt_next, nxt_ret, nxt_brk, nxt_cont, wp_ok, wps_ok, w_dct0, a_dct1, wps_bt, a_bt, x_parM, w_evT, w_evF, a_alT, a_alN, a_stl, k_pm1, k_pm2, tB, oK_some, a_at, a_atB, a_atD, a_opb, a_opa, a_cmb, a_cma, a_ixb, a_ixa, a_neg, a_chT, a_chF, a_cha2, a_cha, a_brAT, a_brAF, a_brOT, a_brOF, a_brIT, a_brIF, a_brST, a_brSF, a_and, a_or, a_not, a_ite, a_if, a_prim, a_isi, a_set, a_slb, a_o, a_src, a_rng, a_bo0, a_bo1, a_brCT, a_brCF, a_cond, a_sid, a_sic, a_sib, a_mea, a_meb, a_mec, b_add, b_sub, c_lt, c_le, c_gt, c_ge, c_eqI, c_neI, c_eqS, c_neS, c_isB, c_isnotB, p_lenL, p_lenT, p_int, p_max, p_min, p_tupL, p_lstT, p_lstL, i_l, i_t, at0, at1, at2, t_bool, s_l, s_t, bp_nm, bp_tp, bps0, bps1, sr_l, sr_t, sr_n, startE, wipe, List.map_cons, List.map_nil, List.length_cons, List.length_nil, List.replicate, List.cons_append, List.nil_append, List.append_nil, Nat.reduceAdd, Nat.reduceSub, Nat.reduceMul, List.getElem?_cons_zero, List.getElem?_cons_succ, List.getElem?_nil, List.set_cons_zero, List.set_cons_succ, List.mapM_cons, List.mapM_nil, Option.pure_def, Option.bind_eq_bind, Option.bind_some, Bool.not_true, Bool.not_false, p_all, List.take_length]
              · have hz : isNet (.tuple [.int last, .tuple pts, c]) = false := by
                  unfold isNet
                  split
                  · rename_i heq
                    cases heq
                    exact absurd ⟨_, rfl⟩ hc
                  · rfl
                simp only [w_var, a_var, w_con, w_glo, w_op, k_op1, k_op2, w_neg, k_neg, w_cmp, k_cm1, k_cm2, w_chain, k_ch1, k_ch2, w_and, k_and, w_or, k_or, w_not, k_not, w_ite, k_ite, w_tup, k_tup, w_lst, k_lst, w_call, k_call, w_prim, k_prim, w_isi, k_isi, w_ix, k_ix1, k_ix2, w_ts0, w_ts, k_ts1, k_ts2, w_ds0, w_ds, k_ds1d, k_ds1n, k_ds2, x_nil, x_cons, x_set, k_set, x_setM, k_setMt, k_setMn, x_expr, k_expr, x_ret, k_ret, x_retN, x_pass, x_ife, k_if, x_for, k_for, k_finN, k_finD, k_finL, st_t, st_n, rd_d, rd_ref, w_sl, k_sl, k_sl1, k_sl2, w_o0, w_o_var, w_o_con, w_o_op, k_o, w_it_var, w_it_con, w_it_ix, w_it_lst, w_it_tup, w_it_call, w_it_prim, w_it_sl, w_it_op, w_it_comp, w_it_ite, k_src, w_rng, k_rng, w_comp, k_comp, k_eltD, k_eltN, k_cond, body0, body1, x_setI, k_si1, k_si2, k_si3, w_meth, k_me1, k_me2, nxt_next, nxt_ret, nxt_brk, nxt_cont, wp_ok, wps_ok, w_dct0, a_dct1, wps_bt, a_bt, x_parM, w_evT, w_evF, a_alT, a_alN, a_stl, k_pm1, k_pm2, tB, oK_some, a_at, a_atB, a_atD, a_opb, a_opa, a_cmb, a_cma, a_ixb, a_ixa, a_neg, a_chT, a_chF, a_cha2, a_cha, a_brAT, a_brAF, a_brOT, a_brOF, a_brIT, a_brIF, a_brST, a_brSF, a_and, a_or, a_not, a_ite, a_if, a_prim, a_isi, a_set, a_slb, a_o, a_src, a_rng, a_bo0, a_bo1, a_brCT, a_brCF, a_cond, a_sid, a_sic, a_sib, a_mea, a_meb, a_mec, b_add, b_sub, c_lt, c_le, c_gt, c_ge, c_eqI, c_neI, c_eqS, c_neS, c_isB, c_isnotB, p_lenL, p_lenT, p_int, p_max, p_min, p_tupL, p_lstT, p_lstL, i_l, i_t, at0, at1, at2, t_bool, s_l, s_t, bp_nm, bp_tp, bps0, bps1, sr_l, sr_t, sr_n, startE, wipe, List.map_cons, List.map_nil, List.length_cons, List.length_nil, List.replicate, List.cons_append, List.nil_append, List.append_nil, Nat.reduceAdd, Nat.reduceSub, Nat.reduceMul, List.getElem?_cons_zero, List.getElem?_cons_succ, List.getElem?_nil, List.set_cons_zero, List.set_cons_succ, List.mapM_cons, List.mapM_nil, Option.pure_def, Option.bind_eq_bind, Option.bind_some, Bool.not_true, Bool.not_false, not_tup fun xs e => hc ⟨xs, e⟩, hz, List.take_length]
          · have hz : isNet (.tuple [.int last, b, c]) = false := by
              unfold isNet
              split
              · rename_i heq
                cases heq
                exact absurd ⟨_, rfl⟩ hb
              · rfl
            simp only [w_var, a_var, w_con, w_glo, w_op, k_op1, k_op2, w_neg, k_neg, w_cmp, k_cm1, k_cm2, w_chain, k_ch1, k_ch2, w_and, k_and, w_or, k_or, w_not, k_not, w_ite, k_ite, w_tup, k_tup, w_lst, k_lst, w_call, k_call, w_prim, k_prim, w_isi, k_isi, w_ix, k_ix1, k_ix2, w_ts0, w_ts, k_ts1, k_ts2, w_ds0, w_ds, k_ds1d, k_ds1n, k_ds2, x_nil, x_cons, x_set, k_set, x_setM, k_setMt, k_setMn, x_expr, k_expr, x_ret, k_ret, x_retN, x_pass, x_ife, k_if, x_for, k_for, k_finN, k_finD, k_finL, st_t, st_n, rd_d, rd_ref, w_sl, k_sl, k_sl1, k_sl2, w_o0, w_o_var, w_o_con, w_o_op, k_o, w_it_var, w_it_con, w_it_ix, w_it_lst, w_it_tup, w_it_call, w_it_prim, w_it_sl, w_it_op, w_it_comp, w_it_ite, k_src, w_rng, k_rng, w_comp, k_comp, k_eltD, k_eltN, k_cond, body0, body1, x_setI, k_si1, k_si2, k_si3, w_meth, k_me1, k_me2, nxt_next, nxt_ret, nxt_brk, nxt_cont, wp_ok, wps_ok, w_dct0, a_dct1, wps_bt, a_bt, x_parM, w_evT, w_evF, a_alT, a_alN, a_stl, k_pm1, k_pm2, tB, oK_some, a_at, a_atB, a_atD, a_opb, a_opa, a_cmb, a_cma, a_ixb, a_ixa, a_neg, a_chT, a_chF, a_cha2, a_cha, a_brAT, a_brAF, a_brOT, a_brOF, a_brIT, a_brIF, a_brST, a_brSF, a_and, a_or, a_not, a_ite, a_if, a_prim, a_isi, a_set, a_slb, a_o, a_src, a_rng, a_bo0, a_bo1, a_brCT, a_brCF, a_cond, a_sid, a_sic, a_sib, a_mea, a_meb, a_mec, b_add, b_sub, c_lt, c_le, c_gt, c_ge, c_eqI, c_neI, c_eqS, c_neS, c_isB, c_isnotB, p_lenL, p_lenT, p_int, p_max, p_min, p_tupL, p_lstT, p_lstL, i_l, i_t, at0, at1, at2, t_bool, s_l, s_t, bp_nm, bp_tp, bps0, bps1, sr_l, sr_t, sr_n, startE, wipe, List.map_cons, List.map_nil, List.length_cons, List.length_nil, List.replicate, List.cons_append, List.nil_append, List.append_nil, Nat.reduceAdd, Nat.reduceSub, Nat.reduceMul, List.getElem?_cons_zero, List.getElem?_cons_succ, List.getElem?_nil, List.set_cons_zero, List.set_cons_succ, List.mapM_cons, List.mapM_nil, Option.pure_def, Option.bind_eq_bind, Option.bind_some, Bool.not_true, Bool.not_false, not_tup fun xs e => hb ⟨xs, e⟩, hz, List.take_length]
        · have e1 : isNum (.int last) 0 8 = false := by simp [isNum]; omega
          have hz : isNet (.tuple [.int last, b, c]) = false := by
            unfold isNet
            split
            · rename_i heq
              cases heq
              simp
              intros
              omega
            · rfl
          simp only [w_var, a_var, w_con, w_glo, w_op, k_op1, k_op2, w_neg, k_neg, w_cmp, k_cm1, k_cm2, w_chain, k_ch1, k_ch2, w_and, k_and, w_or, k_or, w_not, k_not, w_ite, k_ite, w_tup, k_tup, w_lst, k_lst, w_call, k_call, w_prim, k_prim, w_isi, k_isi, w_ix, k_ix1, k_ix2, w_ts0, w_ts, k_ts1, k_ts2, w_ds0, w_ds, k_ds1d, k_ds1n, k_ds2, x_nil, x_cons, x_set, k_set, x_setM, k_setMt, k_setMn, x_expr, k_expr, x_ret, k_ret, x_retN, x_pass, x_ife, k_if, x_for, k_for, k_finN, k_finD, k_finL, st_t, st_n, rd_d, rd_ref, w_sl, k_sl, k_sl1, k_sl2, w_o0, w_o_var, w_o_con, w_o_op, k_o, w_it_var, w_it_con, w_it_ix, w_it_lst, w_it_tup, w_it_call, w_it_prim, w_it_sl, w_it_op, w_it_comp, w_it_ite, k_src, w_rng, k_rng, w_comp, k_comp, k_eltD, k_eltN, k_cond, body0, body1, x_setI, k_si1, k_si2, k_si3, w_meth, k_me1, k_me2, nxt_next, nxt_ret, nxt_brk, nxt_cont, wp_ok, wps_ok, w_dct0, a_dct1, wps_bt, a_bt, x_parM, w_evT, w_evF, a_alT, a_alN, a_stl, k_pm1, k_pm2, tB, oK_some, a_at, a_atB, a_atD, a_opb, a_opa, a_cmb, a_cma, a_ixb, a_ixa, a_neg, a_chT, a_chF, a_cha2, a_cha, a_brAT, a_brAF, a_brOT, a_brOF, a_brIT, a_brIF, a_brST, a_brSF, a_and, a_or, a_not, a_ite, a_if, a_prim, a_isi, a_set, a_slb, a_o, a_src, a_rng, a_bo0, a_bo1, a_brCT, a_brCF, a_cond, a_sid, a_sic, a_sib, a_mea, a_meb, a_mec, b_add, b_sub, c_lt, c_le, c_gt, c_ge, c_eqI, c_neI, c_eqS, c_neS, c_isB, c_isnotB, p_lenL, p_lenT, p_int, p_max, p_min, p_tupL, p_lstT, p_lstL, i_l, i_t, at0, at1, at2, t_bool, s_l, s_t, bp_nm, bp_tp, bps0, bps1, sr_l, sr_t, sr_n, startE, wipe, List.map_cons, List.map_nil, List.length_cons, List.length_nil, List.replicate, List.cons_append, List.nil_append, List.append_nil, Nat.reduceAdd, Nat.reduceSub, Nat.reduceMul, List.getElem?_cons_zero, List.getElem?_cons_succ, List.getElem?_nil, List.set_cons_zero, List.set_cons_succ, List.mapM_cons, List.mapM_nil, Option.pure_def, Option.bind_eq_bind, Option.bind_some, Bool.not_true, Bool.not_false, e1, hz, List.take_length]
      | _ => simp only [w_var, a_var, w_con, w_glo, w_op, k_op1, k_op2, w_neg, k_neg, w_cmp, k_cm1, k_cm2, w_chain, k_ch1, k_ch2, w_and, k_and, w_or, k_or, w_not, k_not, w_ite, k_ite, w_tup, k_tup, w_lst, k_lst, w_call, k_call, w_prim, k_prim, w_isi, k_isi, w_ix, k_ix1, k_ix2, w_ts0, w_ts, k_ts1, k_ts2, w_ds0, w_ds, k_ds1d, k_ds1n, k_ds2, x_nil, x_cons, x_set, k_set, x_setM, k_setMt, k_setMn, x_expr, k_expr, x_ret, k_ret, x_retN, x_pass, x_ife, k_if, x_for, k_for, k_finN, k_finD, k_finL, st_t, st_n, rd_d, rd_ref, w_sl, k_sl, k_sl1, k_sl2, w_o0, w_o_var, w_o_con, w_o_op, k_o, w_it_var, w_it_con, w_it_ix, w_it_lst, w_it_tup, w_it_call, w_it_prim, w_it_sl, w_it_op, w_it_comp, w_it_ite, k_src, w_rng, k_rng, w_comp, k_comp, k_eltD, k_eltN, k_cond, body0, body1, x_setI, k_si1, k_si2, k_si3, w_meth, k_me1, k_me2, nxt_next, nxt_ret, nxt_brk, nxt_cont, wp_ok, wps_ok, w_dct0, a_dct1, wps_bt, a_bt, x_parM, w_evT, w_evF, a_alT, a_alN, a_stl, k_pm1, k_pm2, tB, oK_some, a_at, a_atB, a_atD, a_opb, a_opa, a_cmb, a_cma, a_ixb, a_ixa, a_neg, a_chT, a_chF, a_cha2, a_cha, a_brAT, a_brAF, a_brOT, a_brOF, a_brIT, a_brIF, a_brST, a_brSF, a_and, a_or, a_not, a_ite, a_if, a_prim, a_isi, a_set, a_slb, a_o, a_src, a_rng, a_bo0, a_bo1, a_brCT, a_brCF, a_cond, a_sid, a_sic, a_sib, a_mea, a_meb, a_mec, b_add, b_sub, c_lt, c_le, c_gt, c_ge, c_eqI, c_neI, c_eqS, c_neS, c_isB, c_isnotB, p_lenL, p_lenT, p_int, p_max, p_min, p_tupL, p_lstT, p_lstL, i_l, i_t, at0, at1, at2, t_bool, s_l, s_t, bp_nm, bp_tp, bps0, bps1, sr_l, sr_t, sr_n, startE, wipe, List.map_cons, List.map_nil, List.length_cons, List.length_nil, List.replicate, List.cons_append, List.nil_append, List.append_nil, Nat.reduceAdd, Nat.reduceSub, Nat.reduceMul, List.getElem?_cons_zero, List.getElem?_cons_succ, List.getElem?_nil, List.set_cons_zero, List.set_cons_succ, List.mapM_cons, List.mapM_nil, Option.pure_def, Option.bind_eq_bind, Option.bind_some, Bool.not_true, Bool.not_false, isNum, isNet, List.take_length]
  · have hz : isNet x = false := net_no fun a b c e => ht ⟨_, e⟩
    simp only [w_var, a_var, w_con, w_glo, w_op, k_op1, k_op2, w_neg, k_neg, w_cmp, k_cm1, k_cm2, w_chain, k_ch1, k_ch2, w_and, k_and, w_or, k_or, w_not, k_not, w_ite, k_ite, w_tup, k_tup, w_lst, k_lst, w_call, k_call, w_prim, k_prim, w_isi, k_isi, w_ix, k_ix1, k_ix2, w_ts0, w_ts, k_ts1, k_ts2, w_ds0, w_ds, k_ds1d, k_ds1n, k_ds2, x_nil, x_cons, x_set, k_set, x_setM, k_setMt, k_setMn, x_expr, k_expr, x_ret, k_ret, x_retN, x_pass, x_ife, k_if, x_for, k_for, k_finN, k_finD, k_finL, st_t, st_n, rd_d, rd_ref, w_sl, k_sl, k_sl1, k_sl2, w_o0, w_o_var, w_o_con, w_o_op, k_o, w_it_var, w_it_con, w_it_ix, w_it_lst, w_it_tup, w_it_call, w_it_prim, w_it_sl, w_it_op, w_it_comp, w_it_ite, k_src, w_rng, k_rng, w_comp, k_comp, k_eltD, k_eltN, k_cond, body0, body1, x_setI, k_si1, k_si2, k_si3, w_meth, k_me1, k_me2, nxt_next, nxt_ret, nxt_brk, nxt_cont, wp_ok, wps_ok, w_dct0, a_dct1, wps_bt, a_bt, x_parM, w_evT, w_evF, a_alT, a_alN, a_stl, k_pm1, k_pm2, tB, oK_some, a_at, a_atB, a_atD, a_opb, a_opa, a_cmb, a_cma, a_ixb, a_ixa, a_neg, a_chT, a_chF, a_cha2, a_cha, a_brAT, a_brAF, a_brOT, a_brOF, a_brIT, a_brIF, a_brST, a_brSF, a_and, a_or, a_not, a_ite, a_if, a_prim, a_isi, a_set, a_slb, a_o, a_src, a_rng, a_bo0, a_bo1, a_brCT, a_brCF, a_cond, a_sid, a_sic, a_sib, a_mea, a_meb, a_mec, b_add, b_sub, c_lt, c_le, c_gt, c_ge, c_eqI, c_neI, c_eqS, c_neS, c_isB, c_isnotB, p_lenL, p_lenT, p_int, p_max, p_min, p_tupL, p_lstT, p_lstL, i_l, i_t, at0, at1, at2, t_bool, s_l, s_t, bp_nm, bp_tp, bps0, bps1, sr_l, sr_t, sr_n, startE, wipe, List.map_cons, List.map_nil, List.length_cons, List.length_nil, List.replicate, List.cons_append, List.nil_append, List.append_nil, Nat.reduceAdd, Nat.reduceSub, Nat.reduceMul, List.getElem?_cons_zero, List.getElem?_cons_succ, List.getElem?_nil, List.set_cons_zero, List.set_cons_succ, List.mapM_cons, List.mapM_nil, Option.pure_def, Option.bind_eq_bind, Option.bind_some, Bool.not_true, Bool.not_false, not_tup fun xs e => ht ⟨xs, e⟩, hz, List.take_length]
theorem q_net : (callN tbl wf (n + 4) 17 [.d x] st).wp k = k (.t (.d (.bool (isNet x)))) st := by
  rw [wp_callN (d := d__law_is_net) rfl rfl]
  unfold d__law_is_net
  by_cases ht : ∃ xs, x = .tuple xs
  · obtain ⟨xs, rfl⟩ := ht
    simp only [w_var, a_var, w_con, w_glo, w_op, k_op1, k_op2, w_neg, k_neg, w_cmp, k_cm1, k_cm2, w_chain, k_ch1, k_ch2, w_and, k_and, w_or, k_or, w_not, k_not, w_ite, k_ite, w_tup, k_tup, w_lst, k_lst, w_call, k_call, w_prim, k_prim, w_isi, k_isi, w_ix, k_ix1, k_ix2, w_ts0, w_ts, k_ts1, k_ts2, w_ds0, w_ds, k_ds1d, k_ds1n, k_ds2, x_nil, x_cons, x_set, k_set, x_setM, k_setMt, k_setMn, x_expr, k_expr, x_ret, k_ret, x_retN, x_pass, x_ife, k_if, x_for, k_for, k_finN, k_finD, k_finL, st_t, st_n, rd_d, rd_ref, w_sl, k_sl, k_sl1, k_sl2, w_o0, w_o_var, w_o_con, w_o_op, k_o, w_it_var, w_it_con, w_it_ix, w_it_lst, w_it_tup, w_it_call, w_it_prim, w_it_sl, w_it_op, w_it_comp, w_it_ite, k_src, w_rng, k_rng, w_comp, k_comp, k_eltD, k_eltN, k_cond, body0, body1, x_setI, k_si1, k_si2, k_si3, w_meth, k_me1, k_me2, nxt_next, nxt_ret, nxt_brk, nxt_cont, wp_ok, wps_ok, w_dct0, a_dct1, wps_bt, a_bt, x_parM, w_evT, w_evF, a_alT, a_alN, a_stl, k_pm1, k_pm2, tB, oK_some, a_at, a_atB, a_atD, a_opb, a_opa, a_cmb, a_cma, a_ixb, a_ixa, a_neg, a_chT, a_chF, a_cha2, a_cha, a_brAT, a_brAF, a_brOT, a_brOF, a_brIT, a_brIF, a_brST, a_brSF, a_and, a_or, a_not, a_ite, a_if, a_prim, a_isi, a_set, a_slb, a_o, a_src, a_rng, a_bo0, a_bo1, a_brCT, a_brCF, a_cond, a_sid, a_sic, a_sib, a_mea, a_meb, a_mec, b_add, b_sub, c_lt, c_le, c_gt, c_ge, c_eqI, c_neI, c_eqS, c_neS, c_isB, c_isnotB, p_lenL, p_lenT, p_int, p_max, p_min, p_tupL, p_lstT, p_lstL, i_l, i_t, at0, at1, at2, t_bool, s_l, s_t, bp_nm, bp_tp, bps0, bps1, sr_l, sr_t, sr_n, startE, wipe, List.map_cons, List.map_nil, List.length_cons, List.length_nil, List.replicate, List.cons_append, List.nil_append, List.append_nil, Nat.reduceAdd, Nat.reduceSub, Nat.reduceMul, List.getElem?_cons_zero, List.getElem?_cons_succ, List.getElem?_nil, List.set_cons_zero, List.set_cons_succ, List.mapM_cons, List.mapM_nil, Option.pure_def, Option.bind_eq_bind, Option.bind_some, Bool.not_true, Bool.not_false, show isiD .tuple (.tuple xs) = true from rfl]
    cases h2 : decide ((xs.length : Int) = 3) with
    | false =>
      have hz : isNet (.tuple xs) = false := net_no fun a b c e => by cases e; simp at h2
      simp only [w_var, a_var, w_con, w_glo, w_op, k_op1, k_op2, w_neg, k_neg, w_cmp, k_cm1, k_cm2, w_chain, k_ch1, k_ch2, w_and, k_and, w_or, k_or, w_not, k_not, w_ite, k_ite, w_tup, k_tup, w_lst, k_lst, w_call, k_call, w_prim, k_prim, w_isi, k_isi, w_ix, k_ix1, k_ix2, w_ts0, w_ts, k_ts1, k_ts2, w_ds0, w_ds, k_ds1d, k_ds1n, k_ds2, x_nil, x_cons, x_set, k_set, x_setM, k_setMt, k_setMn, x_expr, k_expr, x_ret, k_ret, x_retN, x_pass, x_ife, k_if, x_for, k_for, k_finN, k_finD, k_finL, st_t, st_n, rd_d, rd_ref, w_sl, k_sl, k_sl1, k_sl2, w_o0, w_o_var, w_o_con, w_o_op, k_o, w_it_var, w_it_con, w_it_ix, w_it_lst, w_it_tup, w_it_call, w_it_prim, w_it_sl, w_it_op, w_it_comp, w_it_ite, k_src, w_rng, k_rng, w_comp, k_comp, k_eltD, k_eltN, k_cond, body0, body1, x_setI, k_si1, k_si2, k_si3, w_meth, k_me1, k_me2, nxt_next, nxt_ret, nxt_brk, nxt_cont, wp_ok, wps_ok, w_dct0, a_dct1, wps_bt, a_bt, x_parM, w_evT, w_evF, a_alT, a_alN, a_stl, k_pm1, k_pm2, tB, oK_some, a_at, a_atB, a_atD, a_opb, a_opa, a_cmb, a_cma, a_ixb, a_ixa, a_neg, a_chT, a_chF, a_cha2, a_cha, a_brAT, a_brAF, a_brOT, a_brOF, a_brIT, a_brIF, a_brST, a_brSF, a_and, a_or, a_not, a_ite, a_if, a_prim, a_isi, a_set, a_slb, a_o, a_src, a_rng, a_bo0, a_bo1, a_brCT, a_brCF, a_cond, a_sid, a_sic, a_sib, a_mea, a_meb, a_mec, b_add, b_sub, c_lt, c_le, c_gt, c_ge, c_eqI, c_neI, c_eqS, c_neS, c_isB, c_isnotB, p_lenL, p_lenT, p_int, p_max, p_min, p_tupL, p_lstT, p_lstL, i_l, i_t, at0, at1, at2, t_bool, s_l, s_t, bp_nm, bp_tp, bps0, bps1, sr_l, sr_t, sr_n, startE, wipe, List.map_cons, List.map_nil, List.length_cons, List.length_nil, List.replicate, List.cons_append, List.nil_append, List.append_nil, Nat.reduceAdd, Nat.reduceSub, Nat.reduceMul, List.getElem?_cons_zero, List.getElem?_cons_succ, List.getElem?_nil, List.set_cons_zero, List.set_cons_succ, List.mapM_cons, List.mapM_nil, Option.pure_def, Option.bind_eq_bind, Option.bind_some, Bool.not_true, Bool.not_false, hz, List.take_length]
    | true =>
      obtain ⟨a, b, c, rfl⟩ := len3 h2
      simp only [w_var, a_var, w_con, w_glo, w_op, k_op1, k_op2, w_neg, k_neg, w_cmp, k_cm1, k_cm2, w_chain, k_ch1, k_ch2, w_and, k_and, w_or, k_or, w_not, k_not, w_ite, k_ite, w_tup, k_tup, w_lst, k_lst, w_call, k_call, w_prim, k_prim, w_isi, k_isi, w_ix, k_ix1, k_ix2, w_ts0, w_ts, k_ts1, k_ts2, w_ds0, w_ds, k_ds1d, k_ds1n, k_ds2, x_nil, x_cons, x_set, k_set, x_setM, k_setMt, k_setMn, x_expr, k_expr, x_ret, k_ret, x_retN, x_pass, x_ife, k_if, x_for, k_for, k_finN, k_finD, k_finL, st_t, st_n, rd_d, rd_ref, w_sl, k_sl, k_sl1, k_sl2, w_o0, w_o_var, w_o_con, w_o_op, k_o, w_it_var, w_it_con, w_it_ix, w_it_lst, w_it_tup, w_it_call, w_it_prim, w_it_sl, w_it_op, w_it_comp, w_it_ite, k_src, w_rng, k_rng, w_comp, k_comp, k_eltD, k_eltN, k_cond, body0, body1, x_setI, k_si1, k_si2, k_si3, w_meth, k_me1, k_me2, nxt_next, nxt_ret, nxt_brk, nxt_cont, wp_ok, wps_ok, w_dct0, a_dct1, wps_bt, a_bt, x_parM, w_evT, w_evF, a_alT, a_alN, a_stl, k_pm1, k_pm2, tB, oK_some, a_at, a_atB, a_atD, a_opb, a_opa, a_cmb, a_cma, a_ixb, a_ixa, a_neg, a_chT, a_chF, a_cha2, a_cha, a_brAT, a_brAF, a_brOT, a_brOF, a_brIT, a_brIF, a_brST, a_brSF, a_and, a_or, a_not, a_ite, a_if, a_prim, a_isi, a_set, a_slb, a_o, a_src, a_rng, a_bo0, a_bo1, a_brCT, a_brCF, a_cond, a_sid, a_sic, a_sib, a_mea, a_meb, a_mec, b_add, b_sub, c_lt, c_le, c_gt, c_ge, c_eqI, c_neI, c_eqS, c_neS, c_isB, c_isnotB, p_lenL, p_lenT, p_int, p_max, p_min, p_tupL, p_lstT, p_lstL, i_l, i_t, at0, at1, at2, t_bool, s_l, s_t, bp_nm, bp_tp, bps0, bps1, sr_l, sr_t, sr_n, startE, wipe, List.map_cons, List.map_nil, List.length_cons, List.length_nil, List.replicate, List.cons_append, List.nil_append, List.append_nil, Nat.reduceAdd, Nat.reduceSub, Nat.reduceMul, List.getElem?_cons_zero, List.getElem?_cons_succ, List.getElem?_nil, List.set_cons_zero, List.set_cons_succ, List.mapM_cons, List.mapM_nil, Option.pure_def, Option.bind_eq_bind, Option.bind_some, Bool.not_true, Bool.not_false, q_num]
      cases a with
      | int last =>
        by_cases hl : 0 ≤ last ∧ last ≤ 8
        · have e1 : isNum (.int last) 0 8 = true := by simp [isNum, hl.1, hl.2]
          simp only [w_var, a_var, w_con, w_glo, w_op, k_op1, k_op2, w_neg, k_neg, w_cmp, k_cm1, k_cm2, w_chain, k_ch1, k_ch2, w_and, k_and, w_or, k_or, w_not, k_not, w_ite, k_ite, w_tup, k_tup, w_lst, k_lst, w_call, k_call, w_prim, k_prim, w_isi, k_isi, w_ix, k_ix1, k_ix2, w_ts0, w_ts, k_ts1, k_ts2, w_ds0, w_ds, k_ds1d, k_ds1n, k_ds2, x_nil, x_cons, x_set, k_set, x_setM, k_setMt, k_setMn, x_expr, k_expr, x_ret, k_ret, x_retN, x_pass, x_ife, k_if, x_for, k_for, k_finN, k_finD, k_finL, st_t, st_n, rd_d, rd_ref, w_sl, k_sl, k_sl1, k_sl2, w_o0, w_o_var, w_o_con, w_o_op, k_o, w_it_var, w_it_con, w_it_ix, w_it_lst, w_it_tup, w_it_call, w_it_prim, w_it_sl, w_it_op, w_it_comp, w_it_ite, k_src, w_rng, k_rng, w_comp, k_comp, k_eltD, k_eltN, k_cond, body0, body1, x_setI, k_si1, k_si2, k_si3, w_meth, k_me1, k_me2, nxt_next, nxt_ret, nxt_brk, nxt_cont, wp_ok, wps_ok, w_dct0, a_dct1, wps_bt, a_bt, x_parM, w_evT, w_evF, a_alT, a_alN, a_stl, k_pm1, k_pm2, tB, oK_some, a_at, a_atB, a_atD, a_opb, a_opa, a_cmb, a_cma, a_ixb, a_ixa, a_neg, a_chT, a_chF, a_cha2, a_cha, a_brAT, a_brAF, a_brOT, a_brOF, a_brIT, a_brIF, a_brST, a_brSF, a_and, a_or, a_not, a_ite, a_if, a_prim, a_isi, a_set, a_slb, a_o, a_src, a_rng, a_bo0, a_bo1, a_brCT, a_brCF, a_cond, a_sid, a_sic, a_sib, a_mea, a_meb, a_mec, b_add, b_sub, c_lt, c_le, c_gt, c_ge, c_eqI, c_neI, c_eqS, c_neS, c_isB, c_isnotB, p_lenL, p_lenT, p_int, p_max, p_min, p_tupL, p_lstT, p_lstL, i_l, i_t, at0, at1, at2, t_bool, s_l, s_t, bp_nm, bp_tp, bps0, bps1, sr_l, sr_t, sr_n, startE, wipe, List.map_cons, List.map_nil, List.length_cons, List.length_nil, List.replicate, List.cons_append, List.nil_append, List.append_nil, Nat.reduceAdd, Nat.reduceSub, Nat.reduceMul, List.getElem?_cons_zero, List.getElem?_cons_succ, List.getElem?_nil, List.set_cons_zero, List.set_cons_succ, List.mapM_cons, List.mapM_nil, Option.pure_def, Option.bind_eq_bind, Option.bind_some, Bool.not_true, Bool.not_false, e1]
          by_cases hb : ∃ pts, b = .tuple pts
          · obtain ⟨pts, rfl⟩ := hb
            simp only [w_var, a_var, w_con, w_glo, w_op, k_op1, k_op2, w_neg, k_neg, w_cmp, k_cm1, k_cm2, w_chain, k_ch1, k_ch2, w_and, k_and, w_or, k_or, w_not, k_not, w_ite, k_ite, w_tup, k_tup, w_lst, k_lst, w_call, k_call, w_prim, k_prim, w_isi, k_isi, w_ix, k_ix1, k_ix2, w_ts0, w_ts, k_ts1, k_ts2, w_ds0, w_ds, k_ds1d, k_ds1n, k_ds2, x_nil, x_cons, x_set, k_set, x_setM, k_setMt, k_setMn, x_expr, k_expr, x_ret, k_ret, x_retN, x_pass, x_ife, k_if, x_for, k_for, k_finN, k_finD, k_finL, st_t, st_n, rd_d, rd_ref, w_sl, k_sl, k_sl1, k_sl2, w_o0, w_o_var, w_o_con, w_o_op, k_o, w_it_var, w_it_con, w_it_ix, w_it_lst, w_it_tup, w_it_call, w_it_prim, w_it_sl, w_it_op, w_it_comp, w_it_ite, k_src, w_rng, k_rng, w_comp, k_comp, k_eltD, k_eltN, k_cond, body0, body1, x_setI, k_si1, k_si2, k_si3, w_meth, k_me1, k_me2, nxt_next, nxt_ret, nxt_brk, nxt_cont, wp_ok, wps_ok, w_dct0, a_dct1, wps_bt, a_bt, x_parM, w_evT, w_evF, a_alT, a_alN, a_stl, k_pm1, k_pm2, tB, oK_some, a_at, a_atB, a_atD, a_opb, a_opa, a_cmb, a_cma, a_ixb, a_ixa, a_neg, a_chT, a_chF, a_cha2, a_cha, a_brAT, a_brAF, a_brOT, a_brOF, a_brIT, a_brIF, a_brST, a_brSF, a_and, a_or, a_not, a_ite, a_if, a_prim, a_isi, a_set, a_slb, a_o, a_src, a_rng, a_bo0, a_bo1, a_brCT, a_brCF, a_cond, a_sid, a_sic, a_sib, a_mea, a_meb, a_mec, b_add, b_sub, c_lt, c_le, c_gt, c_ge, c_eqI, c_neI, c_eqS, c_neS, c_isB, c_isnotB, p_lenL, p_lenT, p_int, p_max, p_min, p_tupL, p_lstT, p_lstL, i_l, i_t, at0, at1, at2, t_bool, s_l, s_t, bp_nm, bp_tp, bps0, bps1, sr_l, sr_t, sr_n, startE, wipe, List.map_cons, List.map_nil, List.length_cons, List.length_nil, List.replicate, List.cons_append, List.nil_append, List.append_nil, Nat.reduceAdd, Nat.reduceSub, Nat.reduceMul, List.getElem?_cons_zero, List.getElem?_cons_succ, List.getElem?_nil, List.set_cons_zero, List.set_cons_succ, List.mapM_cons, List.mapM_nil, Option.pure_def, Option.bind_eq_bind, Option.bind_some, Bool.not_true, Bool.not_false, show isiD .tuple (.tuple pts) = true from rfl]
            by_cases hn : (7 : Int) < pts.length
            · have hz : isNet (.tuple [.int last, .tuple pts, c]) = false := by
                unfold isNet
                split
                · rename_i heq
                  cases heq
                  simp
                  intros
                  omega
                · rfl
              simp only [w_var, a_var, w_con, w_glo, w_op, k_op1, k_op2, w_neg, k_neg, w_cmp, k_cm1, k_cm2, w_chain, k_ch1, k_ch2, w_and, k_and, w_or, k_or, w_not, k_not, w_ite, k_ite, w_tup, k_tup, w_lst, k_lst, w_call, k_call, w_prim, k_prim, w_isi, k_isi, w_ix, k_ix1, k_ix2, w_ts0, w_ts, k_ts1, k_ts2, w_ds0, w_ds, k_ds1d, k_ds1n, k_ds2, x_nil, x_cons, x_set, k_set, x_setM, k_setMt, k_setMn, x_expr, k_expr, x_ret, k_ret, x_retN, x_pass, x_ife, k_if, x_for, k_for, k_finN, k_finD, k_finL, st_t, st_n, rd_d, rd_ref, w_sl, k_sl, k_sl1, k_sl2, w_o0, w_o_var, w_o_con, w_o_op, k_o, w_it_var, w_it_con, w_it_ix, w_it_lst, w_it_tup, w_it_call, w_it_prim, w_it_sl, w_it_op, w_it_comp, w_it_ite, k_src, w_rng, k_rng, w_comp, k_comp, k_eltD, k_eltN, k_cond, body0, body1, x_setI, k_si1, k_si2, k_si3, w_meth, k_me1, k_me2, nxt_next, nxt_ret, nxt_brk, nxt_cont, wp_ok, wps_ok, w_dct0, a_dct1, wps_bt, a_bt, x_parM, w_evT, w_evF, a_alT, a_alN, a_stl, k_pm1, k_pm2, tB, oK_some, a_at, a_atB, a_atD, a_opb, a_opa, a_cmb, a_cma, a_ixb, a_ixa, a_neg, a_chT, a_chF, a_cha2, a_cha, a_brAT, a_brAF, a_brOT, a_brOF, a_brIT, a_brIF, a_brST, a_brSF, a_and, a_or, a_not, a_ite, a_if, a_prim, a_isi, a_set, a_slb, a_o, a_src, a_rng, a_bo0, a_bo1, a_brCT, a_brCF, a_cond, a_sid, a_sic, a_sib, a_mea, a_meb, a_mec, b_add, b_sub, c_lt, c_le, c_gt, c_ge, c_eqI, c_neI, c_eqS, c_neS, c_isB, c_isnotB, p_lenL, p_lenT, p_int, p_max, p_min, p_tupL, p_lstT, p_lstL, i_l, i_t, at0, at1, at2, t_bool, s_l, s_t, bp_nm, bp_tp, bps0, bps1, sr_l, sr_t, sr_n, startE, wipe, List.map_cons, List.map_nil, List.length_cons, List.length_nil, List.replicate, List.cons_append, List.nil_append, List.append_nil, Nat.reduceAdd, Nat.reduceSub, Nat.reduceMul, List.getElem?_cons_zero, List.getElem?_cons_succ, List.getElem?_nil, List.set_cons_zero, List.set_cons_succ, List.mapM_cons, List.mapM_nil, Option.pure_def, Option.bind_eq_bind, Option.bind_some, Bool.not_true, Bool.not_false, decide_eq_true hn, hz, List.take_length]
            · simp only [w_var, a_var, w_con, w_glo, w_op, k_op1, k_op2, w_neg, k_neg, w_cmp, k_cm1, k_cm2, w_chain, k_ch1, k_ch2, w_and, k_and, w_or, k_or, w_not, k_not, w_ite, k_ite, w_tup, k_tup, w_lst, k_lst, w_call, k_call, w_prim, k_prim, w_isi, k_isi, w_ix, k_ix1, k_ix2, w_ts0, w_ts, k_ts1, k_ts2, w_ds0, w_ds, k_ds1d, k_ds1n, k_ds2, x_nil, x_cons, x_set, k_set, x_setM, k_setMt, k_setMn, x_expr, k_expr, x_ret, k_ret, x_retN, x_pass, x_ife, k_if, x_for, k_for, k_finN, k_finD, k_finL, st_t, st_n, rd_d, rd_ref, w_sl, k_sl, k_sl1, k_sl2, w_o0, w_o_var, w_o_con, w_o_op, k_o, w_it_var, w_it_con, w_it_ix, w_it_lst, w_it_tup, w_it_call, w_it_prim, w_it_sl, w_it_op, w_it_comp, w_it_ite, k_src, w_rng, k_rng, w_comp, k_comp, k_eltD, k_eltN, k_cond, body0, body1, x_setI, k_si1, k_si2, k_si3, w_meth, k_me1, k_me2, nxt_next, nxt_ret, nxt_brk, nxt_cont, wp_ok, wps_ok, w_dct0, a_dct1, wps_bt, a_bt, x_parM, w_evT, w_evF, a_alT, a_alN, a_stl, k_pm1, k_pm2, tB, oK_some, a_at, a_atB, a_atD, a_opb, a_opa, a_cmb, a_cma, a_ixb, a_ixa, a_neg, a_chT, a_chF, a_cha2, a_cha, a_brAT, a_brAF, a_brOT, a_brOF, a_brIT, a_brIF, a_brST, a_brSF, a_and, a_or, a_not, a_ite, a_if, a_prim, a_isi, a_set, a_slb, a_o, a_src, a_rng, a_bo0, a_bo1, a_brCT, a_brCF, a_cond, a_sid, a_sic, a_sib, a_mea, a_meb, a_mec, b_add, b_sub, c_lt, c_le, c_gt, c_ge, c_eqI, c_neI, c_eqS, c_neS, c_isB, c_isnotB, p_lenL, p_lenT, p_int, p_max, p_min, p_tupL, p_lstT, p_lstL, i_l, i_t, at0, at1, at2, t_bool, s_l, s_t, bp_nm, bp_tp, bps0, bps1, sr_l, sr_t, sr_n, startE, wipe, List.map_cons, List.map_nil, List.length_cons, List.length_nil, List.replicate, List.cons_append, List.nil_append, List.append_nil, Nat.reduceAdd, Nat.reduceSub, Nat.reduceMul, List.getElem?_cons_zero, List.getElem?_cons_succ, List.getElem?_nil, List.set_cons_zero, List.set_cons_succ, List.mapM_cons, List.mapM_nil, Option.pure_def, Option.bind_eq_bind, Option.bind_some, Bool.not_true, Bool.not_false, decide_eq_false hn]
              by_cases hc : ∃ ts, c = .tuple ts
              · obtain ⟨ts, rfl⟩ := hc
                simp only [w_var, a_var, w_con, w_glo, w_op, k_op1, k_op2, w_neg, k_neg, w_cmp, k_cm1, k_cm2, w_chain, k_ch1, k_ch2, w_and, k_and, w_or, k_or, w_not, k_not, w_ite, k_ite, w_tup, k_tup, w_lst, k_lst, w_call, k_call, w_prim, k_prim, w_isi, k_isi, w_ix, k_ix1, k_ix2, w_ts0, w_ts, k_ts1, k_ts2, w_ds0, w_ds, k_ds1d, k_ds1n, k_ds2, x_nil, x_cons, x_set, k_set, x_setM, k_setMt, k_setMn, x_expr, k_expr, x_ret, k_ret, x_retN, x_pass, x_ife, k_if, x_for, k_for, k_finN, k_finD, k_finL, st_t, st_n, rd_d, rd_ref, w_sl, k_sl, k_sl1, k_sl2, w_o0, w_o_var, w_o_con, w_o_op, k_o, w_it_var, w_it_con, w_it_ix, w_it_lst, w_it_tup, w_it_call, w_it_prim, w_it_sl, w_it_op, w_it_comp, w_it_ite, k_src, w_rng, k_rng, w_comp, k_comp, k_eltD, k_eltN, k_cond, body0, body1, x_setI, k_si1, k_si2, k_si3, w_meth, k_me1, k_me2, nxt_next, nxt_ret, nxt_brk, nxt_cont, wp_ok, wps_ok, w_dct0, a_dct1, wps_bt, a_bt, x_parM, w_evT, w_evF, a_alT, a_alN, a_stl, k_pm1, k_pm2, tB, oK_some, a_at, a_atB, a_atD, a_opb, a_opa, a_cmb, a_cma, a_ixb, a_ixa, a_neg, a_chT, a_chF, a_cha2, a_cha, a_brAT, a_brAF, a_brOT, a_brOF, a_brIT, a_brIF, a_brST, a_brSF, a_and, a_or, a_not, a_ite, a_if, a_prim, a_isi, a_set, a_slb, a_o, a_src, a_rng, a_bo0, a_bo1, a_brCT, a_brCF, a_cond, a_sid, a_sic, a_sib, a_mea, a_meb, a_mec, b_add, b_sub, c_lt, c_le, c_gt, c_ge, c_eqI, c_neI, c_eqS, c_neS, c_isB, c_isnotB, p_lenL, p_lenT, p_int, p_max, p_min, p_tupL, p_lstT, p_lstL, i_l, i_t, at0, at1, at2, t_bool, s_l, s_t, bp_nm, bp_tp, bps0, bps1, sr_l, sr_t, sr_n, startE, wipe, List.map_cons, List.map_nil, List.length_cons, List.length_nil, List.replicate, List.cons_append, List.nil_append, List.append_nil, Nat.reduceAdd, Nat.reduceSub, Nat.reduceMul, List.getElem?_cons_zero, List.getElem?_cons_succ, List.getElem?_nil, List.set_cons_zero, List.set_cons_succ, List.mapM_cons, List.mapM_nil, Option.pure_def, Option.bind_eq_bind, Option.bind_some, Bool.not_true, Bool.not_false, show isiD .tuple (.tuple ts) = true from rfl]
                by_cases hm : (9 : Int) < ts.length
                · have hz : isNet (.tuple [.int last, .tuple pts, .tuple ts]) = false := by
                    simp [isNet]
                    intros
                    omega
                  simp only [w_var, a_var, w_con, w_glo, w_op, k_op1, k_op2, w_neg, k_neg, w_cmp, k_cm1, k_cm2, w_chain, k_ch1, k_ch2, w_and, k_and, w_or, k_or, w_not, k_not, w_ite, k_ite, w_tup, k_tup, w_lst, k_lst, w_call, k_call, w_prim, k_prim, w_isi, k_isi, w_ix, k_ix1, k_ix2, w_ts0, w_ts, k_ts1, k_ts2, w_ds0, w_ds, k_ds1d, k_ds1n, k_ds2, x_nil, x_cons, x_set, k_set, x_setM, k_setMt, k_setMn, x_expr, k_expr, x_ret, k_ret, x_retN, x_pass, x_ife, k_if, x_for, k_for, k_finN, k_finD, k_finL, st_t, st_n, rd_d, rd_ref, w_sl, k_sl, k_sl1, k_sl2, w_o0, w_o_var, w_o_con, w_o_op, k_o, w_it_var, w_it_con, w_it_ix, w_it_lst, w_it_tup, w_it_call, w_it_prim, w_it_sl, w_it_op, w_it_comp, w_it_ite, k_src, w_rng, k_rng, w_comp, k_comp, k_eltD, k_eltN, k_cond, body0, body1, x_setI, k_si1, k_si2, k_si3, w_meth, k_me1, k_me2, nxt_next, nxt_ret, nxt_brk, nxt_cont, wp_ok, wps_ok, w_dct0, a_dct1, wps_bt, a_bt, x_parM, w_evT, w_evF, a_alT, a_alN, a_stl, k_pm1, k_pm2, tB, oK_some, a_at, a_atB, a_atD, a_opb, a_opa, a_cmb, a_cma, a_ixb, a_ixa, a_neg, a_chT, a_chF, a_cha2, a_cha, a_brAT, a_brAF, a_brOT, a_brOF, a_brIT, a_brIF, a_brST, a_brSF, a_and, a_or, a_not, a_ite, a_if, a_prim, a_isi, a_set, a_slb, a_o, a_src, a_rng, a_bo0, a_bo1, a_brCT, a_brCF, a_cond, a_sid, a_sic, a_sib, a_mea, a_meb, a_mec, b_add, b_sub, c_lt, c_le, c_gt, c_ge, c_eqI, c_neI, c_eqS, c_neS, c_isB, c_isnotB, p_lenL, p_lenT, p_int, p_max, p_min, p_tupL, p_lstT, p_lstL, i_l, i_t, at0, at1, at2, t_bool, s_l, s_t, bp_nm, bp_tp, bps0, bps1, sr_l, sr_t, sr_n, startE, wipe, List.map_cons, List.map_nil, List.length_cons, List.length_nil, List.replicate, List.cons_append, List.nil_append, List.append_nil, Nat.reduceAdd, Nat.reduceSub, Nat.reduceMul, List.getElem?_cons_zero, List.getElem?_cons_succ, List.getElem?_nil, List.set_cons_zero, List.set_cons_succ, List.mapM_cons, List.mapM_nil, Option.pure_def, Option.bind_eq_bind, Option.bind_some, Bool.not_true, Bool.not_false, decide_eq_true hm, hz, List.take_length]
                · simp only [w_var, a_var, w_con, w_glo, w_op, k_op1, k_op2, w_neg, k_neg, w_cmp, k_cm1, k_cm2, w_chain, k_ch1, k_ch2, w_and, k_and, w_or, k_or, w_not, k_not, w_ite, k_ite, w_tup, k_tup, w_lst, k_lst, w_call, k_call, w_prim, k_prim, w_isi, k_isi, w_ix, k_ix1, k_ix2, w_ts0, w_ts, k_ts1, k_ts2, w_ds0, w_ds, k_ds1d, k_ds1n, k_ds2, x_nil, x_cons, x_set, k_set, x_setM, k_setMt, k_setMn, x_expr, k_expr, x_ret, k_ret, x_retN, x_pass, x_ife, k_if, x_for, k_for, k_finN, k_finD, k_finL, st_t, st_n, rd_d, rd_ref, w_sl, k_sl, k_sl1, k_sl2, w_o0, w_o_var, w_o_con, w_o_op, k_o, w_it_var, w_it_con, w_it_ix, w_it_lst, w_it_tup, w_it_call, w_it_prim, w_it_sl, w_it_op, w_it_comp, w_it_ite, k_src, w_rng, k_rng, w_comp, k_comp, k_eltD, k_eltN, k_cond, body0, body1, x_setI, k_si1, k_si2, k_si3, w_meth, k_me1, k_me2, nxt_next, nxt_ret, nxt_brk, nxt_cont, wp_ok, wps_ok, w_dct0, a_dct1, wps_bt, a_bt, x_parM, w_evT, w_evF, a_alT, a_alN, a_stl, k_pm1, k_pm2, tB, oK_some, a_at, a_atB, a_atD, a_opb, a_opa, a_cmb, a_cma, a_ixb, a_ixa, a_neg, a_chT, a_chF, a_cha2, a_cha, a_brAT, a_brAF, a_brOT, a_brOF, a_brIT, a_brIF, a_brST, a_brSF, a_and, a_or, a_not, a_ite, a_if, a_prim, a_isi, a_set, a_slb, a_o, a_src, a_rng, a_bo0, a_bo1, a_brCT, a_brCF, a_cond, a_sid, a_sic, a_sib, a_mea, a_meb, a_mec, b_add, b_sub, c_lt, c_le, c_gt, c_ge, c_eqI, c_neI, c_eqS, c_neS, c_isB, c_isnotB, p_lenL, p_lenT, p_int, p_max, p_min, p_tupL, p_lstT, p_lstL, i_l, i_t, at0, at1, at2, t_bool, s_l, s_t, bp_nm, bp_tp, bps0, bps1, sr_l, sr_t, sr_n, startE, wipe, List.map_cons, List.map_nil, List.length_cons, List.length_nil, List.replicate, List.cons_append, List.nil_append, List.append_nil, Nat.reduceAdd, Nat.reduceSub, Nat.reduceMul, List.getElem?_cons_zero, List.getElem?_cons_succ, List.getElem?_nil, List.set_cons_zero, List.set_cons_succ, List.mapM_cons, List.mapM_nil, Option.pure_def, Option.bind_eq_bind, Option.bind_some, Bool.not_true, Bool.not_false, decide_eq_false hm]
                  have hz : isNet (.tuple [.int last, .tuple pts, .tuple ts]) = (pts.all (fun y => isLife y 0 last) && ts.all (isTie pts)) := by
                    have z1 : decide (0 ≤ last) = true := decide_eq_true hl.1
                    have z2 : decide (last ≤ 8) = true := decide_eq_true hl.2
                    have z3 : decide (pts.length ≤ 7) = true := decide_eq_true (by omega)
                    have z4 : decide (ts.length ≤ 9) = true := decide_eq_true (by omega)
                    simp only [isNet, z1, z2, z3, z4, Bool.true_and]
                  rw [compL_pure (h := fun y => if !isLife y 0 last then some (.int 1) else none) (fun y hy ko => by
                    simp only [w_var, a_var, w_con, w_glo, w_op, k_op1, k_op2, w_neg, k_neg, w_cmp, k_cm1, k_cm2, w_chain, k_ch1, k_ch2, w_and, k_and, w_or, k_or, w_not, k_not, w_ite, k_ite, w_tup, k_tup, w_lst, k_lst, w_call, k_call, w_prim, k_prim, w_isi, k_isi, w_ix, k_ix1, k_ix2, w_ts0, w_ts, k_ts1, k_ts2, w_ds0, w_ds, k_ds1d, k_ds1n, k_ds2, x_nil, x_cons, x_set, k_set, x_setM, k_setMt, k_setMn, x_expr, k_expr, x_ret, k_ret, x_retN, x_pass, x_ife, k_if, x_for, k_for, k_finN, k_finD, k_finL, st_t, st_n, rd_d, rd_ref, w_sl, k_sl, k_sl1, k_sl2, w_o0, w_o_var, w_o_con, w_o_op, k_o, w_it_var, w_it_con, w_it_ix, w_it_lst, w_it_tup, w_it_call, w_it_prim, w_it_sl, w_it_op, w_it_comp, w_it_ite, k_src, w_rng, k_rng, w_comp, k_comp, k_eltD, k_eltN, k_cond, body0, body1, x_setI, k_si1, k_si2, k_si3, w_meth, k_me1, k_me2, nxt_next, nxt_ret, nxt_brk, nxt_cont, wp_ok, wps_ok, w_dct0, a_dct1, wps_bt, a_bt, x_parM, w_evT, w_evF, a_alT, a_alN, a_stl, k_pm1, k_pm2, tB, oK_some, a_at, a_atB, a_atD, a_opb, a_opa, a_cmb, a_cma, a_ixb, a_ixa, a_neg, a_chT, a_chF, a_cha2, a_cha, a_brAT, a_brAF, a_brOT, a_brOF, a_brIT, a_brIF, a_brST, a_brSF, a_and, a_or, a_not, a_ite, a_if, a_prim, a_isi, a_set, a_slb, a_o, a_src, a_rng, a_bo0, a_bo1, a_brCT, a_brCF, a_cond, a_sid, a_sic, a_sib, a_mea, a_meb, a_mec, b_add, b_sub, c_lt, c_le, c_gt, c_ge, c_eqI, c_neI, c_eqS, c_neS, c_isB, c_isnotB, p_lenL, p_lenT, p_int, p_max, p_min, p_tupL, p_lstT, p_lstL, i_l, i_t, at0, at1, at2, t_bool, s_l, s_t, bp_nm, bp_tp, bps0, bps1, sr_l, sr_t, sr_n, startE, wipe, List.map_cons, List.map_nil, List.length_cons, List.length_nil, List.replicate, List.cons_append, List.nil_append, List.append_nil, Nat.reduceAdd, Nat.reduceSub, Nat.reduceMul, List.getElem?_cons_zero, List.getElem?_cons_succ, List.getElem?_nil, List.set_cons_zero, List.set_cons_succ, List.mapM_cons, List.mapM_nil, Option.pure_def, Option.bind_eq_bind, Option.bind_some, Bool.not_true, Bool.not_false, q_life]
                    cases isLife y 0 last <;> simp only [w_var, a_var, w_con, w_glo, w_op, k_op1, k_op2, w_neg, k_neg, w_cmp, k_cm1, k_cm2, w_chain, k_ch1, k_ch2, w_and, k_and, w_or, k_or, w_not, k_not, w_ite, k_ite, w_tup, k_tup, w_lst, k_lst, w_call, k_call, w_prim, k_prim, w_isi, k_isi, w_ix, k_ix1, k_ix2, w_ts0, w_ts, k_ts1, k_ts2, w_ds0, w_ds, k_ds1d, k_ds1n, k_ds2, x_nil, x_cons, x_set, k_set, x_setM, k_setMt, k_setMn, x_expr, k_expr, x_ret, k_ret, x_retN, x_pass, x_ife, k_if, x_for, k_for, k_finN, k_finD, k_finL, st_t, st_n, rd_d, rd_ref, w_sl, k_sl, k_sl1, k_sl2, w_o0, w_o_var, w_o_con, w_o_op, k_o, w_it_var, w_it_con, w_it_ix, w_it_lst, w_it_tup, w_it_call, w_it_prim, w_it_sl, w_it_op, w_it_comp, w_it_ite, k_src, w_rng, k_rng, w_comp, k_comp, k_eltD, k_eltN, k_cond, body0, body1, x_setI, k_si1, k_si2, k_si3, w_meth, k_me1, k_me2, nxt_next, nxt_ret, nxt_brk, nxt_cont, wp_ok, wps_ok, w_dct0, a_dct1, wps_bt, a_bt, x_parM, w_evT, w_evF, a_alT, a_alN, a_stl, k_pm1, k_pm2, tB, oK_some, a_at, a_atB, a_atD, a_opb, a_opa, a_cmb, a_cma, a_ixb, a_ixa, a_neg, a_chT, a_chF, a_cha2, a_cha, a_brAT, a_brAF, a_brOT, a_brOF, a_brIT, a_brIF, a_brST, a_brSF, a_and, a_or, a_not, a_ite, a_if, a_prim, a_isi, a_set, a_slb, a_o, a_src, a_rng, a_bo0, a_bo1, a_brCT, a_brCF, a_cond, a_sid, a_sic, a_sib, a_mea, a_meb, a_mec, b_add, b_sub, c_lt, c_le, c_gt, c_ge, c_eqI, c_neI, c_eqS, c_neS, c_isB, c_isnotB, p_lenL, p_lenT, p_int, p_max, p_min, p_tupL, p_lstT, p_lstL, i_l, i_t, at0, at1, at2, t_bool, s_l, s_t, bp_nm, bp_tp, bps0, bps1, sr_l, sr_t, sr_n, startE, wipe, List.map_cons, List.map_nil, List.length_cons, List.length_nil, List.replicate, List.cons_append, List.nil_append, List.append_nil, Nat.reduceAdd, Nat.reduceSub, Nat.reduceMul, List.getElem?_cons_zero, List.getElem?_cons_succ, List.getElem?_nil, List.set_cons_zero, List.set_cons_succ, List.mapM_cons, List.mapM_nil, Option.pure_def, Option.bind_eq_bind, Option.bind_some, Bool.not_true, Bool.not_false] <;> rfl)]
                  simp only [w_var, a_var, w_con, w_glo, w_op, k_op1, k_op2, w_neg, k_neg, w_cmp, k_cm1, k_cm2, w_chain, k_ch1, k_ch2, w_and, k_and, w_or, k_or, w_not, k_not, w_ite, k_ite, w_tup, k_tup, w_lst, k_lst, w_call, k_call, w_prim, k_prim, w_isi, k_isi, w_ix, k_ix1, k_ix2, w_ts0, w_ts, k_ts1, k_ts2, w_ds0, w_ds, k_ds1d, k_ds1n, k_ds2, x_nil, x_cons, x_set, k_set, x_setM, k_setMt, k_setMn, x_expr, k_expr, x_ret, k_ret, x_retN, x_pass, x_ife, k_if, x_for, k_for, k_finN, k_finD, k_finL, st_t, st_n, rd_d, rd_ref, w_sl, k_sl, k_sl1, k_sl2, w_o0, w_o_var, w_o_con, w_o_op, k_o, w_it_var, w_it_con, w_it_ix, w_it_lst, w_it_tup, w_it_call, w_it_prim, w_it_sl, w_it_op, w_it_comp, w_it_ite, k_src, w_rng, k_rng, w_comp, k_comp, k_eltD, k_eltN, k_cond, body0, body1, x_setI, k_si1, k_si2, k_si3, w_meth, k_me1, k_me2, nxt_next, nxt_ret, nxt_brk, nxt_cont, wp_ok, wps_ok, w_dct0, a_dct1, wps_bt, a_bt, x_parM, w_evT, w_evF, a_alT, a_alN, a_stl, k_pm1, k_pm2, tB, oK_some, a_at, a_atB, a_atD, a_opb, a_opa, a_cmb, a_cma, a_ixb, a_ixa, a_neg, a_chT, a_chF, a_cha2, a_cha, a_brAT, a_brAF, a_brOT, a_brOF, a_brIT, a_brIF, a_brST, a_brSF, a_and, a_or, a_not, a_ite, a_if, a_prim, a_isi, a_set, a_slb, a_o, a_src, a_rng, a_bo0, a_bo1, a_brCT, a_brCF, a_cond, a_sid, a_sic, a_sib, a_mea, a_meb, a_mec, b_add, b_sub, c_lt, c_le, c_gt, c_ge, c_eqI, c_neI, c_eqS, c_neS, c_isB, c_isnotB, p_lenL, p_lenT, p_int, p_max, p_min, p_tupL, p_lstT, p_lstL, i_l, i_t, at0, at1, at2, t_bool, s_l, s_t, bp_nm, bp_tp, bps0, bps1, sr_l, sr_t, sr_n, startE, wipe, List.map_cons, List.map_nil, List.length_cons, List.length_nil, List.replicate, List.cons_append, List.nil_append, List.append_nil, Nat.reduceAdd, Nat.reduceSub, Nat.reduceMul, List.getElem?_cons_zero, List.getElem?_cons_succ, List.getElem?_nil, List.set_cons_zero, List.set_cons_succ, List.mapM_cons, List.mapM_nil, Option.pure_def, Option.bind_eq_bind, Option.bind_some, Bool.not_true, Bool.not_false, c_ne (ones_shaped _ ones_mem) nil_shaped rfl, eqv_nil, ones_empty, Bool.not_not]
                  cases hp : pts.all (fun y => isLife y 0 last) with
                  | false => simp only [w_var, a_var, w_con, w_glo, w_op, k_op1, k_op2, w_neg, k_neg, w_cmp, k_cm1, k_cm2, w_chain, k_ch1, k_ch2, w_and, k_and, w_or, k_or, w_not, k_not, w_ite, k_ite, w_tup, k_tup, w_lst, k_lst, w_call, k_call, w_prim, k_prim, w_isi, k_isi, w_ix, k_ix1, k_ix2, w_ts0, w_ts, k_ts1, k_ts2, w_ds0, w_ds, k_ds1d, k_ds1n, k_ds2, x_nil, x_cons, x_set, k_set, x_setM, k_setMt, k_setMn, x_expr, k_expr, x_ret, k_ret, x_retN, x_pass, x_ife, k_if, x_for, k_for, k_finN, k_finD, k_finL, st_t, st_n, rd_d, rd_ref, w_sl, k_sl, k_sl1, k_sl2, w_o0, w_o_var, w_o_con, w_o_op, k_o, w_it_var, w_it_con, w_it_ix, w_it_lst, w_it_tup, w_it_call, w_it_prim, w_it_sl, w_it_op, w_it_comp, w_it_ite, k_src, w_rng, k_rng, w_comp, k_comp, k_eltD, k_eltN, k_cond, body0, body1, x_setI, k_si1, k_si2, k_si3, w_meth, k_me1, k_me2, nxt_next, nxt_ret, nxt_brk, nxt_cont, wp_ok, wps_ok, w_dct0, a_dct1, wps_bt, a_bt, x_parM, w_evT, w_evF, a_alT, a_alN, a_stl, k_pm1, k_pm2, tB, oK_some, a_at, a_atB, a_atD, a_opb, a_opa, a_cmb, a_cma, a_ixb, a_ixa, a_neg, a_chT, a_chF, a_cha2, a_cha, a_brAT, a_brAF, a_brOT, a_brOF, a_brIT, a_brIF, a_brST, a_brSF, a_and, a_or, a_not, a_ite, a_if, a_prim, a_isi, a_set, a_slb, a_o, a_src, a_rng, a_bo0, a_bo1, a_brCT, a_brCF, a_cond, a_sid, a_sic, a_sib, a_mea, a_meb, a_mec, b_add, b_sub, c_lt, c_le, c_gt, c_ge, c_eqI, c_neI, c_eqS, c_neS, c_isB, c_isnotB, p_lenL, p_lenT, p_int, p_max, p_min, p_tupL, p_lstT, p_lstL, i_l, i_t, at0, at1, at2, t_bool, s_l, s_t, bp_nm, bp_tp, bps0, bps1, sr_l, sr_t, sr_n, startE, wipe, List.map_cons, List.map_nil, List.length_cons, List.length_nil, List.replicate, List.cons_append, List.nil_append, List.append_nil, Nat.reduceAdd, Nat.reduceSub, Nat.reduceMul, List.getElem?_cons_zero, List.getElem?_cons_succ, List.getElem?_nil, List.set_cons_zero, List.set_cons_succ, List.mapM_cons, List.mapM_nil, Option.pure_def, Option.bind_eq_bind, Option.bind_some, Bool.not_true, Bool.not_false, hz, hp, Bool.false_and, List.take_length]
                  | true =>
                    simp only [w_var, a_var, w_con, w_glo, w_op, k_op1, k_op2, w_neg, k_neg, w_cmp, k_cm1, k_cm2, w_chain, k_ch1, k_ch2, w_and, k_and, w_or, k_or, w_not, k_not, w_ite, k_ite, w_tup, k_tup, w_lst, k_lst, w_call, k_call, w_prim, k_prim, w_isi, k_isi, w_ix, k_ix1, k_ix2, w_ts0, w_ts, k_ts1, k_ts2, w_ds0, w_ds, k_ds1d, k_ds1n, k_ds2, x_nil, x_cons, x_set, k_set, x_setM, k_setMt, k_setMn, x_expr, k_expr, x_ret, k_ret, x_retN, x_pass, x_ife, k_if, x_for, k_for, k_finN, k_finD, k_finL, st_t, st_n, rd_d, rd_ref, w_sl, k_sl, k_sl1, k_sl2, w_o0, w_o_var, w_o_con, w_o_op, k_o, w_it_var, w_it_con, w_it_ix, w_it_lst, w_it_tup, w_it_call, w_it_prim, w_it_sl, w_it_op, w_it_comp, w_it_ite, k_src, w_rng, k_rng, w_comp, k_comp, k_eltD, k_eltN, k_cond, body0, body1, x_setI, k_si1, k_si2, k_si3, w_meth, k_me1, k_me2, nxt_next, nxt_ret, nxt_brk, nxt_cont, wp_ok, wps_ok, w_dct0, a_dct1, wps_bt, a_bt, x_parM, w_evT, w_evF, a_alT, a_alN, a_stl, k_pm1, k_pm2, tB, oK_some, a_at, a_atB, a_atD, a_opb, a_opa, a_cmb, a_cma, a_ixb, a_ixa, a_neg, a_chT, a_chF, a_cha2, a_cha, a_brAT, a_brAF, a_brOT, a_brOF, a_brIT, a_brIF, a_brST, a_brSF, a_and, a_or, a_not, a_ite, a_if, a_prim, a_isi, a_set, a_slb, a_o, a_src, a_rng, a_bo0, a_bo1, a_brCT, a_brCF, a_cond, a_sid, a_sic, a_sib, a_mea, a_meb, a_mec, b_add, b_sub, c_lt, c_le, c_gt, c_ge, c_eqI, c_neI, c_eqS, c_neS, c_isB, c_isnotB, p_lenL, p_lenT, p_int, p_max, p_min, p_tupL, p_lstT, p_lstL, i_l, i_t, at0, at1, at2, t_bool, s_l, s_t, bp_nm, bp_tp, bps0, bps1, sr_l, sr_t, sr_n, startE, wipe, List.map_cons, List.map_nil, List.length_cons, List.length_nil, List.replicate, List.cons_append, List.nil_append, List.append_nil, Nat.reduceAdd, Nat.reduceSub, Nat.reduceMul, List.getElem?_cons_zero, List.getElem?_cons_succ, List.getElem?_nil, List.set_cons_zero, List.set_cons_succ, List.mapM_cons, List.mapM_nil, Option.pure_def, Option.bind_eq_bind, Option.bind_some, Bool.not_true, Bool.not_false, hz, hp, Bool.true_and, List.take_length]
                    rw [compL_pure (h := fun y => if !isTie pts y then some (.int 1) else none) (fun y hy ko => by
                      simp only [w_var, a_var, w_con, w_glo, w_op, k_op1, k_op2, w_neg, k_neg, w_cmp, k_cm1, k_cm2, w_chain, k_ch1, k_ch2, w_and, k_and, w_or, k_or, w_not, k_not, w_ite, k_ite, w_tup, k_tup, w_lst, k_lst, w_call, k_call, w_prim, k_prim, w_isi, k_isi, w_ix, k_ix1, k_ix2, w_ts0, w_ts, k_ts1, k_ts2, w_ds0, w_ds, k_ds1d, k_ds1n, k_ds2, x_nil, x_cons, x_set, k_set, x_setM, k_setMt, k_setMn, x_expr, k_expr, x_ret, k_ret, x_retN, x_pass, x_ife, k_if, x_for, k_for, k_finN, k_finD, k_finL, st_t, st_n, rd_d, rd_ref, w_sl, k_sl, k_sl1, k_sl2, w_o0, w_o_var, w_o_con, w_o_op, k_o, w_it_var, w_it_con, w_it_ix, w_it_lst, w_it_tup, w_it_call, w_it_prim, w_it_sl, w_it_op, w_it_comp, w_it_ite, k_src, w_rng, k_rng, w_comp, k_comp, k_eltD, k_eltN, k_cond, body0, body1, x_setI, k_si1, k_si2, k_si3, w_meth, k_me1, k_me2, nxt_next, nxt_ret, nxt_brk, nxt_cont, wp_ok, wps_ok, w_dct0, a_dct1, wps_bt, a_bt, x_parM, w_evT, w_evF, a_alT, a_alN, a_stl, k_pm1, k_pm2, tB, oK_some, a_at, a_atB, a_atD, a_opb, a_opa, a_cmb, a_cma, a_ixb, a_ixa, a_neg, a_chT, a_chF, a_cha2, a_cha, a_brAT, a_brAF, a_brOT, a_brOF, a_brIT, a_brIF, a_brST, a_brSF, a_and, a_or, a_not, a_ite, a_if, a_prim, a_isi, a_set, a_slb, a_o, a_src, a_rng, a_bo0, a_bo1, a_brCT, a_brCF, a_cond, a_sid, a_sic, a_sib, a_mea, a_meb, a_mec, b_add, b_sub, c_lt, c_le, c_gt, c_ge, c_eqI, c_neI, c_eqS, c_neS, c_isB, c_isnotB, p_lenL, p_lenT, p_int, p_max, p_min, p_tupL, p_lstT, p_lstL, i_l, i_t, at0, at1, at2, t_bool, s_l, s_t, bp_nm, bp_tp, bps0, bps1, sr_l, sr_t, sr_n, startE, wipe, List.map_cons, List.map_nil, List.length_cons, List.length_nil, List.replicate, List.cons_append, List.nil_append, List.append_nil, Nat.reduceAdd, Nat.reduceSub, Nat.reduceMul, List.getElem?_cons_zero, List.getElem?_cons_succ, List.getElem?_nil, List.set_cons_zero, List.set_cons_succ, List.mapM_cons, List.mapM_nil, Option.pure_def, Option.bind_eq_bind, Option.bind_some, Bool.not_true, Bool.not_false, q_tie (pts_of hp)]
                      cases isTie pts y <;> simp only [w_var, a_var, w_con, w_glo, w_op, k_op1, k_op2, w_neg, k_neg, w_cmp, k_cm1, k_cm2, w_chain, k_ch1, k_ch2, w_and, k_and, w_or, k_or, w_not, k_not, w_ite, k_ite, w_tup, k_tup, w_lst, k_lst, w_call, k_call, w_prim, k_prim, w_isi, k_isi, w_ix, k_ix1, k_ix2, w_ts0, w_ts, k_ts1, k_ts2, w_ds0, w_ds, k_ds1d, k_ds1n, k_ds2, x_nil, x_cons, x_set, k_set, x_setM, k_setMt, k_setMn, x_expr, k_expr, x_ret, k_ret, x_retN, x_pass, x_ife, k_if, x_for, k_for, k_finN, k_finD, k_finL, st_t, st_n, rd_d, rd_ref, w_sl, k_sl, k_sl1, k_sl2, w_o0, w_o_var, w_o_con, w_o_op, k_o, w_it_var, w_it_con, w_it_ix, w_it_lst, w_it_tup, w_it_call, w_it_prim, w_it_sl, w_it_op, w_it_comp, w_it_ite, k_src, w_rng, k_rng, w_comp, k_comp, k_eltD, k_eltN, k_cond, body0, body1, x_setI, k_si1, k_si2, k_si3, w_meth, k_me1, k_me2, nxt_next, nxt_ret, nxt_brk, nxt_cont, wp_ok, wps_ok, w_dct0, a_dct1, wps_bt, a_bt, x_parM, w_evT, w_evF, a_alT, a_alN, a_stl, k_pm1, k_pm2, tB, oK_some, a_at, a_atB, a_atD, a_opb, a_opa, a_cmb, a_cma, a_ixb, a_ixa, a_neg, a_chT, a_chF, a_cha2, a_cha, a_brAT, a_brAF, a_brOT, a_brOF, a_brIT, a_brIF, a_brST, a_brSF, a_and, a_or, a_not, a_ite, a_if, a_prim, a_isi, a_set, a_slb, a_o, a_src, a_rng, a_bo0, a_bo1, a_brCT, a_brCF, a_cond, a_sid, a_sic, a_sib, a_mea, a_meb, a_mec, b_add, b_sub, c_lt, c_le, c_gt, c_ge, c_eqI, c_neI, c_eqS, c_neS, c_isB, c_isnotB, p_lenL, p_lenT, p_int, p_max, p_min, p_tupL, p_lstT, p_lstL, i_l, i_t, at0, at1, at2, t_bool, s_l, s_t, bp_nm, bp_tp, bps0, bps1, sr_l, sr_t, sr_n, startE, wipe, List.map_cons, List.map_nil, List.length_cons, List.length_nil, List.replicate, List.cons_append, List.nil_append, List.append_nil, Nat.reduceAdd, Nat.reduceSub, Nat.reduceMul, List.getElem?_cons_zero, List.getElem?_cons_succ, List.getElem?_nil, List.set_cons_zero, List.set_cons_succ, List.mapM_cons, List.mapM_nil, Option.pure_def, Option.bind_eq_bind, Option.bind_some, Bool.not_true, Bool.not_false] <;> rfl)]
                    simp only [w_var, a_var, w_con, w_glo, w_op, k_op1, k_op2, w_neg, k_neg, w_cmp, k_cm1, k_cm2, w_chain, k_ch1, k_ch2, w_and, k_and, w_or, k_or, w_not, k_not, w_ite, k_ite, w_tup, k_tup, w_lst, k_lst, w_call, k_call, w_prim, k_prim, w_isi, k_isi, w_ix, k_ix1, k_ix2, w_ts0, w_ts, k_ts1, k_ts2, w_ds0, w_ds, k_ds1d, k_ds1n, k_ds2, x_nil, x_cons, x_set, k_set, x_setM, k_setMt, k_setMn, x_expr, k_expr, x_ret, k_ret, x_retN, x_pass, x_ife, k_if, x_for, k_for, k_finN, k_finD, k_finL, st_t, st_n, rd_d, rd_ref, w_sl, k_sl, k_sl1, k_sl2, w_o0, w_o_var, w_o_con, w_o_op, k_o, w_it_var, w_it_con, w_it_ix, w_it_lst, w_it_tup, w_it_call, w_it_prim, w_it_sl, w_it_op, w_it_comp, w_it_ite, k_src, w_rng, k_rng, w_comp, k_comp, k_eltD, k_eltN, k_cond, body0, body1, x_setI, k_si1, k_si2, k_si3, w_meth, k_me1, k_me2, nxt_next, nxt_ret, nxt_brk, nxt_cont, wp_ok, wps_ok, w_dct0, a_dct1, wps_bt, a_bt, x_parM, w_evT, w_evF, a_alT, a_alN, a_stl, k_pm1, k_pm2, tB, oK_some, a_at, a_atB, a_atD, a_opb, a_opa, a_cmb, a_cma, a_ixb, a_ixa, a_neg, a_chT, a_chF, a_cha2, a_cha, a_brAT, a_brAF, a_brOT, a_brOF, a_brIT, a_brIF, a_brST, a_brSF, a_and, a_or, a_not, a_ite, a_if, a_prim, a_isi, a_set, a_slb, a_o, a_src, a_rng, a_bo0, a_bo1, a_brCT, a_brCF, a_cond, a_sid, a_sic, a_sib, a_mea, a_meb, a_mec, b_add, b_sub, c_lt, c_le, c_gt, c_ge, c_eqI, c_neI, c_eqS, c_neS, c_isB, c_isnotB, p_lenL, p_lenT, p_int, p_max, p_min, p_tupL, p_lstT, p_lstL, i_l, i_t, at0, at1, at2, t_bool, s_l, s_t, bp_nm, bp_tp, bps0, bps1, sr_l, sr_t, sr_n, startE, wipe, List.map_cons, List.map_nil, List.length_cons, List.length_nil, List.replicate, List.cons_append, List.nil_append, List.append_nil, Nat.reduceAdd, Nat.reduceSub, Nat.reduceMul, List.getElem?_cons_zero, List.getElem?_cons_succ, List.getElem?_nil, List.set_cons_zero, List.set_cons_succ, List.mapM_cons, List.mapM_nil, Option.pure_def, Option.bind_eq_bind, Option.bind_some, Bool.not_true, Bool.not_false, c_eq (ones_shaped _ ones_mem) nil_shaped rfl, eqv_nil, ones_empty, Bool.not_not, List.take_length]
              · have hz : isNet (.tuple [.int last, .tuple pts, c]) = false := by
                  unfold isNet
                  split
                  · rename_i heq
                    cases heq
                    exact absurd ⟨_, rfl⟩ hc
                  · rfl
                simp only [w_var, a_var, w_con, w_glo, w_op, k_op1, k_op2, w_neg, k_neg, w_cmp, k_cm1, k_cm2, w_chain, k_ch1, k_ch2, w_and, k_and, w_or, k_or, w_not, k_not, w_ite, k_ite, w_tup, k_tup, w_lst, k_lst, w_call, k_call, w_prim, k_prim, w_isi, k_isi, w_ix, k_ix1, k_ix2, w_ts0, w_ts, k_ts1, k_ts2, w_ds0, w_ds, k_ds1d, k_ds1n, k_ds2, x_nil, x_cons, x_set, k_set, x_setM, k_setMt, k_setMn, x_expr, k_expr, x_ret, k_ret, x_retN, x_pass, x_ife, k_if, x_for, k_for, k_finN, k_finD, k_finL, st_t, st_n, rd_d, rd_ref, w_sl, k_sl, k_sl1, k_sl2, w_o0, w_o_var, w_o_con, w_o_op, k_o, w_it_var, w_it_con, w_it_ix, w_it_lst, w_it_tup, w_it_call, w_it_prim, w_it_sl, w_it_op, w_it_comp, w_it_ite, k_src, w_rng, k_rng, w_comp, k_comp, k_eltD, k_eltN, k_cond, body0, body1, x_setI, k_si1, k_si2, k_si3, w_meth, k_me1, k_me2, nxt_next, nxt_ret, nxt_brk, nxt_cont, wp_ok, wps_ok, w_dct0, a_dct1, wps_bt, a_bt, x_parM, w_evT, w_evF, a_alT, a_alN, a_stl, k_pm1, k_pm2, tB, oK_some, a_at, a_atB, a_atD, a_opb, a_opa, a_cmb, a_cma, a_ixb, a_ixa, a_neg, a_chT, a_chF, a_cha2, a_cha, a_brAT, a_brAF, a_brOT, a_brOF, a_brIT, a_brIF, a_brST, a_brSF, a_and, a_or, a_not, a_ite, a_if, a_prim, a_isi, a_set, a_slb, a_o, a_src, a_rng, a_bo0, a_bo1, a_brCT, a_brCF, a_cond, a_sid, a_sic, a_sib, a_mea, a_meb, a_mec, b_add, b_sub, c_lt, c_le, c_gt, c_ge, c_eqI, c_neI, c_eqS, c_neS, c_isB, c_isnotB, p_lenL, p_lenT, p_int, p_max, p_min, p_tupL, p_lstT, p_lstL, i_l, i_t, at0, at1, at2, t_bool, s_l, s_t, bp_nm, bp_tp, bps0, bps1, sr_l, sr_t, sr_n, startE, wipe, List.map_cons, List.map_nil, List.length_cons, List.length_nil, List.replicate, List.cons_append, List.nil_append, List.append_nil, Nat.reduceAdd, Nat.reduceSub, Nat.reduceMul, List.getElem?_cons_zero, List.getElem?_cons_succ, List.getElem?_nil, List.set_cons_zero, List.set_cons_succ, List.mapM_cons, List.mapM_nil, Option.pure_def, Option.bind_eq_bind, Option.bind_some, Bool.not_true, Bool.not_false, not_tup fun xs e => hc ⟨xs, e⟩, hz, List.take_length]
          · have hz : isNet (.tuple [.int last, b, c]) = false := by
              unfold isNet
              split
              · rename_i heq
                cases heq
                exact absurd ⟨_, rfl⟩ hb
              · rfl
            simp only [w_var, a_var, w_con, w_glo, w_op, k_op1, k_op2, w_neg, k_neg, w_cmp, k_cm1, k_cm2, w_chain, k_ch1, k_ch2, w_and, k_and, w_or, k_or, w_not, k_not, w_ite, k_ite, w_tup, k_tup, w_lst, k_lst, w_call, k_call, w_prim, k_prim, w_isi, k_isi, w_ix, k_ix1, k_ix2, w_ts0, w_ts, k_ts1, k_ts2, w_ds0, w_ds, k_ds1d, k_ds1n, k_ds2, x_nil, x_cons, x_set, k_set, x_setM, k_setMt, k_setMn, x_expr, k_expr, x_ret, k_ret, x_retN, x_pass, x_ife, k_if, x_for, k_for, k_finN, k_finD, k_finL, st_t, st_n, rd_d, rd_ref, w_sl, k_sl, k_sl1, k_sl2, w_o0, w_o_var, w_o_con, w_o_op, k_o, w_it_var, w_it_con, w_it_ix, w_it_lst, w_it_tup, w_it_call, w_it_prim, w_it_sl, w_it_op, w_it_comp, w_it_ite, k_src, w_rng, k_rng, w_comp, k_comp, k_eltD, k_eltN, k_cond, body0, body1, x_setI, k_si1, k_si2, k_si3, w_meth, k_me1, k_me2, nxt_next, nxt_ret, nxt_brk, nxt_cont, wp_ok, wps_ok, w_dct0, a_dct1, wps_bt, a_bt, x_parM, w_evT, w_evF, a_alT, a_alN, a_stl, k_pm1, k_pm2, tB, oK_some, a_at, a_atB, a_atD, a_opb, a_opa, a_cmb, a_cma, a_ixb, a_ixa, a_neg, a_chT, a_chF, a_cha2, a_cha, a_brAT, a_brAF, a_brOT, a_brOF, a_brIT, a_brIF, a_brST, a_brSF, a_and, a_or, a_not, a_ite, a_if, a_prim, a_isi, a_set, a_slb, a_o, a_src, a_rng, a_bo0, a_bo1, a_brCT, a_brCF, a_cond, a_sid, a_sic, a_sib, a_mea, a_meb, a_mec, b_add, b_sub, c_lt, c_le, c_gt, c_ge, c_eqI, c_neI, c_eqS, c_neS, c_isB, c_isnotB, p_lenL, p_lenT, p_int, p_max, p_min, p_tupL, p_lstT, p_lstL, i_l, i_t, at0, at1, at2, t_bool, s_l, s_t, bp_nm, bp_tp, bps0, bps1, sr_l, sr_t, sr_n, startE, wipe, List.map_cons, List.map_nil, List.length_cons, List.length_nil, List.replicate, List.cons_append, List.nil_append, List.append_nil, Nat.reduceAdd, Nat.reduceSub, Nat.reduceMul, List.getElem?_cons_zero, List.getElem?_cons_succ, List.getElem?_nil, List.set_cons_zero, List.set_cons_succ, List.mapM_cons, List.mapM_nil, Option.pure_def, Option.bind_eq_bind, Option.bind_some, Bool.not_true, Bool.not_false, not_tup fun xs e => hb ⟨xs, e⟩, hz, List.take_length]
        · have e1 : isNum (.int last) 0 8 = false := by simp [isNum]; omega
          have hz : isNet (.tuple [.int last, b, c]) = false := by
            unfold isNet
            split
            · rename_i heq
              cases heq
              simp
              intros
              omega
            · rfl
          simp only [w_var, a_var, w_con, w_glo, w_op, k_op1, k_op2, w_neg, k_neg, w_cmp, k_cm1, k_cm2, w_chain, k_ch1, k_ch2, w_and, k_and, w_or, k_or, w_not, k_not, w_ite, k_ite, w_tup, k_tup, w_lst, k_lst, w_call, k_call, w_prim, k_prim, w_isi, k_isi, w_ix, k_ix1, k_ix2, w_ts0, w_ts, k_ts1, k_ts2, w_ds0, w_ds, k_ds1d, k_ds1n, k_ds2, x_nil, x_cons, x_set, k_set, x_setM, k_setMt, k_setMn, x_expr, k_expr, x_ret, k_ret, x_retN, x_pass, x_ife, k_if, x_for, k_for, k_finN, k_finD, k_finL, st_t, st_n, rd_d, rd_ref, w_sl, k_sl, k_sl1, k_sl2, w_o0, w_o_var, w_o_con, w_o_op, k_o, w_it_var, w_it_con, w_it_ix, w_it_lst, w_it_tup, w_it_call, w_it_prim, w_it_sl, w_it_op, w_it_comp, w_it_ite, k_src, w_rng, k_rng, w_comp, k_comp, k_eltD, k_eltN, k_cond, body0, body1, x_setI, k_si1, k_si2, k_si3, w_meth, k_me1, k_me2, nxt_next, nxt_ret, nxt_brk, nxt_cont, wp_ok, wps_ok, w_dct0, a_dct1, wps_bt, a_bt, x_parM, w_evT, w_evF, a_alT, a_alN, a_stl, k_pm1, k_pm2, tB, oK_some, a_at, a_atB, a_atD, a_opb, a_opa, a_cmb, a_cma, a_ixb, a_ixa, a_neg, a_chT, a_chF, a_cha2, a_cha, a_brAT, a_brAF, a_brOT, a_brOF, a_brIT, a_brIF, a_brST, a_brSF, a_and, a_or, a_not, a_ite, a_if, a_prim, a_isi, a_set, a_slb, a_o, a_src, a_rng, a_bo0, a_bo1, a_brCT, a_brCF, a_cond, a_sid, a_sic, a_sib, a_mea, a_meb, a_mec, b_add, b_sub, c_lt, c_le, c_gt, c_ge, c_eqI, c_neI, c_eqS, c_neS, c_isB, c_isnotB, p_lenL, p_lenT, p_int, p_max, p_min, p_tupL, p_lstT, p_lstL, i_l, i_t, at0, at1, at2, t_bool, s_l, s_t, bp_nm, bp_tp, bps0, bps1, sr_l, sr_t, sr_n, startE, wipe, List.map_cons, List.map_nil, List.length_cons, List.length_nil, List.replicate, List.cons_append, List.nil_append, List.append_nil, Nat.reduceAdd, Nat.reduceSub, Nat.reduceMul, List.getElem?_cons_zero, List.getElem?_cons_succ, List.getElem?_nil, List.set_cons_zero, List.set_cons_succ, List.mapM_cons, List.mapM_nil, Option.pure_def, Option.bind_eq_bind, Option.bind_some, Bool.not_true, Bool.not_false, e1, hz, List.take_length]
      | _ => simp only [w_var, a_var, w_con, w_glo, w_op, k_op1, k_op2, w_neg, k_neg, w_cmp, k_cm1, k_cm2, w_chain, k_ch1, k_ch2, w_and, k_and, w_or, k_or, w_not, k_not, w_ite, k_ite, w_tup, k_tup, w_lst, k_lst, w_call, k_call, w_prim, k_prim, w_isi, k_isi, w_ix, k_ix1, k_ix2, w_ts0, w_ts, k_ts1, k_ts2, w_ds0, w_ds, k_ds1d, k_ds1n, k_ds2, x_nil, x_cons, x_set, k_set, x_setM, k_setMt, k_setMn, x_expr, k_expr, x_ret, k_ret, x_retN, x_pass, x_ife, k_if, x_for, k_for, k_finN, k_finD, k_finL, st_t, st_n, rd_d, rd_ref, w_sl, k_sl, k_sl1, k_sl2, w_o0, w_o_var, w_o_con, w_o_op, k_o, w_it_var, w_it_con, w_it_ix, w_it_lst, w_it_tup, w_it_call, w_it_prim, w_it_sl, w_it_op, w_it_comp, w_it_ite, k_src, w_rng, k_rng, w_comp, k_comp, k_eltD, k_eltN, k_cond, body0, body1, x_setI, k_si1, k_si2, k_si3, w_meth, k_me1, k_me2, nxt_next, nxt_ret, nxt_brk, nxt_cont, wp_ok, wps_ok, w_dct0, a_dct1, wps_bt, a_bt, x_parM, w_evT, w_evF, a_alT, a_alN, a_stl, k_pm1, k_pm2, tB, oK_some, a_at, a_atB, a_atD, a_opb, a_opa, a_cmb, a_cma, a_ixb, a_ixa, a_neg, a_chT, a_chF, a_cha2, a_cha, a_brAT, a_brAF, a_brOT, a_brOF, a_brIT, a_brIF, a_brST, a_brSF, a_and, a_or, a_not, a_ite, a_if, a_prim, a_isi, a_set, a_slb, a_o, a_src, a_rng, a_bo0, a_bo1, a_brCT, a_brCF, a_cond, a_sid, a_sic, a_sib, a_mea, a_meb, a_mec, b_add, b_sub, c_lt, c_le, c_gt, c_ge, c_eqI, c_neI, c_eqS, c_neS, c_isB, c_isnotB, p_lenL, p_lenT, p_int, p_max, p_min, p_tupL, p_lstT, p_lstL, i_l, i_t, at0, at1, at2, t_bool, s_l, s_t, bp_nm, bp_tp, bps0, bps1, sr_l, sr_t, sr_n, startE, wipe, List.map_cons, List.map_nil, List.length_cons, List.length_nil, List.replicate, List.cons_append, List.nil_append, List.append_nil, Nat.reduceAdd, Nat.reduceSub, Nat.reduceMul, List.getElem?_cons_zero, List.getElem?_cons_succ, List.getElem?_nil, List.set_cons_zero, List.set_cons_succ, List.mapM_cons, List.mapM_nil, Option.pure_def, Option.bind_eq_bind, Option.bind_some, Bool.not_true, Bool.not_false, isNum, isNet, List.take_length]
  · have hz : isNet x = false := net_no fun a b c e => ht ⟨_, e⟩
    simp only [w_var, a_var, w_con, w_glo, w_op, k_op1, k_op2, w_neg, k_neg, w_cmp, k_cm1, k_cm2, w_chain, k_ch1, k_ch2, w_and, k_and, w_or, k_or, w_not, k_not, w_ite, k_ite, w_tup, k_tup, w_lst, k_lst, w_call, k_call, w_prim, k_prim, w_isi, k_isi, w_ix, k_ix1, k_ix2, w_ts0, w_ts, k_ts1, k_ts2, w_ds0, w_ds, k_ds1d, k_ds1n, k_ds2, x_nil, x_cons, x_set, k_set, x_setM, k_setMt, k_setMn, x_expr, k_expr, x_ret, k_ret, x_retN, x_pass, x_ife, k_if, x_for, k_for, k_finN, k_finD, k_finL, st_t, st_n, rd_d, rd_ref, w_sl, k_sl, k_sl1, k_sl2, w_o0, w_o_var, w_o_con, w_o_op, k_o, w_it_var, w_it_con, w_it_ix, w_it_lst, w_it_tup, w_it_call, w_it_prim, w_it_sl, w_it_op, w_it_comp, w_it_ite, k_src, w_rng, k_rng, w_comp, k_comp, k_eltD, k_eltN, k_cond, body0, body1, x_setI, k_si1, k_si2, k_si3, w_meth, k_me1, k_me2, nxt_next, nxt_ret, nxt_brk, nxt_cont, wp_ok, wps_ok, w_dct0, a_dct1, wps_bt, a_bt, x_parM, w_evT, w_evF, a_alT, a_alN, a_stl, k_pm1, k_pm2, tB, oK_some, a_at, a_atB, a_atD, a_opb, a_opa, a_cmb, a_cma, a_ixb, a_ixa, a_neg, a_chT, a_chF, a_cha2, a_cha, a_brAT, a_brAF, a_brOT, a_brOF, a_brIT, a_brIF, a_brST, a_brSF, a_and, a_or, a_not, a_ite, a_if, a_prim, a_isi, a_set, a_slb, a_o, a_src, a_rng, a_bo0, a_bo1, a_brCT, a_brCF, a_cond, a_sid, a_sic, a_sib, a_mea, a_meb, a_mec, b_add, b_sub, c_lt, c_le, c_gt, c_ge, c_eqI, c_neI, c_eqS, c_neS, c_isB, c_isnotB, p_lenL, p_lenT, p_int, p_max, p_min, p_tupL, p_lstT, p_lstL, i_l, i_t, at0, at1, at2, t_bool, s_l, s_t, bp_nm, bp_tp, bps0, bps1, sr_l, sr_t, sr_n, startE, wipe, List.map_cons, List.map_nil, List.length_cons, List.length_nil, List.replicate, List.cons_append, List.nil_append, List.append_nil, Nat.reduceAdd, Nat.reduceSub, Nat.reduceMul, List.getElem?_cons_zero, List.getElem?_cons_succ, List.getElem?_nil, List.set_cons_zero, List.set_cons_succ, List.mapM_cons, List.mapM_nil, Option.pure_def, Option.bind_eq_bind, Option.bind_some, Bool.not_true, Bool.not_false, not_tup fun xs e => ht ⟨xs, e⟩, hz, List.take_length]
end
end Lw


namespace Lw
open MP
section
variable {n wf : Nat} {st : Store} {c : Nat}
theorem pick {xs : List D} (h : Sr st c) (h0 : xs ≠ []) (h1 : xs.length < 1073741824) :
    (callN tbl wf (n + 2) 6 [.ref c, .d (.list xs)] st).wp fun v st' => (∃ x ∈ xs, v = .t (.d x)) ∧ Sm c st st' := by
  have hl : 0 < xs.length := List.length_pos_iff.mpr h0
  rw [wp_callN (d := d__law_pick) rfl rfl]
  unfold d__law_pick
  simp only [w_var, a_var, w_con, w_glo, w_op, k_op1, k_op2, w_neg, k_neg, w_cmp, k_cm1, k_cm2, w_chain, k_ch1, k_ch2, w_and, k_and, w_or, k_or, w_not, k_not, w_ite, k_ite, w_tup, k_tup, w_lst, k_lst, w_call, k_call, w_prim, k_prim, w_isi, k_isi, w_ix, k_ix1, k_ix2, w_ts0, w_ts, k_ts1, k_ts2, w_ds0, w_ds, k_ds1d, k_ds1n, k_ds2, x_nil, x_cons, x_set, k_set, x_setM, k_setMt, k_setMn, x_expr, k_expr, x_ret, k_ret, x_retN, x_pass, x_ife, k_if, x_for, k_for, k_finN, k_finD, k_finL, st_t, st_n, rd_d, rd_ref, w_sl, k_sl, k_sl1, k_sl2, w_o0, w_o_var, w_o_con, w_o_op, k_o, w_it_var, w_it_con, w_it_ix, w_it_lst, w_it_tup, w_it_call, w_it_prim, w_it_sl, w_it_op, w_it_comp, w_it_ite, k_src, w_rng, k_rng, w_comp, k_comp, k_eltD, k_eltN, k_cond, body0, body1, x_setI, k_si1, k_si2, k_si3, w_meth, k_me1, k_me2, nxt_next, nxt_ret, nxt_brk, nxt_cont, wp_ok, wps_ok, w_dct0, a_dct1, wps_bt, a_bt, x_parM, w_evT, w_evF, a_alT, a_alN, a_stl, k_pm1, k_pm2, tB, oK_some, a_at, a_atB, a_atD, a_opb, a_opa, a_cmb, a_cma, a_ixb, a_ixa, a_neg, a_chT, a_chF, a_cha2, a_cha, a_brAT, a_brAF, a_brOT, a_brOF, a_brIT, a_brIF, a_brST, a_brSF, a_and, a_or, a_not, a_ite, a_if, a_prim, a_isi, a_set, a_slb, a_o, a_src, a_rng, a_bo0, a_bo1, a_brCT, a_brCF, a_cond, a_sid, a_sic, a_sib, a_mea, a_meb, a_mec, b_add, b_sub, c_lt, c_le, c_gt, c_ge, c_eqI, c_neI, c_eqS, c_neS, c_isB, c_isnotB, p_lenL, p_lenT, p_int, p_max, p_min, p_tupL, p_lstT, p_lstL, i_l, i_t, at0, at1, at2, t_bool, s_l, s_t, bp_nm, bp_tp, bps0, bps1, sr_l, sr_t, sr_n, startE, wipe, List.map_cons, List.map_nil, List.length_cons, List.length_nil, List.replicate, List.cons_append, List.nil_append, List.append_nil, Nat.reduceAdd, Nat.reduceSub, Nat.reduceMul, List.getElem?_cons_zero, List.getElem?_cons_succ, List.getElem?_nil, List.set_cons_zero, List.set_cons_succ, List.mapM_cons, List.mapM_nil, Option.pure_def, Option.bind_eq_bind, Option.bind_some, Bool.not_true, Bool.not_false]
  refine (draw h (by omega) (by omega)).mono ?_
  rintro v st1 ⟨⟨r, rfl, r0, r1⟩, s1⟩
  obtain ⟨y, e1, _, e3⟩ := at_ok r0 r1
  simp only [w_var, a_var, w_con, w_glo, w_op, k_op1, k_op2, w_neg, k_neg, w_cmp, k_cm1, k_cm2, w_chain, k_ch1, k_ch2, w_and, k_and, w_or, k_or, w_not, k_not, w_ite, k_ite, w_tup, k_tup, w_lst, k_lst, w_call, k_call, w_prim, k_prim, w_isi, k_isi, w_ix, k_ix1, k_ix2, w_ts0, w_ts, k_ts1, k_ts2, w_ds0, w_ds, k_ds1d, k_ds1n, k_ds2, x_nil, x_cons, x_set, k_set, x_setM, k_setMt, k_setMn, x_expr, k_expr, x_ret, k_ret, x_retN, x_pass, x_ife, k_if, x_for, k_for, k_finN, k_finD, k_finL, st_t, st_n, rd_d, rd_ref, w_sl, k_sl, k_sl1, k_sl2, w_o0, w_o_var, w_o_con, w_o_op, k_o, w_it_var, w_it_con, w_it_ix, w_it_lst, w_it_tup, w_it_call, w_it_prim, w_it_sl, w_it_op, w_it_comp, w_it_ite, k_src, w_rng, k_rng, w_comp, k_comp, k_eltD, k_eltN, k_cond, body0, body1, x_setI, k_si1, k_si2, k_si3, w_meth, k_me1, k_me2, nxt_next, nxt_ret, nxt_brk, nxt_cont, wp_ok, wps_ok, w_dct0, a_dct1, wps_bt, a_bt, x_parM, w_evT, w_evF, a_alT, a_alN, a_stl, k_pm1, k_pm2, tB, oK_some, a_at, a_atB, a_atD, a_opb, a_opa, a_cmb, a_cma, a_ixb, a_ixa, a_neg, a_chT, a_chF, a_cha2, a_cha, a_brAT, a_brAF, a_brOT, a_brOF, a_brIT, a_brIF, a_brST, a_brSF, a_and, a_or, a_not, a_ite, a_if, a_prim, a_isi, a_set, a_slb, a_o, a_src, a_rng, a_bo0, a_bo1, a_brCT, a_brCF, a_cond, a_sid, a_sic, a_sib, a_mea, a_meb, a_mec, b_add, b_sub, c_lt, c_le, c_gt, c_ge, c_eqI, c_neI, c_eqS, c_neS, c_isB, c_isnotB, p_lenL, p_lenT, p_int, p_max, p_min, p_tupL, p_lstT, p_lstL, i_l, i_t, at0, at1, at2, t_bool, s_l, s_t, bp_nm, bp_tp, bps0, bps1, sr_l, sr_t, sr_n, startE, wipe, List.map_cons, List.map_nil, List.length_cons, List.length_nil, List.replicate, List.cons_append, List.nil_append, List.append_nil, Nat.reduceAdd, Nat.reduceSub, Nat.reduceMul, List.getElem?_cons_zero, List.getElem?_cons_succ, List.getElem?_nil, List.set_cons_zero, List.set_cons_succ, List.mapM_cons, List.mapM_nil, Option.pure_def, Option.bind_eq_bind, Option.bind_some, Bool.not_true, Bool.not_false, e1]
  rw [take_len s1.1]
  exact ⟨⟨y, e3, rfl⟩, s1⟩
theorem life {lo hi : Int} {on : Bool} (h : Sr st c) (h0 : 0 ≤ lo) (h1 : lo ≤ hi) (h2 : hi ≤ 100) :
    (callN tbl wf (n + 2) 8 [.ref c, .d (.int lo), .d (.int hi), .d (.bool on)] st).wp fun v st' => (∃ f e : Int, v = .t (.d (.tuple [.int f, .int e])) ∧ lo ≤ f ∧ f ≤ e ∧ e ≤ hi) ∧ Sm c st st' := by
  rw [wp_callN (d := d__law_life) rfl rfl]
  unfold d__law_life
  simp only [w_var, a_var, w_con, w_glo, w_op, k_op1, k_op2, w_neg, k_neg, w_cmp, k_cm1, k_cm2, w_chain, k_ch1, k_ch2, w_and, k_and, w_or, k_or, w_not, k_not, w_ite, k_ite, w_tup, k_tup, w_lst, k_lst, w_call, k_call, w_prim, k_prim, w_isi, k_isi, w_ix, k_ix1, k_ix2, w_ts0, w_ts, k_ts1, k_ts2, w_ds0, w_ds, k_ds1d, k_ds1n, k_ds2, x_nil, x_cons, x_set, k_set, x_setM, k_setMt, k_setMn, x_expr, k_expr, x_ret, k_ret, x_retN, x_pass, x_ife, k_if, x_for, k_for, k_finN, k_finD, k_finL, st_t, st_n, rd_d, rd_ref, w_sl, k_sl, k_sl1, k_sl2, w_o0, w_o_var, w_o_con, w_o_op, k_o, w_it_var, w_it_con, w_it_ix, w_it_lst, w_it_tup, w_it_call, w_it_prim, w_it_sl, w_it_op, w_it_comp, w_it_ite, k_src, w_rng, k_rng, w_comp, k_comp, k_eltD, k_eltN, k_cond, body0, body1, x_setI, k_si1, k_si2, k_si3, w_meth, k_me1, k_me2, nxt_next, nxt_ret, nxt_brk, nxt_cont, wp_ok, wps_ok, w_dct0, a_dct1, wps_bt, a_bt, x_parM, w_evT, w_evF, a_alT, a_alN, a_stl, k_pm1, k_pm2, tB, oK_some, a_at, a_atB, a_atD, a_opb, a_opa, a_cmb, a_cma, a_ixb, a_ixa, a_neg, a_chT, a_chF, a_cha2, a_cha, a_brAT, a_brAF, a_brOT, a_brOF, a_brIT, a_brIF, a_brST, a_brSF, a_and, a_or, a_not, a_ite, a_if, a_prim, a_isi, a_set, a_slb, a_o, a_src, a_rng, a_bo0, a_bo1, a_brCT, a_brCF, a_cond, a_sid, a_sic, a_sib, a_mea, a_meb, a_mec, b_add, b_sub, c_lt, c_le, c_gt, c_ge, c_eqI, c_neI, c_eqS, c_neS, c_isB, c_isnotB, p_lenL, p_lenT, p_int, p_max, p_min, p_tupL, p_lstT, p_lstL, i_l, i_t, at0, at1, at2, t_bool, s_l, s_t, bp_nm, bp_tp, bps0, bps1, sr_l, sr_t, sr_n, startE, wipe, List.map_cons, List.map_nil, List.length_cons, List.length_nil, List.replicate, List.cons_append, List.nil_append, List.append_nil, Nat.reduceAdd, Nat.reduceSub, Nat.reduceMul, List.getElem?_cons_zero, List.getElem?_cons_succ, List.getElem?_nil, List.set_cons_zero, List.set_cons_succ, List.mapM_cons, List.mapM_nil, Option.pure_def, Option.bind_eq_bind, Option.bind_some, Bool.not_true, Bool.not_false]
  refine (draw h (by omega) (by omega)).mono ?_
  rintro v st1 ⟨⟨r, rfl, r0, r1⟩, s1⟩
  simp only [w_var, a_var, w_con, w_glo, w_op, k_op1, k_op2, w_neg, k_neg, w_cmp, k_cm1, k_cm2, w_chain, k_ch1, k_ch2, w_and, k_and, w_or, k_or, w_not, k_not, w_ite, k_ite, w_tup, k_tup, w_lst, k_lst, w_call, k_call, w_prim, k_prim, w_isi, k_isi, w_ix, k_ix1, k_ix2, w_ts0, w_ts, k_ts1, k_ts2, w_ds0, w_ds, k_ds1d, k_ds1n, k_ds2, x_nil, x_cons, x_set, k_set, x_setM, k_setMt, k_setMn, x_expr, k_expr, x_ret, k_ret, x_retN, x_pass, x_ife, k_if, x_for, k_for, k_finN, k_finD, k_finL, st_t, st_n, rd_d, rd_ref, w_sl, k_sl, k_sl1, k_sl2, w_o0, w_o_var, w_o_con, w_o_op, k_o, w_it_var, w_it_con, w_it_ix, w_it_lst, w_it_tup, w_it_call, w_it_prim, w_it_sl, w_it_op, w_it_comp, w_it_ite, k_src, w_rng, k_rng, w_comp, k_comp, k_eltD, k_eltN, k_cond, body0, body1, x_setI, k_si1, k_si2, k_si3, w_meth, k_me1, k_me2, nxt_next, nxt_ret, nxt_brk, nxt_cont, wp_ok, wps_ok, w_dct0, a_dct1, wps_bt, a_bt, x_parM, w_evT, w_evF, a_alT, a_alN, a_stl, k_pm1, k_pm2, tB, oK_some, a_at, a_atB, a_atD, a_opb, a_opa, a_cmb, a_cma, a_ixb, a_ixa, a_neg, a_chT, a_chF, a_cha2, a_cha, a_brAT, a_brAF, a_brOT, a_brOF, a_brIT, a_brIF, a_brST, a_brSF, a_and, a_or, a_not, a_ite, a_if, a_prim, a_isi, a_set, a_slb, a_o, a_src, a_rng, a_bo0, a_bo1, a_brCT, a_brCF, a_cond, a_sid, a_sic, a_sib, a_mea, a_meb, a_mec, b_add, b_sub, c_lt, c_le, c_gt, c_ge, c_eqI, c_neI, c_eqS, c_neS, c_isB, c_isnotB, p_lenL, p_lenT, p_int, p_max, p_min, p_tupL, p_lstT, p_lstL, i_l, i_t, at0, at1, at2, t_bool, s_l, s_t, bp_nm, bp_tp, bps0, bps1, sr_l, sr_t, sr_n, startE, wipe, List.map_cons, List.map_nil, List.length_cons, List.length_nil, List.replicate, List.cons_append, List.nil_append, List.append_nil, Nat.reduceAdd, Nat.reduceSub, Nat.reduceMul, List.getElem?_cons_zero, List.getElem?_cons_succ, List.getElem?_nil, List.set_cons_zero, List.set_cons_succ, List.mapM_cons, List.mapM_nil, Option.pure_def, Option.bind_eq_bind, Option.bind_some, Bool.not_true, Bool.not_false]
  refine (draw s1.2.2 (by omega) (by omega)).mono ?_
  rintro v st2 ⟨⟨q, rfl, q0, q1⟩, s2⟩
  simp only [w_var, a_var, w_con, w_glo, w_op, k_op1, k_op2, w_neg, k_neg, w_cmp, k_cm1, k_cm2, w_chain, k_ch1, k_ch2, w_and, k_and, w_or, k_or, w_not, k_not, w_ite, k_ite, w_tup, k_tup, w_lst, k_lst, w_call, k_call, w_prim, k_prim, w_isi, k_isi, w_ix, k_ix1, k_ix2, w_ts0, w_ts, k_ts1, k_ts2, w_ds0, w_ds, k_ds1d, k_ds1n, k_ds2, x_nil, x_cons, x_set, k_set, x_setM, k_setMt, k_setMn, x_expr, k_expr, x_ret, k_ret, x_retN, x_pass, x_ife, k_if, x_for, k_for, k_finN, k_finD, k_finL, st_t, st_n, rd_d, rd_ref, w_sl, k_sl, k_sl1, k_sl2, w_o0, w_o_var, w_o_con, w_o_op, k_o, w_it_var, w_it_con, w_it_ix, w_it_lst, w_it_tup, w_it_call, w_it_prim, w_it_sl, w_it_op, w_it_comp, w_it_ite, k_src, w_rng, k_rng, w_comp, k_comp, k_eltD, k_eltN, k_cond, body0, body1, x_setI, k_si1, k_si2, k_si3, w_meth, k_me1, k_me2, nxt_next, nxt_ret, nxt_brk, nxt_cont, wp_ok, wps_ok, w_dct0, a_dct1, wps_bt, a_bt, x_parM, w_evT, w_evF, a_alT, a_alN, a_stl, k_pm1, k_pm2, tB, oK_some, a_at, a_atB, a_atD, a_opb, a_opa, a_cmb, a_cma, a_ixb, a_ixa, a_neg, a_chT, a_chF, a_cha2, a_cha, a_brAT, a_brAF, a_brOT, a_brOF, a_brIT, a_brIF, a_brST, a_brSF, a_and, a_or, a_not, a_ite, a_if, a_prim, a_isi, a_set, a_slb, a_o, a_src, a_rng, a_bo0, a_bo1, a_brCT, a_brCF, a_cond, a_sid, a_sic, a_sib, a_mea, a_meb, a_mec, b_add, b_sub, c_lt, c_le, c_gt, c_ge, c_eqI, c_neI, c_eqS, c_neS, c_isB, c_isnotB, p_lenL, p_lenT, p_int, p_max, p_min, p_tupL, p_lstT, p_lstL, i_l, i_t, at0, at1, at2, t_bool, s_l, s_t, bp_nm, bp_tp, bps0, bps1, sr_l, sr_t, sr_n, startE, wipe, List.map_cons, List.map_nil, List.length_cons, List.length_nil, List.replicate, List.cons_append, List.nil_append, List.append_nil, Nat.reduceAdd, Nat.reduceSub, Nat.reduceMul, List.getElem?_cons_zero, List.getElem?_cons_succ, List.getElem?_nil, List.set_cons_zero, List.set_cons_succ, List.mapM_cons, List.mapM_nil, Option.pure_def, Option.bind_eq_bind, Option.bind_some, Bool.not_true, Bool.not_false]
  cases on with
  | false =>
    simp only [w_var, a_var, w_con, w_glo, w_op, k_op1, k_op2, w_neg, k_neg, w_cmp, k_cm1, k_cm2, w_chain, k_ch1, k_ch2, w_and, k_and, w_or, k_or, w_not, k_not, w_ite, k_ite, w_tup, k_tup, w_lst, k_lst, w_call, k_call, w_prim, k_prim, w_isi, k_isi, w_ix, k_ix1, k_ix2, w_ts0, w_ts, k_ts1, k_ts2, w_ds0, w_ds, k_ds1d, k_ds1n, k_ds2, x_nil, x_cons, x_set, k_set, x_setM, k_setMt, k_setMn, x_expr, k_expr, x_ret, k_ret, x_retN, x_pass, x_ife, k_if, x_for, k_for, k_finN, k_finD, k_finL, st_t, st_n, rd_d, rd_ref, w_sl, k_sl, k_sl1, k_sl2, w_o0, w_o_var, w_o_con, w_o_op, k_o, w_it_var, w_it_con, w_it_ix, w_it_lst, w_it_tup, w_it_call, w_it_prim, w_it_sl, w_it_op, w_it_comp, w_it_ite, k_src, w_rng, k_rng, w_comp, k_comp, k_eltD, k_eltN, k_cond, body0, body1, x_setI, k_si1, k_si2, k_si3, w_meth, k_me1, k_me2, nxt_next, nxt_ret, nxt_brk, nxt_cont, wp_ok, wps_ok, w_dct0, a_dct1, wps_bt, a_bt, x_parM, w_evT, w_evF, a_alT, a_alN, a_stl, k_pm1, k_pm2, tB, oK_some, a_at, a_atB, a_atD, a_opb, a_opa, a_cmb, a_cma, a_ixb, a_ixa, a_neg, a_chT, a_chF, a_cha2, a_cha, a_brAT, a_brAF, a_brOT, a_brOF, a_brIT, a_brIF, a_brST, a_brSF, a_and, a_or, a_not, a_ite, a_if, a_prim, a_isi, a_set, a_slb, a_o, a_src, a_rng, a_bo0, a_bo1, a_brCT, a_brCF, a_cond, a_sid, a_sic, a_sib, a_mea, a_meb, a_mec, b_add, b_sub, c_lt, c_le, c_gt, c_ge, c_eqI, c_neI, c_eqS, c_neS, c_isB, c_isnotB, p_lenL, p_lenT, p_int, p_max, p_min, p_tupL, p_lstT, p_lstL, i_l, i_t, at0, at1, at2, t_bool, s_l, s_t, bp_nm, bp_tp, bps0, bps1, sr_l, sr_t, sr_n, startE, wipe, List.map_cons, List.map_nil, List.length_cons, List.length_nil, List.replicate, List.cons_append, List.nil_append, List.append_nil, Nat.reduceAdd, Nat.reduceSub, Nat.reduceMul, List.getElem?_cons_zero, List.getElem?_cons_succ, List.getElem?_nil, List.set_cons_zero, List.set_cons_succ, List.mapM_cons, List.mapM_nil, Option.pure_def, Option.bind_eq_bind, Option.bind_some, Bool.not_true, Bool.not_false]
    have s3 := s1.trans s2
    rw [take_len s3.1]
    exact ⟨⟨_, _, rfl, by omega, by omega, by omega⟩, s3⟩
  | true =>
    simp only [w_var, a_var, w_con, w_glo, w_op, k_op1, k_op2, w_neg, k_neg, w_cmp, k_cm1, k_cm2, w_chain, k_ch1, k_ch2, w_and, k_and, w_or, k_or, w_not, k_not, w_ite, k_ite, w_tup, k_tup, w_lst, k_lst, w_call, k_call, w_prim, k_prim, w_isi, k_isi, w_ix, k_ix1, k_ix2, w_ts0, w_ts, k_ts1, k_ts2, w_ds0, w_ds, k_ds1d, k_ds1n, k_ds2, x_nil, x_cons, x_set, k_set, x_setM, k_setMt, k_setMn, x_expr, k_expr, x_ret, k_ret, x_retN, x_pass, x_ife, k_if, x_for, k_for, k_finN, k_finD, k_finL, st_t, st_n, rd_d, rd_ref, w_sl, k_sl, k_sl1, k_sl2, w_o0, w_o_var, w_o_con, w_o_op, k_o, w_it_var, w_it_con, w_it_ix, w_it_lst, w_it_tup, w_it_call, w_it_prim, w_it_sl, w_it_op, w_it_comp, w_it_ite, k_src, w_rng, k_rng, w_comp, k_comp, k_eltD, k_eltN, k_cond, body0, body1, x_setI, k_si1, k_si2, k_si3, w_meth, k_me1, k_me2, nxt_next, nxt_ret, nxt_brk, nxt_cont, wp_ok, wps_ok, w_dct0, a_dct1, wps_bt, a_bt, x_parM, w_evT, w_evF, a_alT, a_alN, a_stl, k_pm1, k_pm2, tB, oK_some, a_at, a_atB, a_atD, a_opb, a_opa, a_cmb, a_cma, a_ixb, a_ixa, a_neg, a_chT, a_chF, a_cha2, a_cha, a_brAT, a_brAF, a_brOT, a_brOF, a_brIT, a_brIF, a_brST, a_brSF, a_and, a_or, a_not, a_ite, a_if, a_prim, a_isi, a_set, a_slb, a_o, a_src, a_rng, a_bo0, a_bo1, a_brCT, a_brCF, a_cond, a_sid, a_sic, a_sib, a_mea, a_meb, a_mec, b_add, b_sub, c_lt, c_le, c_gt, c_ge, c_eqI, c_neI, c_eqS, c_neS, c_isB, c_isnotB, p_lenL, p_lenT, p_int, p_max, p_min, p_tupL, p_lstT, p_lstL, i_l, i_t, at0, at1, at2, t_bool, s_l, s_t, bp_nm, bp_tp, bps0, bps1, sr_l, sr_t, sr_n, startE, wipe, List.map_cons, List.map_nil, List.length_cons, List.length_nil, List.replicate, List.cons_append, List.nil_append, List.append_nil, Nat.reduceAdd, Nat.reduceSub, Nat.reduceMul, List.getElem?_cons_zero, List.getElem?_cons_succ, List.getElem?_nil, List.set_cons_zero, List.set_cons_succ, List.mapM_cons, List.mapM_nil, Option.pure_def, Option.bind_eq_bind, Option.bind_some, Bool.not_true, Bool.not_false]
    refine (draw s2.2.2 (by split <;> omega) (by split <;> omega)).mono ?_
    rintro v st3 ⟨⟨u, rfl, u0, u1⟩, s3⟩
    simp only [w_var, a_var, w_con, w_glo, w_op, k_op1, k_op2, w_neg, k_neg, w_cmp, k_cm1, k_cm2, w_chain, k_ch1, k_ch2, w_and, k_and, w_or, k_or, w_not, k_not, w_ite, k_ite, w_tup, k_tup, w_lst, k_lst, w_call, k_call, w_prim, k_prim, w_isi, k_isi, w_ix, k_ix1, k_ix2, w_ts0, w_ts, k_ts1, k_ts2, w_ds0, w_ds, k_ds1d, k_ds1n, k_ds2, x_nil, x_cons, x_set, k_set, x_setM, k_setMt, k_setMn, x_expr, k_expr, x_ret, k_ret, x_retN, x_pass, x_ife, k_if, x_for, k_for, k_finN, k_finD, k_finL, st_t, st_n, rd_d, rd_ref, w_sl, k_sl, k_sl1, k_sl2, w_o0, w_o_var, w_o_con, w_o_op, k_o, w_it_var, w_it_con, w_it_ix, w_it_lst, w_it_tup, w_it_call, w_it_prim, w_it_sl, w_it_op, w_it_comp, w_it_ite, k_src, w_rng, k_rng, w_comp, k_comp, k_eltD, k_eltN, k_cond, body0, body1, x_setI, k_si1, k_si2, k_si3, w_meth, k_me1, k_me2, nxt_next, nxt_ret, nxt_brk, nxt_cont, wp_ok, wps_ok, w_dct0, a_dct1, wps_bt, a_bt, x_parM, w_evT, w_evF, a_alT, a_alN, a_stl, k_pm1, k_pm2, tB, oK_some, a_at, a_atB, a_atD, a_opb, a_opa, a_cmb, a_cma, a_ixb, a_ixa, a_neg, a_chT, a_chF, a_cha2, a_cha, a_brAT, a_brAF, a_brOT, a_brOF, a_brIT, a_brIF, a_brST, a_brSF, a_and, a_or, a_not, a_ite, a_if, a_prim, a_isi, a_set, a_slb, a_o, a_src, a_rng, a_bo0, a_bo1, a_brCT, a_brCF, a_cond, a_sid, a_sic, a_sib, a_mea, a_meb, a_mec, b_add, b_sub, c_lt, c_le, c_gt, c_ge, c_eqI, c_neI, c_eqS, c_neS, c_isB, c_isnotB, p_lenL, p_lenT, p_int, p_max, p_min, p_tupL, p_lstT, p_lstL, i_l, i_t, at0, at1, at2, t_bool, s_l, s_t, bp_nm, bp_tp, bps0, bps1, sr_l, sr_t, sr_n, startE, wipe, List.map_cons, List.map_nil, List.length_cons, List.length_nil, List.replicate, List.cons_append, List.nil_append, List.append_nil, Nat.reduceAdd, Nat.reduceSub, Nat.reduceMul, List.getElem?_cons_zero, List.getElem?_cons_succ, List.getElem?_nil, List.set_cons_zero, List.set_cons_succ, List.mapM_cons, List.mapM_nil, Option.pure_def, Option.bind_eq_bind, Option.bind_some, Bool.not_true, Bool.not_false]
    refine (draw s3.2.2 (by omega) (by omega)).mono ?_
    rintro v st4 ⟨⟨t, rfl, t0, t1⟩, s4⟩
    simp only [w_var, a_var, w_con, w_glo, w_op, k_op1, k_op2, w_neg, k_neg, w_cmp, k_cm1, k_cm2, w_chain, k_ch1, k_ch2, w_and, k_and, w_or, k_or, w_not, k_not, w_ite, k_ite, w_tup, k_tup, w_lst, k_lst, w_call, k_call, w_prim, k_prim, w_isi, k_isi, w_ix, k_ix1, k_ix2, w_ts0, w_ts, k_ts1, k_ts2, w_ds0, w_ds, k_ds1d, k_ds1n, k_ds2, x_nil, x_cons, x_set, k_set, x_setM, k_setMt, k_setMn, x_expr, k_expr, x_ret, k_ret, x_retN, x_pass, x_ife, k_if, x_for, k_for, k_finN, k_finD, k_finL, st_t, st_n, rd_d, rd_ref, w_sl, k_sl, k_sl1, k_sl2, w_o0, w_o_var, w_o_con, w_o_op, k_o, w_it_var, w_it_con, w_it_ix, w_it_lst, w_it_tup, w_it_call, w_it_prim, w_it_sl, w_it_op, w_it_comp, w_it_ite, k_src, w_rng, k_rng, w_comp, k_comp, k_eltD, k_eltN, k_cond, body0, body1, x_setI, k_si1, k_si2, k_si3, w_meth, k_me1, k_me2, nxt_next, nxt_ret, nxt_brk, nxt_cont, wp_ok, wps_ok, w_dct0, a_dct1, wps_bt, a_bt, x_parM, w_evT, w_evF, a_alT, a_alN, a_stl, k_pm1, k_pm2, tB, oK_some, a_at, a_atB, a_atD, a_opb, a_opa, a_cmb, a_cma, a_ixb, a_ixa, a_neg, a_chT, a_chF, a_cha2, a_cha, a_brAT, a_brAF, a_brOT, a_brOF, a_brIT, a_brIF, a_brST, a_brSF, a_and, a_or, a_not, a_ite, a_if, a_prim, a_isi, a_set, a_slb, a_o, a_src, a_rng, a_bo0, a_bo1, a_brCT, a_brCF, a_cond, a_sid, a_sic, a_sib, a_mea, a_meb, a_mec, b_add, b_sub, c_lt, c_le, c_gt, c_ge, c_eqI, c_neI, c_eqS, c_neS, c_isB, c_isnotB, p_lenL, p_lenT, p_int, p_max, p_min, p_tupL, p_lstT, p_lstL, i_l, i_t, at0, at1, at2, t_bool, s_l, s_t, bp_nm, bp_tp, bps0, bps1, sr_l, sr_t, sr_n, startE, wipe, List.map_cons, List.map_nil, List.length_cons, List.length_nil, List.replicate, List.cons_append, List.nil_append, List.append_nil, Nat.reduceAdd, Nat.reduceSub, Nat.reduceMul, List.getElem?_cons_zero, List.getElem?_cons_succ, List.getElem?_nil, List.set_cons_zero, List.set_cons_succ, List.mapM_cons, List.mapM_nil, Option.pure_def, Option.bind_eq_bind, Option.bind_some, Bool.not_true, Bool.not_false]
    have s5 := (s1.trans s2).trans (s3.trans s4)
    rw [take_len s5.1]
    have hu : lo + u ≤ hi := by split at u1 <;> omega
    refine ⟨⟨_, _, rfl, by omega, ?_, ?_⟩, s5⟩ <;> split <;> omega
end
end Lw


namespace Lw
open MP
/-- more cells at the end, only c changed among the old -/
structure Mo (c : Nat) (st s : Store) : Prop where
  len : st.length ≤ s.length
  old : ∀ i, i < st.length → i ≠ c → s[i]? = st[i]?
  src : Sr s c
  lt : c < st.length
theorem Mo.sm {c : Nat} {st s : Store} (h : Mo c st s) : Sm c st (s.take st.length) := by
  have hl : (s.take st.length).length = st.length := by rw [List.length_take]; have := h.len; omega
  refine ⟨hl, fun i hi => ?_, ?_⟩
  · by_cases hlt : i < st.length
    · rw [List.getElem?_take_of_lt hlt]
      exact h.old i hlt hi
    · rw [List.getElem?_eq_none (by omega), List.getElem?_eq_none (by omega)]
  · obtain ⟨a, b, e, q⟩ := h.src
    exact ⟨a, b, by rw [List.getElem?_take_of_lt h.lt]; exact e, q⟩
theorem Sr.lt {st : Store} {c : Nat} (h : Sr st c) : c < st.length := by
  obtain ⟨a, b, e, _⟩ := h
  exact (List.getElem?_eq_some_iff.mp e).1
theorem Mo.sm2 {c : Nat} {st s s' : Store} (h : Mo c st s) (k : Sm c s s') : Mo c st s' := ⟨by rw [k.1]; exact h.len, fun i hi hc => (k.2.1 i hc).trans (h.old i hi hc), k.2.2, h.lt⟩
theorem Mo.set {c : Nat} {st s : Store} (h : Mo c st s) {a : Nat} {x : Cell} (ha : st.length ≤ a) : Mo c st (s.set a x) := by
  refine ⟨by rw [List.length_set]; exact h.len, fun i hi hc => by rw [List.getElem?_set_ne (by omega)]; exact h.old i hi hc, ?_, h.lt⟩
  obtain ⟨u, v, e, q⟩ := h.src
  exact ⟨u, v, by rw [List.getElem?_set_ne (by have := h.lt; omega)]; exact e, q⟩
theorem Mo.new {c : Nat} {st s : Store} (h : Mo c st s) {x : Cell} : Mo c st (s ++ [x]) := by
  refine ⟨by rw [List.length_append]; have := h.len; omega, fun i hi hc => by rw [List.getElem?_append_left (by have := h.len; omega)]; exact h.old i hi hc, ?_, h.lt⟩
  obtain ⟨u, v, e, q⟩ := h.src
  exact ⟨u, v, by rw [List.getElem?_append_left (by have := h.lt; have := h.len; omega)]; exact e, q⟩
theorem Mo.refl {c : Nat} {st : Store} (h : Sr st c) : Mo c st st := ⟨Nat.le_refl _, fun _ _ _ => rfl, h, h.lt⟩
def Lay (x : D) : Prop := x.canLay0 = true ∧ x.depth ≤ 60
theorem lay_all : ∀ {zs : List D}, (∀ z ∈ zs, Lay z) → PySem.PyData.canLayAll0 zs = true ∧ PySem.PyData.depthAll zs ≤ 60
  | [], _ => ⟨rfl, by simp [PySem.PyData.depthAll]⟩
  | z :: zs, h => by
    obtain ⟨h1, h2⟩ := lay_all (zs := zs) fun y hy => h y (List.mem_cons_of_mem _ hy)
    obtain ⟨h3, h4⟩ := h z (by simp)
    simp only [PySem.PyData.canLayAll0, PySem.PyData.depthAll, h1, h3, Bool.and_self, true_and]
    omega
theorem shaped_list {zs : List D} (h : ∀ z ∈ zs, Lay z) : PySem.SeqAt.shaped (.list zs) = true := by
  obtain ⟨h1, h2⟩ := lay_all h
  simp only [PySem.SeqAt.shaped, PySem.PyData.canLay0, PySem.PyData.depth, h1, Bool.true_and]
  exact decide_eq_true (by omega)
theorem mem_erase {α : Type} : ∀ {xs : List α} {k : Nat} {y : α}, y ∈ xs.eraseIdx k → y ∈ xs
  | [], _, _, h => by cases h
  | x :: xs, 0, y, h => List.mem_cons_of_mem _ h
  | x :: xs, k + 1, y, h => by
    rcases List.mem_cons.mp h with rfl | h
    · exact List.mem_cons_self
    · exact List.mem_cons_of_mem _ (mem_erase h)
section
variable {n wf : Nat} {st : Store} {c : Nat}
theorem mixed {xs : List D} (h : Sr st c) (hx : ∀ x ∈ xs, Lay x) (h1 : xs.length < 1000) (hw : 1000 < wf) :
    (callN tbl wf (n + 2) 7 [.ref c, .d (.list xs)] st).wp fun v st' => (∃ ys : List D, v = .new ys ∧ ys.length = xs.length ∧ ∀ y ∈ ys, y ∈ xs) ∧ Sm c st st' := by
  rw [wp_callN (d := d__law_mixed) rfl rfl]
  unfold d__law_mixed
  simp only [w_var, a_var, w_con, w_glo, w_op, k_op1, k_op2, w_neg, k_neg, w_cmp, k_cm1, k_cm2, w_chain, k_ch1, k_ch2, w_and, k_and, w_or, k_or, w_not, k_not, w_ite, k_ite, w_tup, k_tup, w_lst, k_lst, w_call, k_call, w_prim, k_prim, w_isi, k_isi, w_ix, k_ix1, k_ix2, w_ts0, w_ts, k_ts1, k_ts2, w_ds0, w_ds, k_ds1d, k_ds1n, k_ds2, x_nil, x_cons, x_set, k_set, x_setM, k_setMt, k_setMn, x_expr, k_expr, x_ret, k_ret, x_retN, x_pass, x_ife, k_if, x_for, k_for, k_finN, k_finD, k_finL, st_t, st_n, rd_d, rd_ref, w_sl, k_sl, k_sl1, k_sl2, w_o0, w_o_var, w_o_con, w_o_op, k_o, w_it_var, w_it_con, w_it_ix, w_it_lst, w_it_tup, w_it_call, w_it_prim, w_it_sl, w_it_op, w_it_comp, w_it_ite, k_src, w_rng, k_rng, w_comp, k_comp, k_eltD, k_eltN, k_cond, body0, body1, x_setI, k_si1, k_si2, k_si3, w_meth, k_me1, k_me2, nxt_next, nxt_ret, nxt_brk, nxt_cont, wp_ok, wps_ok, w_dct0, a_dct1, wps_bt, a_bt, x_parM, w_evT, w_evF, a_alT, a_alN, a_stl, k_pm1, k_pm2, tB, oK_some, a_at, a_atB, a_atD, a_opb, a_opa, a_cmb, a_cma, a_ixb, a_ixa, a_neg, a_chT, a_chF, a_cha2, a_cha, a_brAT, a_brAF, a_brOT, a_brOF, a_brIT, a_brIF, a_brST, a_brSF, a_and, a_or, a_not, a_ite, a_if, a_prim, a_isi, a_set, a_slb, a_o, a_src, a_rng, a_bo0, a_bo1, a_brCT, a_brCF, a_cond, a_sid, a_sic, a_sib, a_mea, a_meb, a_mec, b_add, b_sub, c_lt, c_le, c_gt, c_ge, c_eqI, c_neI, c_eqS, c_neS, c_isB, c_isnotB, p_lenL, p_lenT, p_int, p_max, p_min, p_tupL, p_lstT, p_lstL, i_l, i_t, at0, at1, at2, t_bool, s_l, s_t, bp_nm, bp_tp, bps0, bps1, sr_l, sr_t, sr_n, startE, wipe, List.map_cons, List.map_nil, List.length_cons, List.length_nil, List.replicate, List.cons_append, List.nil_append, List.append_nil, Nat.reduceAdd, Nat.reduceSub, Nat.reduceMul, List.getElem?_cons_zero, List.getElem?_cons_succ, List.getElem?_nil, List.set_cons_zero, List.set_cons_succ, List.mapM_cons, List.mapM_nil, Option.pure_def, Option.bind_eq_bind, Option.bind_some, Bool.not_true, Bool.not_false]
  have hla : (st ++ [Cell.lst xs]).length = st.length + 1 := by simp
  rw [hla, x_whl]
  refine while_inv (fun m env s => env = [some (.ref c), some (.d (.list xs)), some (.ref st.length), some (.ref (st.length + 1))] ∧ Mo c st s ∧ ∃ lot found : List D, s[st.length]? = some (.lst lot) ∧ s[st.length + 1]? = some (.lst found) ∧ lot.length = m ∧ lot.length + found.length = xs.length ∧
      (∀ y ∈ lot, y ∈ xs) ∧ (∀ y ∈ found, y ∈ xs)) (m := xs.length) (by omega) ⟨rfl, ((Mo.refl h).new).new, xs, [], ?_, ?_, rfl, by simp, fun _ h => h, by simp⟩ ?_
  · rw [List.getElem?_append_left (by simp), List.getElem?_append_right (Nat.le_refl _)]
    simp
  · rw [List.getElem?_append_right (by simp)]
    simp
  · rintro m env s ⟨rfl, mo, lot, found, e1, e2, rfl, e4, e5, e6⟩
    rw [wp_bind, wp_readD]
    have sh : PySem.SeqAt.shaped (.list lot) = true := shaped_list fun z hz => hx z (e5 z hz)
    simp only [w_var, a_var, w_con, w_glo, w_op, k_op1, k_op2, w_neg, k_neg, w_cmp, k_cm1, k_cm2, w_chain, k_ch1, k_ch2, w_and, k_and, w_or, k_or, w_not, k_not, w_ite, k_ite, w_tup, k_tup, w_lst, k_lst, w_call, k_call, w_prim, k_prim, w_isi, k_isi, w_ix, k_ix1, k_ix2, w_ts0, w_ts, k_ts1, k_ts2, w_ds0, w_ds, k_ds1d, k_ds1n, k_ds2, x_nil, x_cons, x_set, k_set, x_setM, k_setMt, k_setMn, x_expr, k_expr, x_ret, k_ret, x_retN, x_pass, x_ife, k_if, x_for, k_for, k_finN, k_finD, k_finL, st_t, st_n, rd_d, rd_ref, w_sl, k_sl, k_sl1, k_sl2, w_o0, w_o_var, w_o_con, w_o_op, k_o, w_it_var, w_it_con, w_it_ix, w_it_lst, w_it_tup, w_it_call, w_it_prim, w_it_sl, w_it_op, w_it_comp, w_it_ite, k_src, w_rng, k_rng, w_comp, k_comp, k_eltD, k_eltN, k_cond, body0, body1, x_setI, k_si1, k_si2, k_si3, w_meth, k_me1, k_me2, nxt_next, nxt_ret, nxt_brk, nxt_cont, wp_ok, wps_ok, w_dct0, a_dct1, wps_bt, a_bt, x_parM, w_evT, w_evF, a_alT, a_alN, a_stl, k_pm1, k_pm2, tB, oK_some, a_at, a_atB, a_atD, a_opb, a_opa, a_cmb, a_cma, a_ixb, a_ixa, a_neg, a_chT, a_chF, a_cha2, a_cha, a_brAT, a_brAF, a_brOT, a_brOF, a_brIT, a_brIF, a_brST, a_brSF, a_and, a_or, a_not, a_ite, a_if, a_prim, a_isi, a_set, a_slb, a_o, a_src, a_rng, a_bo0, a_bo1, a_brCT, a_brCF, a_cond, a_sid, a_sic, a_sib, a_mea, a_meb, a_mec, b_add, b_sub, c_lt, c_le, c_gt, c_ge, c_eqI, c_neI, c_eqS, c_neS, c_isB, c_isnotB, p_lenL, p_lenT, p_int, p_max, p_min, p_tupL, p_lstT, p_lstL, i_l, i_t, at0, at1, at2, t_bool, s_l, s_t, bp_nm, bp_tp, bps0, bps1, sr_l, sr_t, sr_n, startE, wipe, List.map_cons, List.map_nil, List.length_cons, List.length_nil, List.replicate, List.cons_append, List.nil_append, List.append_nil, Nat.reduceAdd, Nat.reduceSub, Nat.reduceMul, List.getElem?_cons_zero, List.getElem?_cons_succ, List.getElem?_nil, List.set_cons_zero, List.set_cons_succ, List.mapM_cons, List.mapM_nil, Option.pure_def, Option.bind_eq_bind, Option.bind_some, Bool.not_true, Bool.not_false, rd_ref e1, c_ne sh nil_shaped rfl, eqv_nil]
    refine ⟨_, rfl, ?_⟩
    cases lot with
    | nil =>
      show (if (!true) = true then _ else _)
      rw [if_neg (by decide)]
      simp only [w_var, a_var, w_con, w_glo, w_op, k_op1, k_op2, w_neg, k_neg, w_cmp, k_cm1, k_cm2, w_chain, k_ch1, k_ch2, w_and, k_and, w_or, k_or, w_not, k_not, w_ite, k_ite, w_tup, k_tup, w_lst, k_lst, w_call, k_call, w_prim, k_prim, w_isi, k_isi, w_ix, k_ix1, k_ix2, w_ts0, w_ts, k_ts1, k_ts2, w_ds0, w_ds, k_ds1d, k_ds1n, k_ds2, x_nil, x_cons, x_set, k_set, x_setM, k_setMt, k_setMn, x_expr, k_expr, x_ret, k_ret, x_retN, x_pass, x_ife, k_if, x_for, k_for, k_finN, k_finD, k_finL, st_t, st_n, rd_d, rd_ref, w_sl, k_sl, k_sl1, k_sl2, w_o0, w_o_var, w_o_con, w_o_op, k_o, w_it_var, w_it_con, w_it_ix, w_it_lst, w_it_tup, w_it_call, w_it_prim, w_it_sl, w_it_op, w_it_comp, w_it_ite, k_src, w_rng, k_rng, w_comp, k_comp, k_eltD, k_eltN, k_cond, body0, body1, x_setI, k_si1, k_si2, k_si3, w_meth, k_me1, k_me2, nxt_next, nxt_ret, nxt_brk, nxt_cont, wp_ok, wps_ok, w_dct0, a_dct1, wps_bt, a_bt, x_parM, w_evT, w_evF, a_alT, a_alN, a_stl, k_pm1, k_pm2, tB, oK_some, a_at, a_atB, a_atD, a_opb, a_opa, a_cmb, a_cma, a_ixb, a_ixa, a_neg, a_chT, a_chF, a_cha2, a_cha, a_brAT, a_brAF, a_brOT, a_brOF, a_brIT, a_brIF, a_brST, a_brSF, a_and, a_or, a_not, a_ite, a_if, a_prim, a_isi, a_set, a_slb, a_o, a_src, a_rng, a_bo0, a_bo1, a_brCT, a_brCF, a_cond, a_sid, a_sic, a_sib, a_mea, a_meb, a_mec, b_add, b_sub, c_lt, c_le, c_gt, c_ge, c_eqI, c_neI, c_eqS, c_neS, c_isB, c_isnotB, p_lenL, p_lenT, p_int, p_max, p_min, p_tupL, p_lstT, p_lstL, i_l, i_t, at0, at1, at2, t_bool, s_l, s_t, bp_nm, bp_tp, bps0, bps1, sr_l, sr_t, sr_n, startE, wipe, List.map_cons, List.map_nil, List.length_cons, List.length_nil, List.replicate, List.cons_append, List.nil_append, List.append_nil, Nat.reduceAdd, Nat.reduceSub, Nat.reduceMul, List.getElem?_cons_zero, List.getElem?_cons_succ, List.getElem?_nil, List.set_cons_zero, List.set_cons_succ, List.mapM_cons, List.mapM_nil, Option.pure_def, Option.bind_eq_bind, Option.bind_some, Bool.not_true, Bool.not_false, k_finC (show ¬ st.length + 1 < st.length by omega) e2]
      exact ⟨⟨found, rfl, by simpa using e4, e6⟩, mo.sm⟩
    | cons z lot =>
      show (if (!false) = true then _ else _)
      rw [if_pos (by decide)]
      simp only [w_var, a_var, w_con, w_glo, w_op, k_op1, k_op2, w_neg, k_neg, w_cmp, k_cm1, k_cm2, w_chain, k_ch1, k_ch2, w_and, k_and, w_or, k_or, w_not, k_not, w_ite, k_ite, w_tup, k_tup, w_lst, k_lst, w_call, k_call, w_prim, k_prim, w_isi, k_isi, w_ix, k_ix1, k_ix2, w_ts0, w_ts, k_ts1, k_ts2, w_ds0, w_ds, k_ds1d, k_ds1n, k_ds2, x_nil, x_cons, x_set, k_set, x_setM, k_setMt, k_setMn, x_expr, k_expr, x_ret, k_ret, x_retN, x_pass, x_ife, k_if, x_for, k_for, k_finN, k_finD, k_finL, st_t, st_n, rd_d, rd_ref, w_sl, k_sl, k_sl1, k_sl2, w_o0, w_o_var, w_o_con, w_o_op, k_o, w_it_var, w_it_con, w_it_ix, w_it_lst, w_it_tup, w_it_call, w_it_prim, w_it_sl, w_it_op, w_it_comp, w_it_ite, k_src, w_rng, k_rng, w_comp, k_comp, k_eltD, k_eltN, k_cond, body0, body1, x_setI, k_si1, k_si2, k_si3, w_meth, k_me1, k_me2, nxt_next, nxt_ret, nxt_brk, nxt_cont, wp_ok, wps_ok, w_dct0, a_dct1, wps_bt, a_bt, x_parM, w_evT, w_evF, a_alT, a_alN, a_stl, k_pm1, k_pm2, tB, oK_some, a_at, a_atB, a_atD, a_opb, a_opa, a_cmb, a_cma, a_ixb, a_ixa, a_neg, a_chT, a_chF, a_cha2, a_cha, a_brAT, a_brAF, a_brOT, a_brOF, a_brIT, a_brIF, a_brST, a_brSF, a_and, a_or, a_not, a_ite, a_if, a_prim, a_isi, a_set, a_slb, a_o, a_src, a_rng, a_bo0, a_bo1, a_brCT, a_brCF, a_cond, a_sid, a_sic, a_sib, a_mea, a_meb, a_mec, b_add, b_sub, c_lt, c_le, c_gt, c_ge, c_eqI, c_neI, c_eqS, c_neS, c_isB, c_isnotB, p_lenL, p_lenT, p_int, p_max, p_min, p_tupL, p_lstT, p_lstL, i_l, i_t, at0, at1, at2, t_bool, s_l, s_t, bp_nm, bp_tp, bps0, bps1, sr_l, sr_t, sr_n, startE, wipe, List.map_cons, List.map_nil, List.length_cons, List.length_nil, List.replicate, List.cons_append, List.nil_append, List.append_nil, Nat.reduceAdd, Nat.reduceSub, Nat.reduceMul, List.getElem?_cons_zero, List.getElem?_cons_succ, List.getElem?_nil, List.set_cons_zero, List.set_cons_succ, List.mapM_cons, List.mapM_nil, Option.pure_def, Option.bind_eq_bind, Option.bind_some, Bool.not_true, Bool.not_false, e1, e2, rd_ref e1]
      have e4' : lot.length + 1 + found.length = xs.length := by simpa only [List.length_cons] using e4
      refine (draw mo.src (by omega) (by omega)).mono ?_
      rintro v s1 ⟨⟨r, rfl, r0, r1⟩, s1m⟩
      have r1 : r < ((z :: lot).length : Int) := by simpa only [List.length_cons] using r1
      have nc : st.length ≠ c := by have := mo.lt; omega
      have nc1 : st.length + 1 ≠ c := by have := mo.lt; omega
      have e1' : s1[st.length]? = some (.lst (z :: lot)) := (s1m.2.1 _ nc).trans e1
      have e2' : s1[st.length + 1]? = some (.lst found) := (s1m.2.1 _ nc1).trans e2
      have hk : ixN (z :: lot).length r = some r.toNat := by unfold ixN; rw [if_pos r0, if_pos r1]
      have hkl : r.toNat < (z :: lot).length := by omega
      have hm : methD .pop (z :: lot) [.int r] = some ((z :: lot)[r.toNat], (z :: lot).eraseIdx r.toNat) := by
        show (ixN (z :: lot).length r).bind _ = _
        rw [hk]
        show ((z :: lot)[r.toNat]?).map _ = _
        rw [List.getElem?_eq_getElem hkl]
        rfl
      simp only [w_var, a_var, w_con, w_glo, w_op, k_op1, k_op2, w_neg, k_neg, w_cmp, k_cm1, k_cm2, w_chain, k_ch1, k_ch2, w_and, k_and, w_or, k_or, w_not, k_not, w_ite, k_ite, w_tup, k_tup, w_lst, k_lst, w_call, k_call, w_prim, k_prim, w_isi, k_isi, w_ix, k_ix1, k_ix2, w_ts0, w_ts, k_ts1, k_ts2, w_ds0, w_ds, k_ds1d, k_ds1n, k_ds2, x_nil, x_cons, x_set, k_set, x_setM, k_setMt, k_setMn, x_expr, k_expr, x_ret, k_ret, x_retN, x_pass, x_ife, k_if, x_for, k_for, k_finN, k_finD, k_finL, st_t, st_n, rd_d, rd_ref, w_sl, k_sl, k_sl1, k_sl2, w_o0, w_o_var, w_o_con, w_o_op, k_o, w_it_var, w_it_con, w_it_ix, w_it_lst, w_it_tup, w_it_call, w_it_prim, w_it_sl, w_it_op, w_it_comp, w_it_ite, k_src, w_rng, k_rng, w_comp, k_comp, k_eltD, k_eltN, k_cond, body0, body1, x_setI, k_si1, k_si2, k_si3, w_meth, k_me1, k_me2, nxt_next, nxt_ret, nxt_brk, nxt_cont, wp_ok, wps_ok, w_dct0, a_dct1, wps_bt, a_bt, x_parM, w_evT, w_evF, a_alT, a_alN, a_stl, k_pm1, k_pm2, tB, oK_some, a_at, a_atB, a_atD, a_opb, a_opa, a_cmb, a_cma, a_ixb, a_ixa, a_neg, a_chT, a_chF, a_cha2, a_cha, a_brAT, a_brAF, a_brOT, a_brOF, a_brIT, a_brIF, a_brST, a_brSF, a_and, a_or, a_not, a_ite, a_if, a_prim, a_isi, a_set, a_slb, a_o, a_src, a_rng, a_bo0, a_bo1, a_brCT, a_brCF, a_cond, a_sid, a_sic, a_sib, a_mea, a_meb, a_mec, b_add, b_sub, c_lt, c_le, c_gt, c_ge, c_eqI, c_neI, c_eqS, c_neS, c_isB, c_isnotB, p_lenL, p_lenT, p_int, p_max, p_min, p_tupL, p_lstT, p_lstL, i_l, i_t, at0, at1, at2, t_bool, s_l, s_t, bp_nm, bp_tp, bps0, bps1, sr_l, sr_t, sr_n, startE, wipe, List.map_cons, List.map_nil, List.length_cons, List.length_nil, List.replicate, List.cons_append, List.nil_append, List.append_nil, Nat.reduceAdd, Nat.reduceSub, Nat.reduceMul, List.getElem?_cons_zero, List.getElem?_cons_succ, List.getElem?_nil, List.set_cons_zero, List.set_cons_succ, List.mapM_cons, List.mapM_nil, Option.pure_def, Option.bind_eq_bind, Option.bind_some, Bool.not_true, Bool.not_false, e1', hm]
      have hb : found.length < big := by show found.length < 16777216; omega
      have hm2 : methD .append found [(z :: lot)[r.toNat]] = some (.none, found ++ [(z :: lot)[r.toNat]]) := if_pos hb
      have e3 : (s1.set st.length (.lst ((z :: lot).eraseIdx r.toNat)))[st.length + 1]? = some (.lst found) := by rw [List.getElem?_set_ne (by omega)]; exact e2'
      simp only [w_var, a_var, w_con, w_glo, w_op, k_op1, k_op2, w_neg, k_neg, w_cmp, k_cm1, k_cm2, w_chain, k_ch1, k_ch2, w_and, k_and, w_or, k_or, w_not, k_not, w_ite, k_ite, w_tup, k_tup, w_lst, k_lst, w_call, k_call, w_prim, k_prim, w_isi, k_isi, w_ix, k_ix1, k_ix2, w_ts0, w_ts, k_ts1, k_ts2, w_ds0, w_ds, k_ds1d, k_ds1n, k_ds2, x_nil, x_cons, x_set, k_set, x_setM, k_setMt, k_setMn, x_expr, k_expr, x_ret, k_ret, x_retN, x_pass, x_ife, k_if, x_for, k_for, k_finN, k_finD, k_finL, st_t, st_n, rd_d, rd_ref, w_sl, k_sl, k_sl1, k_sl2, w_o0, w_o_var, w_o_con, w_o_op, k_o, w_it_var, w_it_con, w_it_ix, w_it_lst, w_it_tup, w_it_call, w_it_prim, w_it_sl, w_it_op, w_it_comp, w_it_ite, k_src, w_rng, k_rng, w_comp, k_comp, k_eltD, k_eltN, k_cond, body0, body1, x_setI, k_si1, k_si2, k_si3, w_meth, k_me1, k_me2, nxt_next, nxt_ret, nxt_brk, nxt_cont, wp_ok, wps_ok, w_dct0, a_dct1, wps_bt, a_bt, x_parM, w_evT, w_evF, a_alT, a_alN, a_stl, k_pm1, k_pm2, tB, oK_some, a_at, a_atB, a_atD, a_opb, a_opa, a_cmb, a_cma, a_ixb, a_ixa, a_neg, a_chT, a_chF, a_cha2, a_cha, a_brAT, a_brAF, a_brOT, a_brOF, a_brIT, a_brIF, a_brST, a_brSF, a_and, a_or, a_not, a_ite, a_if, a_prim, a_isi, a_set, a_slb, a_o, a_src, a_rng, a_bo0, a_bo1, a_brCT, a_brCF, a_cond, a_sid, a_sic, a_sib, a_mea, a_meb, a_mec, b_add, b_sub, c_lt, c_le, c_gt, c_ge, c_eqI, c_neI, c_eqS, c_neS, c_isB, c_isnotB, p_lenL, p_lenT, p_int, p_max, p_min, p_tupL, p_lstT, p_lstL, i_l, i_t, at0, at1, at2, t_bool, s_l, s_t, bp_nm, bp_tp, bps0, bps1, sr_l, sr_t, sr_n, startE, wipe, List.map_cons, List.map_nil, List.length_cons, List.length_nil, List.replicate, List.cons_append, List.nil_append, List.append_nil, Nat.reduceAdd, Nat.reduceSub, Nat.reduceMul, List.getElem?_cons_zero, List.getElem?_cons_succ, List.getElem?_nil, List.set_cons_zero, List.set_cons_succ, List.mapM_cons, List.mapM_nil, Option.pure_def, Option.bind_eq_bind, Option.bind_some, Bool.not_true, Bool.not_false, e3, hm2]
      have hmem : (z :: lot)[r.toNat] ∈ (z :: lot) := List.getElem_mem hkl
      have l1 : st.length < s1.length := (List.getElem?_eq_some_iff.mp e1').1
      have l2 : st.length + 1 < s1.length := (List.getElem?_eq_some_iff.mp e2').1
      have hle : ((z :: lot).eraseIdx r.toNat).length = lot.length := by rw [List.length_eraseIdx_of_lt hkl]; simp
      refine ⟨trivial, lot.length, by simp, trivial, ((mo.sm2 s1m).set (Nat.le_refl _)).set (by omega), (z :: lot).eraseIdx r.toNat, found ++ [(z :: lot)[r.toNat]], ?_, ?_, hle, ?_, ?_, ?_⟩
      · rw [List.getElem?_set_ne (by omega), List.getElem?_set_self l1]
      · rw [List.getElem?_set_self (by simpa using l2)]
      · rw [hle, List.length_append]
        simp only [List.length_cons, List.length_nil]
        omega
      · exact fun y hy => e5 y (mem_erase hy)
      · intro y hy
        rcases List.mem_append.mp hy with hy | hy
        · exact e6 y hy
        · simp only [List.mem_cons, List.not_mem_nil, or_false] at hy
          subst hy
          exact e5 _ hmem
end
end Lw


namespace Lw
open MP
def Pt (last : Int) (x : D) : Prop := ∃ f e : Int, x = .tuple [.int f, .int e] ∧ 0 ≤ f ∧ f ≤ e ∧ e ≤ last
def Ti (x : D) : Prop := ∃ i j f e : Int, x = .tuple [.int i, .int j, .int f, .int e] ∧ (0 ≤ i ∧ i ≤ 100) ∧ (0 ≤ j ∧ j ≤ 100) ∧ (0 ≤ f ∧ f ≤ 100) ∧ (0 ≤ e ∧ e ≤ 100)
def Pr (m : Nat) (x : D) : Prop := ∃ i j : Int, x = .tuple [.int i, .int j] ∧ (0 ≤ i ∧ i < m) ∧ (0 ≤ j ∧ j < m)
theorem ints_len {lo : Int} {n : Nat} : (intsFrom lo n).length = n := by simp [intsFrom]
theorem ints_mem {n : Nat} {x : D} (h : x ∈ intsFrom 0 n) : ∃ i : Int, x = .int i ∧ 0 ≤ i ∧ i < n := by
  unfold intsFrom at h
  obtain ⟨j, hj, rfl⟩ := List.mem_map.mp h
  have := List.mem_range.mp hj
  exact ⟨_, rfl, by omega, by omega⟩
theorem at_Pt {pts : List D} {last : Int} (hp : ∀ y ∈ pts, Pt last y) {i : Int} (h0 : 0 ≤ i) (h1 : i < pts.length) : ∃ f e : Int, atD pts i = some (.tuple [.int f, .int e]) ∧ 0 ≤ f ∧ f ≤ e ∧ e ≤ last := by
  obtain ⟨y, e1, e2, e3⟩ := at_ok h0 h1
  obtain ⟨f, e, rfl, q⟩ := hp y e3
  exact ⟨f, e, e1, q⟩
section
variable {n wf : Nat} {st : Store} {c : Nat}
theorem ties {pts prs : List D} {many last : Int} {grows : Bool} (h : Sr st c) (hp : ∀ y ∈ pts, Pt last y) (hl : last ≤ 100) (hpl : pts.length ≤ 100) (hr : ∀ y ∈ prs, Pr pts.length y) (hr0 : prs ≠ []) (hrl : prs.length < 10000) (m0 : 0 ≤ many) (m1 : many ≤ 100) :
    (callN tbl wf (n + 3) 9 [.ref c, .d (.list pts), .d (.list prs), .d (.int many), .d (.bool grows)] st).wp fun v st' => (∃ ts : List D, v = .t (.d (.tuple ts)) ∧ ts.length ≤ many.toNat ∧ ∀ t ∈ ts, Ti t) ∧ Sm c st st' := by
  rw [wp_callN (d := d__law_ties) rfl rfl]
  unfold d__law_ties
  simp only [w_var, a_var, w_con, w_glo, w_op, k_op1, k_op2, w_neg, k_neg, w_cmp, k_cm1, k_cm2, w_chain, k_ch1, k_ch2, w_and, k_and, w_or, k_or, w_not, k_not, w_ite, k_ite, w_tup, k_tup, w_lst, k_lst, w_call, k_call, w_prim, k_prim, w_isi, k_isi, w_ix, k_ix1, k_ix2, w_ts0, w_ts, k_ts1, k_ts2, w_ds0, w_ds, k_ds1d, k_ds1n, k_ds2, x_nil, x_cons, x_set, k_set, x_setM, k_setMt, k_setMn, x_expr, k_expr, x_ret, k_ret, x_retN, x_pass, x_ife, k_if, x_for, k_for, k_finN, k_finD, k_finL, st_t, st_n, rd_d, rd_ref, w_sl, k_sl, k_sl1, k_sl2, w_o0, w_o_var, w_o_con, w_o_op, k_o, w_it_var, w_it_con, w_it_ix, w_it_lst, w_it_tup, w_it_call, w_it_prim, w_it_sl, w_it_op, w_it_comp, w_it_ite, k_src, w_rng, k_rng, w_comp, k_comp, k_eltD, k_eltN, k_cond, body0, body1, x_setI, k_si1, k_si2, k_si3, w_meth, k_me1, k_me2, nxt_next, nxt_ret, nxt_brk, nxt_cont, wp_ok, wps_ok, w_dct0, a_dct1, wps_bt, a_bt, x_parM, w_evT, w_evF, a_alT, a_alN, a_stl, k_pm1, k_pm2, tB, oK_some, a_at, a_atB, a_atD, a_opb, a_opa, a_cmb, a_cma, a_ixb, a_ixa, a_neg, a_chT, a_chF, a_cha2, a_cha, a_brAT, a_brAF, a_brOT, a_brOF, a_brIT, a_brIF, a_brST, a_brSF, a_and, a_or, a_not, a_ite, a_if, a_prim, a_isi, a_set, a_slb, a_o, a_src, a_rng, a_bo0, a_bo1, a_brCT, a_brCF, a_cond, a_sid, a_sic, a_sib, a_mea, a_meb, a_mec, b_add, b_sub, c_lt, c_le, c_gt, c_ge, c_eqI, c_neI, c_eqS, c_neS, c_isB, c_isnotB, p_lenL, p_lenT, p_int, p_max, p_min, p_tupL, p_lstT, p_lstL, i_l, i_t, at0, at1, at2, t_bool, s_l, s_t, bp_nm, bp_tp, bps0, bps1, sr_l, sr_t, sr_n, startE, wipe, List.map_cons, List.map_nil, List.length_cons, List.length_nil, List.replicate, List.cons_append, List.nil_append, List.append_nil, Nat.reduceAdd, Nat.reduceSub, Nat.reduceMul, List.getElem?_cons_zero, List.getElem?_cons_succ, List.getElem?_nil, List.set_cons_zero, List.set_cons_succ, List.mapM_cons, List.mapM_nil, Option.pure_def, Option.bind_eq_bind, Option.bind_some, Bool.not_true, Bool.not_false]
  refine ⟨by simp only [big]; omega, ?_⟩
  refine forL_inv (fun ys env s => ∃ (e6 e7 e8 e9 e10 e11 e12 : Option T) (found : List D), env = [some (.ref c), some (.d (.list pts)), some (.d (.list prs)), some (.d (.int many)), some (.d (.bool grows)), some (.ref st.length), e6, e7, e8, e9, e10, e11, e12] ∧ Mo c st s ∧
      s[st.length]? = some (.lst found) ∧ found.length + ys.length ≤ many.toNat ∧ ∀ t ∈ found, Ti t) ⟨_, _, _, _, _, _, _, [], rfl, (Mo.refl h).new, ?_, ?_, by simp⟩ ?_ ?_
  · rw [List.getElem?_append_right (Nat.le_refl _)]
    simp
  · rw [ints_len]
    simp
  · rintro x ys env s ⟨e6, e7, e8, e9, e10, e11, e12, found, rfl, mo, hc, hle, hti⟩
    simp only [w_var, a_var, w_con, w_glo, w_op, k_op1, k_op2, w_neg, k_neg, w_cmp, k_cm1, k_cm2, w_chain, k_ch1, k_ch2, w_and, k_and, w_or, k_or, w_not, k_not, w_ite, k_ite, w_tup, k_tup, w_lst, k_lst, w_call, k_call, w_prim, k_prim, w_isi, k_isi, w_ix, k_ix1, k_ix2, w_ts0, w_ts, k_ts1, k_ts2, w_ds0, w_ds, k_ds1d, k_ds1n, k_ds2, x_nil, x_cons, x_set, k_set, x_setM, k_setMt, k_setMn, x_expr, k_expr, x_ret, k_ret, x_retN, x_pass, x_ife, k_if, x_for, k_for, k_finN, k_finD, k_finL, st_t, st_n, rd_d, rd_ref, w_sl, k_sl, k_sl1, k_sl2, w_o0, w_o_var, w_o_con, w_o_op, k_o, w_it_var, w_it_con, w_it_ix, w_it_lst, w_it_tup, w_it_call, w_it_prim, w_it_sl, w_it_op, w_it_comp, w_it_ite, k_src, w_rng, k_rng, w_comp, k_comp, k_eltD, k_eltN, k_cond, body0, body1, x_setI, k_si1, k_si2, k_si3, w_meth, k_me1, k_me2, nxt_next, nxt_ret, nxt_brk, nxt_cont, wp_ok, wps_ok, w_dct0, a_dct1, wps_bt, a_bt, x_parM, w_evT, w_evF, a_alT, a_alN, a_stl, k_pm1, k_pm2, tB, oK_some, a_at, a_atB, a_atD, a_opb, a_opa, a_cmb, a_cma, a_ixb, a_ixa, a_neg, a_chT, a_chF, a_cha2, a_cha, a_brAT, a_brAF, a_brOT, a_brOF, a_brIT, a_brIF, a_brST, a_brSF, a_and, a_or, a_not, a_ite, a_if, a_prim, a_isi, a_set, a_slb, a_o, a_src, a_rng, a_bo0, a_bo1, a_brCT, a_brCF, a_cond, a_sid, a_sic, a_sib, a_mea, a_meb, a_mec, b_add, b_sub, c_lt, c_le, c_gt, c_ge, c_eqI, c_neI, c_eqS, c_neS, c_isB, c_isnotB, p_lenL, p_lenT, p_int, p_max, p_min, p_tupL, p_lstT, p_lstL, i_l, i_t, at0, at1, at2, t_bool, s_l, s_t, bp_nm, bp_tp, bps0, bps1, sr_l, sr_t, sr_n, startE, wipe, List.map_cons, List.map_nil, List.length_cons, List.length_nil, List.replicate, List.cons_append, List.nil_append, List.append_nil, Nat.reduceAdd, Nat.reduceSub, Nat.reduceMul, List.getElem?_cons_zero, List.getElem?_cons_succ, List.getElem?_nil, List.set_cons_zero, List.set_cons_succ, List.mapM_cons, List.mapM_nil, Option.pure_def, Option.bind_eq_bind, Option.bind_some, Bool.not_true, Bool.not_false]
    refine (pick mo.src hr0 (by omega)).mono ?_
    rintro v s1 ⟨⟨y, hy, rfl⟩, k1⟩
    obtain ⟨i, j, rfl, ⟨i0, i1⟩, j0, j1⟩ := hr y hy
    obtain ⟨f1, g1, a1, a2, a3, a4⟩ := at_Pt hp i0 i1
    obtain ⟨f2, g2, b1, b2, b3, b4⟩ := at_Pt hp j0 j1
    simp only [w_var, a_var, w_con, w_glo, w_op, k_op1, k_op2, w_neg, k_neg, w_cmp, k_cm1, k_cm2, w_chain, k_ch1, k_ch2, w_and, k_and, w_or, k_or, w_not, k_not, w_ite, k_ite, w_tup, k_tup, w_lst, k_lst, w_call, k_call, w_prim, k_prim, w_isi, k_isi, w_ix, k_ix1, k_ix2, w_ts0, w_ts, k_ts1, k_ts2, w_ds0, w_ds, k_ds1d, k_ds1n, k_ds2, x_nil, x_cons, x_set, k_set, x_setM, k_setMt, k_setMn, x_expr, k_expr, x_ret, k_ret, x_retN, x_pass, x_ife, k_if, x_for, k_for, k_finN, k_finD, k_finL, st_t, st_n, rd_d, rd_ref, w_sl, k_sl, k_sl1, k_sl2, w_o0, w_o_var, w_o_con, w_o_op, k_o, w_it_var, w_it_con, w_it_ix, w_it_lst, w_it_tup, w_it_call, w_it_prim, w_it_sl, w_it_op, w_it_comp, w_it_ite, k_src, w_rng, k_rng, w_comp, k_comp, k_eltD, k_eltN, k_cond, body0, body1, x_setI, k_si1, k_si2, k_si3, w_meth, k_me1, k_me2, nxt_next, nxt_ret, nxt_brk, nxt_cont, wp_ok, wps_ok, w_dct0, a_dct1, wps_bt, a_bt, x_parM, w_evT, w_evF, a_alT, a_alN, a_stl, k_pm1, k_pm2, tB, oK_some, a_at, a_atB, a_atD, a_opb, a_opa, a_cmb, a_cma, a_ixb, a_ixa, a_neg, a_chT, a_chF, a_cha2, a_cha, a_brAT, a_brAF, a_brOT, a_brOF, a_brIT, a_brIF, a_brST, a_brSF, a_and, a_or, a_not, a_ite, a_if, a_prim, a_isi, a_set, a_slb, a_o, a_src, a_rng, a_bo0, a_bo1, a_brCT, a_brCF, a_cond, a_sid, a_sic, a_sib, a_mea, a_meb, a_mec, b_add, b_sub, c_lt, c_le, c_gt, c_ge, c_eqI, c_neI, c_eqS, c_neS, c_isB, c_isnotB, p_lenL, p_lenT, p_int, p_max, p_min, p_tupL, p_lstT, p_lstL, i_l, i_t, at0, at1, at2, t_bool, s_l, s_t, bp_nm, bp_tp, bps0, bps1, sr_l, sr_t, sr_n, startE, wipe, List.map_cons, List.map_nil, List.length_cons, List.length_nil, List.replicate, List.cons_append, List.nil_append, List.append_nil, Nat.reduceAdd, Nat.reduceSub, Nat.reduceMul, List.getElem?_cons_zero, List.getElem?_cons_succ, List.getElem?_nil, List.set_cons_zero, List.set_cons_succ, List.mapM_cons, List.mapM_nil, Option.pure_def, Option.bind_eq_bind, Option.bind_some, Bool.not_true, Bool.not_false, a1, b1]
    have mo1 := mo.sm2 k1
    have hc1 : s1[st.length]? = some (.lst found) := (k1.2.1 _ (by have := mo.lt; omega)).trans hc
    cases hd : decide ((if f2 > f1 then f2 else f1) ≤ (if g2 < g1 then g2 else g1)) with
    | false =>
      simp only [w_var, a_var, w_con, w_glo, w_op, k_op1, k_op2, w_neg, k_neg, w_cmp, k_cm1, k_cm2, w_chain, k_ch1, k_ch2, w_and, k_and, w_or, k_or, w_not, k_not, w_ite, k_ite, w_tup, k_tup, w_lst, k_lst, w_call, k_call, w_prim, k_prim, w_isi, k_isi, w_ix, k_ix1, k_ix2, w_ts0, w_ts, k_ts1, k_ts2, w_ds0, w_ds, k_ds1d, k_ds1n, k_ds2, x_nil, x_cons, x_set, k_set, x_setM, k_setMt, k_setMn, x_expr, k_expr, x_ret, k_ret, x_retN, x_pass, x_ife, k_if, x_for, k_for, k_finN, k_finD, k_finL, st_t, st_n, rd_d, rd_ref, w_sl, k_sl, k_sl1, k_sl2, w_o0, w_o_var, w_o_con, w_o_op, k_o, w_it_var, w_it_con, w_it_ix, w_it_lst, w_it_tup, w_it_call, w_it_prim, w_it_sl, w_it_op, w_it_comp, w_it_ite, k_src, w_rng, k_rng, w_comp, k_comp, k_eltD, k_eltN, k_cond, body0, body1, x_setI, k_si1, k_si2, k_si3, w_meth, k_me1, k_me2, nxt_next, nxt_ret, nxt_brk, nxt_cont, wp_ok, wps_ok, w_dct0, a_dct1, wps_bt, a_bt, x_parM, w_evT, w_evF, a_alT, a_alN, a_stl, k_pm1, k_pm2, tB, oK_some, a_at, a_atB, a_atD, a_opb, a_opa, a_cmb, a_cma, a_ixb, a_ixa, a_neg, a_chT, a_chF, a_cha2, a_cha, a_brAT, a_brAF, a_brOT, a_brOF, a_brIT, a_brIF, a_brST, a_brSF, a_and, a_or, a_not, a_ite, a_if, a_prim, a_isi, a_set, a_slb, a_o, a_src, a_rng, a_bo0, a_bo1, a_brCT, a_brCF, a_cond, a_sid, a_sic, a_sib, a_mea, a_meb, a_mec, b_add, b_sub, c_lt, c_le, c_gt, c_ge, c_eqI, c_neI, c_eqS, c_neS, c_isB, c_isnotB, p_lenL, p_lenT, p_int, p_max, p_min, p_tupL, p_lstT, p_lstL, i_l, i_t, at0, at1, at2, t_bool, s_l, s_t, bp_nm, bp_tp, bps0, bps1, sr_l, sr_t, sr_n, startE, wipe, List.map_cons, List.map_nil, List.length_cons, List.length_nil, List.replicate, List.cons_append, List.nil_append, List.append_nil, Nat.reduceAdd, Nat.reduceSub, Nat.reduceMul, List.getElem?_cons_zero, List.getElem?_cons_succ, List.getElem?_nil, List.set_cons_zero, List.set_cons_succ, List.mapM_cons, List.mapM_nil, Option.pure_def, Option.bind_eq_bind, Option.bind_some, Bool.not_true, Bool.not_false]
      exact ⟨.inl trivial, _, _, _, _, _, _, _, found, rfl, mo1, hc1, by simp only [List.length_cons] at hle; omega, hti⟩
    | true =>
      have hd := of_decide_eq_true hd
      simp only [w_var, a_var, w_con, w_glo, w_op, k_op1, k_op2, w_neg, k_neg, w_cmp, k_cm1, k_cm2, w_chain, k_ch1, k_ch2, w_and, k_and, w_or, k_or, w_not, k_not, w_ite, k_ite, w_tup, k_tup, w_lst, k_lst, w_call, k_call, w_prim, k_prim, w_isi, k_isi, w_ix, k_ix1, k_ix2, w_ts0, w_ts, k_ts1, k_ts2, w_ds0, w_ds, k_ds1d, k_ds1n, k_ds2, x_nil, x_cons, x_set, k_set, x_setM, k_setMt, k_setMn, x_expr, k_expr, x_ret, k_ret, x_retN, x_pass, x_ife, k_if, x_for, k_for, k_finN, k_finD, k_finL, st_t, st_n, rd_d, rd_ref, w_sl, k_sl, k_sl1, k_sl2, w_o0, w_o_var, w_o_con, w_o_op, k_o, w_it_var, w_it_con, w_it_ix, w_it_lst, w_it_tup, w_it_call, w_it_prim, w_it_sl, w_it_op, w_it_comp, w_it_ite, k_src, w_rng, k_rng, w_comp, k_comp, k_eltD, k_eltN, k_cond, body0, body1, x_setI, k_si1, k_si2, k_si3, w_meth, k_me1, k_me2, nxt_next, nxt_ret, nxt_brk, nxt_cont, wp_ok, wps_ok, w_dct0, a_dct1, wps_bt, a_bt, x_parM, w_evT, w_evF, a_alT, a_alN, a_stl, k_pm1, k_pm2, tB, oK_some, a_at, a_atB, a_atD, a_opb, a_opa, a_cmb, a_cma, a_ixb, a_ixa, a_neg, a_chT, a_chF, a_cha2, a_cha, a_brAT, a_brAF, a_brOT, a_brOF, a_brIT, a_brIF, a_brST, a_brSF, a_and, a_or, a_not, a_ite, a_if, a_prim, a_isi, a_set, a_slb, a_o, a_src, a_rng, a_bo0, a_bo1, a_brCT, a_brCF, a_cond, a_sid, a_sic, a_sib, a_mea, a_meb, a_mec, b_add, b_sub, c_lt, c_le, c_gt, c_ge, c_eqI, c_neI, c_eqS, c_neS, c_isB, c_isnotB, p_lenL, p_lenT, p_int, p_max, p_min, p_tupL, p_lstT, p_lstL, i_l, i_t, at0, at1, at2, t_bool, s_l, s_t, bp_nm, bp_tp, bps0, bps1, sr_l, sr_t, sr_n, startE, wipe, List.map_cons, List.map_nil, List.length_cons, List.length_nil, List.replicate, List.cons_append, List.nil_append, List.append_nil, Nat.reduceAdd, Nat.reduceSub, Nat.reduceMul, List.getElem?_cons_zero, List.getElem?_cons_succ, List.getElem?_nil, List.set_cons_zero, List.set_cons_succ, List.mapM_cons, List.mapM_nil, Option.pure_def, Option.bind_eq_bind, Option.bind_some, Bool.not_true, Bool.not_false]
      refine (draw mo1.src (by omega) (by omega)).mono ?_
      rintro v s2 ⟨⟨r, rfl, r0, r1⟩, k2⟩
      simp only [w_var, a_var, w_con, w_glo, w_op, k_op1, k_op2, w_neg, k_neg, w_cmp, k_cm1, k_cm2, w_chain, k_ch1, k_ch2, w_and, k_and, w_or, k_or, w_not, k_not, w_ite, k_ite, w_tup, k_tup, w_lst, k_lst, w_call, k_call, w_prim, k_prim, w_isi, k_isi, w_ix, k_ix1, k_ix2, w_ts0, w_ts, k_ts1, k_ts2, w_ds0, w_ds, k_ds1d, k_ds1n, k_ds2, x_nil, x_cons, x_set, k_set, x_setM, k_setMt, k_setMn, x_expr, k_expr, x_ret, k_ret, x_retN, x_pass, x_ife, k_if, x_for, k_for, k_finN, k_finD, k_finL, st_t, st_n, rd_d, rd_ref, w_sl, k_sl, k_sl1, k_sl2, w_o0, w_o_var, w_o_con, w_o_op, k_o, w_it_var, w_it_con, w_it_ix, w_it_lst, w_it_tup, w_it_call, w_it_prim, w_it_sl, w_it_op, w_it_comp, w_it_ite, k_src, w_rng, k_rng, w_comp, k_comp, k_eltD, k_eltN, k_cond, body0, body1, x_setI, k_si1, k_si2, k_si3, w_meth, k_me1, k_me2, nxt_next, nxt_ret, nxt_brk, nxt_cont, wp_ok, wps_ok, w_dct0, a_dct1, wps_bt, a_bt, x_parM, w_evT, w_evF, a_alT, a_alN, a_stl, k_pm1, k_pm2, tB, oK_some, a_at, a_atB, a_atD, a_opb, a_opa, a_cmb, a_cma, a_ixb, a_ixa, a_neg, a_chT, a_chF, a_cha2, a_cha, a_brAT, a_brAF, a_brOT, a_brOF, a_brIT, a_brIF, a_brST, a_brSF, a_and, a_or, a_not, a_ite, a_if, a_prim, a_isi, a_set, a_slb, a_o, a_src, a_rng, a_bo0, a_bo1, a_brCT, a_brCF, a_cond, a_sid, a_sic, a_sib, a_mea, a_meb, a_mec, b_add, b_sub, c_lt, c_le, c_gt, c_ge, c_eqI, c_neI, c_eqS, c_neS, c_isB, c_isnotB, p_lenL, p_lenT, p_int, p_max, p_min, p_tupL, p_lstT, p_lstL, i_l, i_t, at0, at1, at2, t_bool, s_l, s_t, bp_nm, bp_tp, bps0, bps1, sr_l, sr_t, sr_n, startE, wipe, List.map_cons, List.map_nil, List.length_cons, List.length_nil, List.replicate, List.cons_append, List.nil_append, List.append_nil, Nat.reduceAdd, Nat.reduceSub, Nat.reduceMul, List.getElem?_cons_zero, List.getElem?_cons_succ, List.getElem?_nil, List.set_cons_zero, List.set_cons_succ, List.mapM_cons, List.mapM_nil, Option.pure_def, Option.bind_eq_bind, Option.bind_some, Bool.not_true, Bool.not_false]
      refine (life (mo1.sm2 k2).src (by split <;> omega) hd (by split <;> omega)).mono ?_
      rintro v s3 ⟨⟨f, e, rfl, q1, q2, q3⟩, k3⟩
      have mo3 := (mo1.sm2 k2).sm2 k3
      have hc3 : s3[st.length]? = some (.lst found) := (k3.2.1 _ (by have := mo.lt; omega)).trans ((k2.2.1 _ (by have := mo.lt; omega)).trans hc1)
      have hl3 : st.length < s3.length := (List.getElem?_eq_some_iff.mp hc3).1
      have hbig : found.length < big := by simp only [List.length_cons] at hle; show found.length < 16777216; omega
      have fin : ∀ z : Int, (0 ≤ z ∧ z ≤ 100) → ∃ (e6 e7 e8 e9 e10 e11 e12 : Option T) (found' : List D), [some (T.ref c), some (T.d (.list pts)), some (.d (.list prs)), some (.d (.int many)), some (.d (.bool grows)), some (.ref st.length), some (.d x), some (.d (.int (if f2 > f1 then f2 else f1))), some (.d (.int (if g2 < g1 then g2 else g1))), some (.d (.int i)), some (.d (.int j)), some (.d (.int f)), some (.d (.int e))] = [some (.ref c), some (.d (.list pts)), some (.d (.list prs)), some (.d (.int many)), some (.d (.bool grows)), some (.ref st.length), e6, e7, e8, e9, e10, e11, e12] ∧ Mo c st (s3.set st.length (.lst (found ++ [.tuple [.int i, .int j, .int f, .int z]]))) ∧
          (s3.set st.length (.lst (found ++ [.tuple [.int i, .int j, .int f, .int z]])))[st.length]? = some (.lst found') ∧ found'.length + ys.length ≤ many.toNat ∧ ∀ t ∈ found', Ti t := by
        intro z hz
        refine ⟨_, _, _, _, _, _, _, found ++ [.tuple [.int i, .int j, .int f, .int z]], rfl, mo3.set (Nat.le_refl _), List.getElem?_set_self hl3, by simp only [List.length_append, List.length_cons, List.length_nil] at hle ⊢; omega, fun t ht => ?_⟩
        rcases List.mem_append.mp ht with ht | ht
        · exact hti t ht
        · simp only [List.mem_cons, List.not_mem_nil, or_false] at ht
          subst ht
          refine ⟨i, j, f, z, rfl, ⟨by omega, by omega⟩, ⟨by omega, by omega⟩, ⟨?_, ?_⟩, hz⟩
          · split at q1 <;> omega
          · split at q3 <;> omega
      cases grows with
      | true =>
        have hm : methD .append found [.tuple [.int i, .int j, .int f, .int (if g2 < g1 then g2 else g1)]] = some (.none, found ++ [.tuple [.int i, .int j, .int f, .int (if g2 < g1 then g2 else g1)]]) := if_pos hbig
        simp only [w_var, a_var, w_con, w_glo, w_op, k_op1, k_op2, w_neg, k_neg, w_cmp, k_cm1, k_cm2, w_chain, k_ch1, k_ch2, w_and, k_and, w_or, k_or, w_not, k_not, w_ite, k_ite, w_tup, k_tup, w_lst, k_lst, w_call, k_call, w_prim, k_prim, w_isi, k_isi, w_ix, k_ix1, k_ix2, w_ts0, w_ts, k_ts1, k_ts2, w_ds0, w_ds, k_ds1d, k_ds1n, k_ds2, x_nil, x_cons, x_set, k_set, x_setM, k_setMt, k_setMn, x_expr, k_expr, x_ret, k_ret, x_retN, x_pass, x_ife, k_if, x_for, k_for, k_finN, k_finD, k_finL, st_t, st_n, rd_d, rd_ref, w_sl, k_sl, k_sl1, k_sl2, w_o0, w_o_var, w_o_con, w_o_op, k_o, w_it_var, w_it_con, w_it_ix, w_it_lst, w_it_tup, w_it_call, w_it_prim, w_it_sl, w_it_op, w_it_comp, w_it_ite, k_src, w_rng, k_rng, w_comp, k_comp, k_eltD, k_eltN, k_cond, body0, body1, x_setI, k_si1, k_si2, k_si3, w_meth, k_me1, k_me2, nxt_next, nxt_ret, nxt_brk, nxt_cont, wp_ok, wps_ok, w_dct0, a_dct1, wps_bt, a_bt, x_parM, w_evT, w_evF, a_alT, a_alN, a_stl, k_pm1, k_pm2, tB, oK_some, a_at, a_atB, a_atD, a_opb, a_opa, a_cmb, a_cma, a_ixb, a_ixa, a_neg, a_chT, a_chF, a_cha2, a_cha, a_brAT, a_brAF, a_brOT, a_brOF, a_brIT, a_brIF, a_brST, a_brSF, a_and, a_or, a_not, a_ite, a_if, a_prim, a_isi, a_set, a_slb, a_o, a_src, a_rng, a_bo0, a_bo1, a_brCT, a_brCF, a_cond, a_sid, a_sic, a_sib, a_mea, a_meb, a_mec, b_add, b_sub, c_lt, c_le, c_gt, c_ge, c_eqI, c_neI, c_eqS, c_neS, c_isB, c_isnotB, p_lenL, p_lenT, p_int, p_max, p_min, p_tupL, p_lstT, p_lstL, i_l, i_t, at0, at1, at2, t_bool, s_l, s_t, bp_nm, bp_tp, bps0, bps1, sr_l, sr_t, sr_n, startE, wipe, List.map_cons, List.map_nil, List.length_cons, List.length_nil, List.replicate, List.cons_append, List.nil_append, List.append_nil, Nat.reduceAdd, Nat.reduceSub, Nat.reduceMul, List.getElem?_cons_zero, List.getElem?_cons_succ, List.getElem?_nil, List.set_cons_zero, List.set_cons_succ, List.mapM_cons, List.mapM_nil, Option.pure_def, Option.bind_eq_bind, Option.bind_some, Bool.not_true, Bool.not_false, hc3, hm]
        exact ⟨.inl trivial, fin _ (by split <;> omega)⟩
      | false =>
        have hm : methD .append found [.tuple [.int i, .int j, .int f, .int e]] = some (.none, found ++ [.tuple [.int i, .int j, .int f, .int e]]) := if_pos hbig
        simp only [w_var, a_var, w_con, w_glo, w_op, k_op1, k_op2, w_neg, k_neg, w_cmp, k_cm1, k_cm2, w_chain, k_ch1, k_ch2, w_and, k_and, w_or, k_or, w_not, k_not, w_ite, k_ite, w_tup, k_tup, w_lst, k_lst, w_call, k_call, w_prim, k_prim, w_isi, k_isi, w_ix, k_ix1, k_ix2, w_ts0, w_ts, k_ts1, k_ts2, w_ds0, w_ds, k_ds1d, k_ds1n, k_ds2, x_nil, x_cons, x_set, k_set, x_setM, k_setMt, k_setMn, x_expr, k_expr, x_ret, k_ret, x_retN, x_pass, x_ife, k_if, x_for, k_for, k_finN, k_finD, k_finL, st_t, st_n, rd_d, rd_ref, w_sl, k_sl, k_sl1, k_sl2, w_o0, w_o_var, w_o_con, w_o_op, k_o, w_it_var, w_it_con, w_it_ix, w_it_lst, w_it_tup, w_it_call, w_it_prim, w_it_sl, w_it_op, w_it_comp, w_it_ite, k_src, w_rng, k_rng, w_comp, k_comp, k_eltD, k_eltN, k_cond, body0, body1, x_setI, k_si1, k_si2, k_si3, w_meth, k_me1, k_me2, nxt_next, nxt_ret, nxt_brk, nxt_cont, wp_ok, wps_ok, w_dct0, a_dct1, wps_bt, a_bt, x_parM, w_evT, w_evF, a_alT, a_alN, a_stl, k_pm1, k_pm2, tB, oK_some, a_at, a_atB, a_atD, a_opb, a_opa, a_cmb, a_cma, a_ixb, a_ixa, a_neg, a_chT, a_chF, a_cha2, a_cha, a_brAT, a_brAF, a_brOT, a_brOF, a_brIT, a_brIF, a_brST, a_brSF, a_and, a_or, a_not, a_ite, a_if, a_prim, a_isi, a_set, a_slb, a_o, a_src, a_rng, a_bo0, a_bo1, a_brCT, a_brCF, a_cond, a_sid, a_sic, a_sib, a_mea, a_meb, a_mec, b_add, b_sub, c_lt, c_le, c_gt, c_ge, c_eqI, c_neI, c_eqS, c_neS, c_isB, c_isnotB, p_lenL, p_lenT, p_int, p_max, p_min, p_tupL, p_lstT, p_lstL, i_l, i_t, at0, at1, at2, t_bool, s_l, s_t, bp_nm, bp_tp, bps0, bps1, sr_l, sr_t, sr_n, startE, wipe, List.map_cons, List.map_nil, List.length_cons, List.length_nil, List.replicate, List.cons_append, List.nil_append, List.append_nil, Nat.reduceAdd, Nat.reduceSub, Nat.reduceMul, List.getElem?_cons_zero, List.getElem?_cons_succ, List.getElem?_nil, List.set_cons_zero, List.set_cons_succ, List.mapM_cons, List.mapM_nil, Option.pure_def, Option.bind_eq_bind, Option.bind_some, Bool.not_true, Bool.not_false, hc3, hm]
        exact ⟨.inl trivial, fin _ (by split at q1 <;> split at q3 <;> omega)⟩
  · rintro env s ⟨e6, e7, e8, e9, e10, e11, e12, found, rfl, mo, hc, hle, hti⟩
    simp only [nxt_next]
    simp only [w_var, a_var, w_con, w_glo, w_op, k_op1, k_op2, w_neg, k_neg, w_cmp, k_cm1, k_cm2, w_chain, k_ch1, k_ch2, w_and, k_and, w_or, k_or, w_not, k_not, w_ite, k_ite, w_tup, k_tup, w_lst, k_lst, w_call, k_call, w_prim, k_prim, w_isi, k_isi, w_ix, k_ix1, k_ix2, w_ts0, w_ts, k_ts1, k_ts2, w_ds0, w_ds, k_ds1d, k_ds1n, k_ds2, x_nil, x_cons, x_set, k_set, x_setM, k_setMt, k_setMn, x_expr, k_expr, x_ret, k_ret, x_retN, x_pass, x_ife, k_if, x_for, k_for, k_finN, k_finD, k_finL, st_t, st_n, rd_d, rd_ref, w_sl, k_sl, k_sl1, k_sl2, w_o0, w_o_var, w_o_con, w_o_op, k_o, w_it_var, w_it_con, w_it_ix, w_it_lst, w_it_tup, w_it_call, w_it_prim, w_it_sl, w_it_op, w_it_comp, w_it_ite, k_src, w_rng, k_rng, w_comp, k_comp, k_eltD, k_eltN, k_cond, body0, body1, x_setI, k_si1, k_si2, k_si3, w_meth, k_me1, k_me2, nxt_next, nxt_ret, nxt_brk, nxt_cont, wp_ok, wps_ok, w_dct0, a_dct1, wps_bt, a_bt, x_parM, w_evT, w_evF, a_alT, a_alN, a_stl, k_pm1, k_pm2, tB, oK_some, a_at, a_atB, a_atD, a_opb, a_opa, a_cmb, a_cma, a_ixb, a_ixa, a_neg, a_chT, a_chF, a_cha2, a_cha, a_brAT, a_brAF, a_brOT, a_brOF, a_brIT, a_brIF, a_brST, a_brSF, a_and, a_or, a_not, a_ite, a_if, a_prim, a_isi, a_set, a_slb, a_o, a_src, a_rng, a_bo0, a_bo1, a_brCT, a_brCF, a_cond, a_sid, a_sic, a_sib, a_mea, a_meb, a_mec, b_add, b_sub, c_lt, c_le, c_gt, c_ge, c_eqI, c_neI, c_eqS, c_neS, c_isB, c_isnotB, p_lenL, p_lenT, p_int, p_max, p_min, p_tupL, p_lstT, p_lstL, i_l, i_t, at0, at1, at2, t_bool, s_l, s_t, bp_nm, bp_tp, bps0, bps1, sr_l, sr_t, sr_n, startE, wipe, List.map_cons, List.map_nil, List.length_cons, List.length_nil, List.replicate, List.cons_append, List.nil_append, List.append_nil, Nat.reduceAdd, Nat.reduceSub, Nat.reduceMul, List.getElem?_cons_zero, List.getElem?_cons_succ, List.getElem?_nil, List.set_cons_zero, List.set_cons_succ, List.mapM_cons, List.mapM_nil, Option.pure_def, Option.bind_eq_bind, Option.bind_some, Bool.not_true, Bool.not_false, rd_ref hc]
    exact ⟨⟨found, rfl, by simpa using hle, hti⟩, mo.sm⟩
end
end Lw


namespace Lw
open MP
theorem cut_mem {xs : List D} {a b : Option Int} {y : D} (h : y ∈ cutD xs a b) : y ∈ xs := List.mem_of_mem_drop (List.mem_of_mem_take h)
theorem cut_len {xs : List D} {a b : Option Int} : (cutD xs a b).length ≤ xs.length := by
  unfold cutD
  rw [List.length_take, List.length_drop]
  omega
theorem cut_ne {xs : List D} {v : Int} (h : 1 ≤ v) (hx : xs ≠ []) : cutD xs none (some v) ≠ [] := by
  have hl : 0 < xs.length := List.length_pos_iff.mpr hx
  refine List.length_pos_iff.mp ?_
  unfold cutD
  rw [List.length_take, List.length_drop]
  simp only [sIx]
  rw [if_neg (by omega)]
  omega
theorem pr_lay {m : Nat} {x : D} (h : Pr m x) : Lay x := by
  obtain ⟨i, j, rfl, _⟩ := h
  exact ⟨rfl, by simp [PySem.PyData.depth, PySem.PyData.depthAll]⟩
/-- what a net is like -/
def Nt (x : D) : Prop := ∃ (last : Int) (pts ts : List D), x = .tuple [.int last, .tuple pts, .tuple ts] ∧ 0 ≤ last ∧ last ≤ 9 ∧ pts.length ≤ 12 ∧ (∀ y ∈ pts, Pt last y) ∧ ts.length ≤ 7 ∧ ∀ y ∈ ts, Ti y
section
variable {n wf : Nat} {st : Store} {c : Nat}
theorem net {most days : Int} {grows : Bool} (h : Sr st c) (h0 : 0 < most) (h1 : most ≤ 9) (d0 : 0 < days) (d1 : days ≤ 9) (hw : 1000 < wf) :
    (callN tbl wf (n + 4) 10 [.ref c, .d (.int most), .d (.int days), .d (.bool grows)] st).wp fun v st' => (∃ x, v = .t (.d x) ∧ Nt x) ∧ Sm c st st' := by
  rw [wp_callN (d := d__law_net) rfl rfl]
  unfold d__law_net
  simp only [w_var, a_var, w_con, w_glo, w_op, k_op1, k_op2, w_neg, k_neg, w_cmp, k_cm1, k_cm2, w_chain, k_ch1, k_ch2, w_and, k_and, w_or, k_or, w_not, k_not, w_ite, k_ite, w_tup, k_tup, w_lst, k_lst, w_call, k_call, w_prim, k_prim, w_isi, k_isi, w_ix, k_ix1, k_ix2, w_ts0, w_ts, k_ts1, k_ts2, w_ds0, w_ds, k_ds1d, k_ds1n, k_ds2, x_nil, x_cons, x_set, k_set, x_setM, k_setMt, k_setMn, x_expr, k_expr, x_ret, k_ret, x_retN, x_pass, x_ife, k_if, x_for, k_for, k_finN, k_finD, k_finL, st_t, st_n, rd_d, rd_ref, w_sl, k_sl, k_sl1, k_sl2, w_o0, w_o_var, w_o_con, w_o_op, k_o, w_it_var, w_it_con, w_it_ix, w_it_lst, w_it_tup, w_it_call, w_it_prim, w_it_sl, w_it_op, w_it_comp, w_it_ite, k_src, w_rng, k_rng, w_comp, k_comp, k_eltD, k_eltN, k_cond, body0, body1, x_setI, k_si1, k_si2, k_si3, w_meth, k_me1, k_me2, nxt_next, nxt_ret, nxt_brk, nxt_cont, wp_ok, wps_ok, w_dct0, a_dct1, wps_bt, a_bt, x_parM, w_evT, w_evF, a_alT, a_alN, a_stl, k_pm1, k_pm2, tB, oK_some, a_at, a_atB, a_atD, a_opb, a_opa, a_cmb, a_cma, a_ixb, a_ixa, a_neg, a_chT, a_chF, a_cha2, a_cha, a_brAT, a_brAF, a_brOT, a_brOF, a_brIT, a_brIF, a_brST, a_brSF, a_and, a_or, a_not, a_ite, a_if, a_prim, a_isi, a_set, a_slb, a_o, a_src, a_rng, a_bo0, a_bo1, a_brCT, a_brCF, a_cond, a_sid, a_sic, a_sib, a_mea, a_meb, a_mec, b_add, b_sub, c_lt, c_le, c_gt, c_ge, c_eqI, c_neI, c_eqS, c_neS, c_isB, c_isnotB, p_lenL, p_lenT, p_int, p_max, p_min, p_tupL, p_lstT, p_lstL, i_l, i_t, at0, at1, at2, t_bool, s_l, s_t, bp_nm, bp_tp, bps0, bps1, sr_l, sr_t, sr_n, startE, wipe, List.map_cons, List.map_nil, List.length_cons, List.length_nil, List.replicate, List.cons_append, List.nil_append, List.append_nil, Nat.reduceAdd, Nat.reduceSub, Nat.reduceMul, List.getElem?_cons_zero, List.getElem?_cons_succ, List.getElem?_nil, List.set_cons_zero, List.set_cons_succ, List.mapM_cons, List.mapM_nil, Option.pure_def, Option.bind_eq_bind, Option.bind_some, Bool.not_true, Bool.not_false]
  refine (draw h d0 (by omega)).mono ?_
  rintro v s1 ⟨⟨last, rfl, l0, l1⟩, k1⟩
  simp only [w_var, a_var, w_con, w_glo, w_op, k_op1, k_op2, w_neg, k_neg, w_cmp, k_cm1, k_cm2, w_chain, k_ch1, k_ch2, w_and, k_and, w_or, k_or, w_not, k_not, w_ite, k_ite, w_tup, k_tup, w_lst, k_lst, w_call, k_call, w_prim, k_prim, w_isi, k_isi, w_ix, k_ix1, k_ix2, w_ts0, w_ts, k_ts1, k_ts2, w_ds0, w_ds, k_ds1d, k_ds1n, k_ds2, x_nil, x_cons, x_set, k_set, x_setM, k_setMt, k_setMn, x_expr, k_expr, x_ret, k_ret, x_retN, x_pass, x_ife, k_if, x_for, k_for, k_finN, k_finD, k_finL, st_t, st_n, rd_d, rd_ref, w_sl, k_sl, k_sl1, k_sl2, w_o0, w_o_var, w_o_con, w_o_op, k_o, w_it_var, w_it_con, w_it_ix, w_it_lst, w_it_tup, w_it_call, w_it_prim, w_it_sl, w_it_op, w_it_comp, w_it_ite, k_src, w_rng, k_rng, w_comp, k_comp, k_eltD, k_eltN, k_cond, body0, body1, x_setI, k_si1, k_si2, k_si3, w_meth, k_me1, k_me2, nxt_next, nxt_ret, nxt_brk, nxt_cont, wp_ok, wps_ok, w_dct0, a_dct1, wps_bt, a_bt, x_parM, w_evT, w_evF, a_alT, a_alN, a_stl, k_pm1, k_pm2, tB, oK_some, a_at, a_atB, a_atD, a_opb, a_opa, a_cmb, a_cma, a_ixb, a_ixa, a_neg, a_chT, a_chF, a_cha2, a_cha, a_brAT, a_brAF, a_brOT, a_brOF, a_brIT, a_brIF, a_brST, a_brSF, a_and, a_or, a_not, a_ite, a_if, a_prim, a_isi, a_set, a_slb, a_o, a_src, a_rng, a_bo0, a_bo1, a_brCT, a_brCF, a_cond, a_sid, a_sic, a_sib, a_mea, a_meb, a_mec, b_add, b_sub, c_lt, c_le, c_gt, c_ge, c_eqI, c_neI, c_eqS, c_neS, c_isB, c_isnotB, p_lenL, p_lenT, p_int, p_max, p_min, p_tupL, p_lstT, p_lstL, i_l, i_t, at0, at1, at2, t_bool, s_l, s_t, bp_nm, bp_tp, bps0, bps1, sr_l, sr_t, sr_n, startE, wipe, List.map_cons, List.map_nil, List.length_cons, List.length_nil, List.replicate, List.cons_append, List.nil_append, List.append_nil, Nat.reduceAdd, Nat.reduceSub, Nat.reduceMul, List.getElem?_cons_zero, List.getElem?_cons_succ, List.getElem?_nil, List.set_cons_zero, List.set_cons_succ, List.mapM_cons, List.mapM_nil, Option.pure_def, Option.bind_eq_bind, Option.bind_some, Bool.not_true, Bool.not_false]
  refine (draw k1.2.2 (by omega) (by omega)).mono ?_
  rintro v s2 ⟨⟨kind, rfl, q0, q1⟩, k2⟩
  simp only [w_var, a_var, w_con, w_glo, w_op, k_op1, k_op2, w_neg, k_neg, w_cmp, k_cm1, k_cm2, w_chain, k_ch1, k_ch2, w_and, k_and, w_or, k_or, w_not, k_not, w_ite, k_ite, w_tup, k_tup, w_lst, k_lst, w_call, k_call, w_prim, k_prim, w_isi, k_isi, w_ix, k_ix1, k_ix2, w_ts0, w_ts, k_ts1, k_ts2, w_ds0, w_ds, k_ds1d, k_ds1n, k_ds2, x_nil, x_cons, x_set, k_set, x_setM, k_setMt, k_setMn, x_expr, k_expr, x_ret, k_ret, x_retN, x_pass, x_ife, k_if, x_for, k_for, k_finN, k_finD, k_finL, st_t, st_n, rd_d, rd_ref, w_sl, k_sl, k_sl1, k_sl2, w_o0, w_o_var, w_o_con, w_o_op, k_o, w_it_var, w_it_con, w_it_ix, w_it_lst, w_it_tup, w_it_call, w_it_prim, w_it_sl, w_it_op, w_it_comp, w_it_ite, k_src, w_rng, k_rng, w_comp, k_comp, k_eltD, k_eltN, k_cond, body0, body1, x_setI, k_si1, k_si2, k_si3, w_meth, k_me1, k_me2, nxt_next, nxt_ret, nxt_brk, nxt_cont, wp_ok, wps_ok, w_dct0, a_dct1, wps_bt, a_bt, x_parM, w_evT, w_evF, a_alT, a_alN, a_stl, k_pm1, k_pm2, tB, oK_some, a_at, a_atB, a_atD, a_opb, a_opa, a_cmb, a_cma, a_ixb, a_ixa, a_neg, a_chT, a_chF, a_cha2, a_cha, a_brAT, a_brAF, a_brOT, a_brOF, a_brIT, a_brIF, a_brST, a_brSF, a_and, a_or, a_not, a_ite, a_if, a_prim, a_isi, a_set, a_slb, a_o, a_src, a_rng, a_bo0, a_bo1, a_brCT, a_brCF, a_cond, a_sid, a_sic, a_sib, a_mea, a_meb, a_mec, b_add, b_sub, c_lt, c_le, c_gt, c_ge, c_eqI, c_neI, c_eqS, c_neS, c_isB, c_isnotB, p_lenL, p_lenT, p_int, p_max, p_min, p_tupL, p_lstT, p_lstL, i_l, i_t, at0, at1, at2, t_bool, s_l, s_t, bp_nm, bp_tp, bps0, bps1, sr_l, sr_t, sr_n, startE, wipe, List.map_cons, List.map_nil, List.length_cons, List.length_nil, List.replicate, List.cons_append, List.nil_append, List.append_nil, Nat.reduceAdd, Nat.reduceSub, Nat.reduceMul, List.getElem?_cons_zero, List.getElem?_cons_succ, List.getElem?_nil, List.set_cons_zero, List.set_cons_succ, List.mapM_cons, List.mapM_nil, Option.pure_def, Option.bind_eq_bind, Option.bind_some, Bool.not_true, Bool.not_false]
  refine (draw k2.2.2 h0 (by omega)).mono ?_
  rintro v s3 ⟨⟨r, rfl, r0, r1⟩, k3⟩
  have kk := (k1.trans k2).trans k3
  obtain ⟨m, hm⟩ : ∃ m : Int, m = 1 + (if kind > r then kind else r) := ⟨_, rfl⟩
  have m0 : 1 ≤ m := by rw [hm]; split <;> omega
  have m1 : m ≤ 9 := by rw [hm]; split <;> omega
  simp only [w_var, a_var, w_con, w_glo, w_op, k_op1, k_op2, w_neg, k_neg, w_cmp, k_cm1, k_cm2, w_chain, k_ch1, k_ch2, w_and, k_and, w_or, k_or, w_not, k_not, w_ite, k_ite, w_tup, k_tup, w_lst, k_lst, w_call, k_call, w_prim, k_prim, w_isi, k_isi, w_ix, k_ix1, k_ix2, w_ts0, w_ts, k_ts1, k_ts2, w_ds0, w_ds, k_ds1d, k_ds1n, k_ds2, x_nil, x_cons, x_set, k_set, x_setM, k_setMt, k_setMn, x_expr, k_expr, x_ret, k_ret, x_retN, x_pass, x_ife, k_if, x_for, k_for, k_finN, k_finD, k_finL, st_t, st_n, rd_d, rd_ref, w_sl, k_sl, k_sl1, k_sl2, w_o0, w_o_var, w_o_con, w_o_op, k_o, w_it_var, w_it_con, w_it_ix, w_it_lst, w_it_tup, w_it_call, w_it_prim, w_it_sl, w_it_op, w_it_comp, w_it_ite, k_src, w_rng, k_rng, w_comp, k_comp, k_eltD, k_eltN, k_cond, body0, body1, x_setI, k_si1, k_si2, k_si3, w_meth, k_me1, k_me2, nxt_next, nxt_ret, nxt_brk, nxt_cont, wp_ok, wps_ok, w_dct0, a_dct1, wps_bt, a_bt, x_parM, w_evT, w_evF, a_alT, a_alN, a_stl, k_pm1, k_pm2, tB, oK_some, a_at, a_atB, a_atD, a_opb, a_opa, a_cmb, a_cma, a_ixb, a_ixa, a_neg, a_chT, a_chF, a_cha2, a_cha, a_brAT, a_brAF, a_brOT, a_brOF, a_brIT, a_brIF, a_brST, a_brSF, a_and, a_or, a_not, a_ite, a_if, a_prim, a_isi, a_set, a_slb, a_o, a_src, a_rng, a_bo0, a_bo1, a_brCT, a_brCF, a_cond, a_sid, a_sic, a_sib, a_mea, a_meb, a_mec, b_add, b_sub, c_lt, c_le, c_gt, c_ge, c_eqI, c_neI, c_eqS, c_neS, c_isB, c_isnotB, p_lenL, p_lenT, p_int, p_max, p_min, p_tupL, p_lstT, p_lstL, i_l, i_t, at0, at1, at2, t_bool, s_l, s_t, bp_nm, bp_tp, bps0, bps1, sr_l, sr_t, sr_n, startE, wipe, List.map_cons, List.map_nil, List.length_cons, List.length_nil, List.replicate, List.cons_append, List.nil_append, List.append_nil, Nat.reduceAdd, Nat.reduceSub, Nat.reduceMul, List.getElem?_cons_zero, List.getElem?_cons_succ, List.getElem?_nil, List.set_cons_zero, List.set_cons_succ, List.mapM_cons, List.mapM_nil, Option.pure_def, Option.bind_eq_bind, Option.bind_some, Bool.not_true, Bool.not_false, ← hm]
  refine ⟨by simp only [big]; omega, ?_⟩
  refine compL_inv (P := fun _ _ => True) (fun _ s => Sm c s3 s) (fun o => ∃ x, o = some x ∧ Pt last x) (Sm.refl kk.2.2) ?_ ?_
  · intro x xs s hs
    simp only [w_var, a_var, w_con, w_glo, w_op, k_op1, k_op2, w_neg, k_neg, w_cmp, k_cm1, k_cm2, w_chain, k_ch1, k_ch2, w_and, k_and, w_or, k_or, w_not, k_not, w_ite, k_ite, w_tup, k_tup, w_lst, k_lst, w_call, k_call, w_prim, k_prim, w_isi, k_isi, w_ix, k_ix1, k_ix2, w_ts0, w_ts, k_ts1, k_ts2, w_ds0, w_ds, k_ds1d, k_ds1n, k_ds2, x_nil, x_cons, x_set, k_set, x_setM, k_setMt, k_setMn, x_expr, k_expr, x_ret, k_ret, x_retN, x_pass, x_ife, k_if, x_for, k_for, k_finN, k_finD, k_finL, st_t, st_n, rd_d, rd_ref, w_sl, k_sl, k_sl1, k_sl2, w_o0, w_o_var, w_o_con, w_o_op, k_o, w_it_var, w_it_con, w_it_ix, w_it_lst, w_it_tup, w_it_call, w_it_prim, w_it_sl, w_it_op, w_it_comp, w_it_ite, k_src, w_rng, k_rng, w_comp, k_comp, k_eltD, k_eltN, k_cond, body0, body1, x_setI, k_si1, k_si2, k_si3, w_meth, k_me1, k_me2, nxt_next, nxt_ret, nxt_brk, nxt_cont, wp_ok, wps_ok, w_dct0, a_dct1, wps_bt, a_bt, x_parM, w_evT, w_evF, a_alT, a_alN, a_stl, k_pm1, k_pm2, tB, oK_some, a_at, a_atB, a_atD, a_opb, a_opa, a_cmb, a_cma, a_ixb, a_ixa, a_neg, a_chT, a_chF, a_cha2, a_cha, a_brAT, a_brAF, a_brOT, a_brOF, a_brIT, a_brIF, a_brST, a_brSF, a_and, a_or, a_not, a_ite, a_if, a_prim, a_isi, a_set, a_slb, a_o, a_src, a_rng, a_bo0, a_bo1, a_brCT, a_brCF, a_cond, a_sid, a_sic, a_sib, a_mea, a_meb, a_mec, b_add, b_sub, c_lt, c_le, c_gt, c_ge, c_eqI, c_neI, c_eqS, c_neS, c_isB, c_isnotB, p_lenL, p_lenT, p_int, p_max, p_min, p_tupL, p_lstT, p_lstL, i_l, i_t, at0, at1, at2, t_bool, s_l, s_t, bp_nm, bp_tp, bps0, bps1, sr_l, sr_t, sr_n, startE, wipe, List.map_cons, List.map_nil, List.length_cons, List.length_nil, List.replicate, List.cons_append, List.nil_append, List.append_nil, Nat.reduceAdd, Nat.reduceSub, Nat.reduceMul, List.getElem?_cons_zero, List.getElem?_cons_succ, List.getElem?_nil, List.set_cons_zero, List.set_cons_succ, List.mapM_cons, List.mapM_nil, Option.pure_def, Option.bind_eq_bind, Option.bind_some, Bool.not_true, Bool.not_false]
    refine (life hs.2.2 (by omega) l0 (by omega)).mono ?_
    rintro v s' ⟨⟨f, e, rfl, w1, w2, w3⟩, k⟩
    simp only [w_var, a_var, w_con, w_glo, w_op, k_op1, k_op2, w_neg, k_neg, w_cmp, k_cm1, k_cm2, w_chain, k_ch1, k_ch2, w_and, k_and, w_or, k_or, w_not, k_not, w_ite, k_ite, w_tup, k_tup, w_lst, k_lst, w_call, k_call, w_prim, k_prim, w_isi, k_isi, w_ix, k_ix1, k_ix2, w_ts0, w_ts, k_ts1, k_ts2, w_ds0, w_ds, k_ds1d, k_ds1n, k_ds2, x_nil, x_cons, x_set, k_set, x_setM, k_setMt, k_setMn, x_expr, k_expr, x_ret, k_ret, x_retN, x_pass, x_ife, k_if, x_for, k_for, k_finN, k_finD, k_finL, st_t, st_n, rd_d, rd_ref, w_sl, k_sl, k_sl1, k_sl2, w_o0, w_o_var, w_o_con, w_o_op, k_o, w_it_var, w_it_con, w_it_ix, w_it_lst, w_it_tup, w_it_call, w_it_prim, w_it_sl, w_it_op, w_it_comp, w_it_ite, k_src, w_rng, k_rng, w_comp, k_comp, k_eltD, k_eltN, k_cond, body0, body1, x_setI, k_si1, k_si2, k_si3, w_meth, k_me1, k_me2, nxt_next, nxt_ret, nxt_brk, nxt_cont, wp_ok, wps_ok, w_dct0, a_dct1, wps_bt, a_bt, x_parM, w_evT, w_evF, a_alT, a_alN, a_stl, k_pm1, k_pm2, tB, oK_some, a_at, a_atB, a_atD, a_opb, a_opa, a_cmb, a_cma, a_ixb, a_ixa, a_neg, a_chT, a_chF, a_cha2, a_cha, a_brAT, a_brAF, a_brOT, a_brOF, a_brIT, a_brIF, a_brST, a_brSF, a_and, a_or, a_not, a_ite, a_if, a_prim, a_isi, a_set, a_slb, a_o, a_src, a_rng, a_bo0, a_bo1, a_brCT, a_brCF, a_cond, a_sid, a_sic, a_sib, a_mea, a_meb, a_mec, b_add, b_sub, c_lt, c_le, c_gt, c_ge, c_eqI, c_neI, c_eqS, c_neS, c_isB, c_isnotB, p_lenL, p_lenT, p_int, p_max, p_min, p_tupL, p_lstT, p_lstL, i_l, i_t, at0, at1, at2, t_bool, s_l, s_t, bp_nm, bp_tp, bps0, bps1, sr_l, sr_t, sr_n, startE, wipe, List.map_cons, List.map_nil, List.length_cons, List.length_nil, List.replicate, List.cons_append, List.nil_append, List.append_nil, Nat.reduceAdd, Nat.reduceSub, Nat.reduceMul, List.getElem?_cons_zero, List.getElem?_cons_succ, List.getElem?_nil, List.set_cons_zero, List.set_cons_succ, List.mapM_cons, List.mapM_nil, Option.pure_def, Option.bind_eq_bind, Option.bind_some, Bool.not_true, Bool.not_false]
    exact ⟨⟨_, rfl, f, e, rfl, w1, w2, w3⟩, hs.trans k⟩
  · intro os s4 hos hall hs4
    have hpts0 : ∀ y ∈ os.filterMap id, Pt last y := by
      intro y hy
      obtain ⟨o, ho, e⟩ := List.mem_filterMap.mp hy
      obtain ⟨x, e2, hx⟩ := hall o ho
      have e3 : o = some y := e
      rw [e2] at e3
      cases e3
      exact hx
    have hlen0 : (os.filterMap id).length ≤ 9 := by
      have a1 := List.length_filterMap_le id os
      rw [hos, ints_len] at a1
      omega
    obtain ⟨pts0, ep0⟩ : ∃ p, p = os.filterMap id := ⟨_, rfl⟩
    rw [← ep0] at hpts0 hlen0 ⊢
    have kk4 := kk.trans hs4
    simp only [w_var, a_var, w_con, w_glo, w_op, k_op1, k_op2, w_neg, k_neg, w_cmp, k_cm1, k_cm2, w_chain, k_ch1, k_ch2, w_and, k_and, w_or, k_or, w_not, k_not, w_ite, k_ite, w_tup, k_tup, w_lst, k_lst, w_call, k_call, w_prim, k_prim, w_isi, k_isi, w_ix, k_ix1, k_ix2, w_ts0, w_ts, k_ts1, k_ts2, w_ds0, w_ds, k_ds1d, k_ds1n, k_ds2, x_nil, x_cons, x_set, k_set, x_setM, k_setMt, k_setMn, x_expr, k_expr, x_ret, k_ret, x_retN, x_pass, x_ife, k_if, x_for, k_for, k_finN, k_finD, k_finL, st_t, st_n, rd_d, rd_ref, w_sl, k_sl, k_sl1, k_sl2, w_o0, w_o_var, w_o_con, w_o_op, k_o, w_it_var, w_it_con, w_it_ix, w_it_lst, w_it_tup, w_it_call, w_it_prim, w_it_sl, w_it_op, w_it_comp, w_it_ite, k_src, w_rng, k_rng, w_comp, k_comp, k_eltD, k_eltN, k_cond, body0, body1, x_setI, k_si1, k_si2, k_si3, w_meth, k_me1, k_me2, nxt_next, nxt_ret, nxt_brk, nxt_cont, wp_ok, wps_ok, w_dct0, a_dct1, wps_bt, a_bt, x_parM, w_evT, w_evF, a_alT, a_alN, a_stl, k_pm1, k_pm2, tB, oK_some, a_at, a_atB, a_atD, a_opb, a_opa, a_cmb, a_cma, a_ixb, a_ixa, a_neg, a_chT, a_chF, a_cha2, a_cha, a_brAT, a_brAF, a_brOT, a_brOF, a_brIT, a_brIF, a_brST, a_brSF, a_and, a_or, a_not, a_ite, a_if, a_prim, a_isi, a_set, a_slb, a_o, a_src, a_rng, a_bo0, a_bo1, a_brCT, a_brCF, a_cond, a_sid, a_sic, a_sib, a_mea, a_meb, a_mec, b_add, b_sub, c_lt, c_le, c_gt, c_ge, c_eqI, c_neI, c_eqS, c_neS, c_isB, c_isnotB, p_lenL, p_lenT, p_int, p_max, p_min, p_tupL, p_lstT, p_lstL, i_l, i_t, at0, at1, at2, t_bool, s_l, s_t, bp_nm, bp_tp, bps0, bps1, sr_l, sr_t, sr_n, startE, wipe, List.map_cons, List.map_nil, List.length_cons, List.length_nil, List.replicate, List.cons_append, List.nil_append, List.append_nil, Nat.reduceAdd, Nat.reduceSub, Nat.reduceMul, List.getElem?_cons_zero, List.getElem?_cons_succ, List.getElem?_nil, List.set_cons_zero, List.set_cons_succ, List.mapM_cons, List.mapM_nil, Option.pure_def, Option.bind_eq_bind, Option.bind_some, Bool.not_true, Bool.not_false]
    -- the points, grown or not
    have rest : ∀ pts : List D, (∀ y ∈ pts, Pt last y) → pts.length ≤ 9 → ∀ e9 e10 e11 e12 : Option T, (execs (callN tbl wf (n + 3)) wf
        [(.set (.nm 5) (.lst [])), (.for (.nm 6) (.rng [(.prim .len [(.var 4)])]) [(.set (.nm 5) (.op .add (.var 5) (.comp [12] (.nm 12) (.rng [(.var 6)]) [] (.tup [(.var 12), (.var 6)]))))]), (.ife (.cmp .eq (.var 5) (.lst [])) [(.ret (.tup [(.var 7), (.prim .tuple [(.var 4)]), (.tup [])]))] []), (.set (.nm 5) (.sl (.call 7 [(.var 0), (.var 5)]) .hole (.op .add (.con (.int 2)) (.call 5 [(.var 0), (.con (.int 4))])))), (.ret (.tup [(.var 7), (.prim .tuple [(.var 4)]), (.call 9 [(.var 0), (.var 4), (.var 5), (.call 5 [(.var 0), (.con (.int 8))]), (.var 3)])]))]
        [some (.ref c), some (.d (.int most)), some (.d (.int days)), some (.d (.bool grows)), some (.d (.list pts)), none, none, some (.d (.int last)), some (.d (.int kind)), e9, e10, e11, e12] s4).wp (kFin st.length fun v st' => (∃ x, v = .t (.d x) ∧ Nt x) ∧ Sm c st st') := by
      intro pts hpts hlen e9 e10 e11 e12
      simp only [w_var, a_var, w_con, w_glo, w_op, k_op1, k_op2, w_neg, k_neg, w_cmp, k_cm1, k_cm2, w_chain, k_ch1, k_ch2, w_and, k_and, w_or, k_or, w_not, k_not, w_ite, k_ite, w_tup, k_tup, w_lst, k_lst, w_call, k_call, w_prim, k_prim, w_isi, k_isi, w_ix, k_ix1, k_ix2, w_ts0, w_ts, k_ts1, k_ts2, w_ds0, w_ds, k_ds1d, k_ds1n, k_ds2, x_nil, x_cons, x_set, k_set, x_setM, k_setMt, k_setMn, x_expr, k_expr, x_ret, k_ret, x_retN, x_pass, x_ife, k_if, x_for, k_for, k_finN, k_finD, k_finL, st_t, st_n, rd_d, rd_ref, w_sl, k_sl, k_sl1, k_sl2, w_o0, w_o_var, w_o_con, w_o_op, k_o, w_it_var, w_it_con, w_it_ix, w_it_lst, w_it_tup, w_it_call, w_it_prim, w_it_sl, w_it_op, w_it_comp, w_it_ite, k_src, w_rng, k_rng, w_comp, k_comp, k_eltD, k_eltN, k_cond, body0, body1, x_setI, k_si1, k_si2, k_si3, w_meth, k_me1, k_me2, nxt_next, nxt_ret, nxt_brk, nxt_cont, wp_ok, wps_ok, w_dct0, a_dct1, wps_bt, a_bt, x_parM, w_evT, w_evF, a_alT, a_alN, a_stl, k_pm1, k_pm2, tB, oK_some, a_at, a_atB, a_atD, a_opb, a_opa, a_cmb, a_cma, a_ixb, a_ixa, a_neg, a_chT, a_chF, a_cha2, a_cha, a_brAT, a_brAF, a_brOT, a_brOF, a_brIT, a_brIF, a_brST, a_brSF, a_and, a_or, a_not, a_ite, a_if, a_prim, a_isi, a_set, a_slb, a_o, a_src, a_rng, a_bo0, a_bo1, a_brCT, a_brCF, a_cond, a_sid, a_sic, a_sib, a_mea, a_meb, a_mec, b_add, b_sub, c_lt, c_le, c_gt, c_ge, c_eqI, c_neI, c_eqS, c_neS, c_isB, c_isnotB, p_lenL, p_lenT, p_int, p_max, p_min, p_tupL, p_lstT, p_lstL, i_l, i_t, at0, at1, at2, t_bool, s_l, s_t, bp_nm, bp_tp, bps0, bps1, sr_l, sr_t, sr_n, startE, wipe, List.map_cons, List.map_nil, List.length_cons, List.length_nil, List.replicate, List.cons_append, List.nil_append, List.append_nil, Nat.reduceAdd, Nat.reduceSub, Nat.reduceMul, List.getElem?_cons_zero, List.getElem?_cons_succ, List.getElem?_nil, List.set_cons_zero, List.set_cons_succ, List.mapM_cons, List.mapM_nil, Option.pure_def, Option.bind_eq_bind, Option.bind_some, Bool.not_true, Bool.not_false]
      refine ⟨by simp only [big]; omega, ?_⟩
      refine forL_inv (fun ys env s => ∃ (e6 e12 : Option T) (prs : List D), env = [some (.ref c), some (.d (.int most)), some (.d (.int days)), some (.d (.bool grows)), some (.d (.list pts)), some (.d (.list prs)), e6, some (.d (.int last)), some (.d (.int kind)), e9, e10, e11, e12] ∧ s = s4 ∧
          (∀ y ∈ prs, Pr pts.length y) ∧ prs.length + 10 * ys.length ≤ 10 * pts.length ∧ ∀ y ∈ ys, ∃ i : Int, y = .int i ∧ 0 ≤ i ∧ i < pts.length) ⟨_, _, [], rfl, rfl, by simp, by rw [ints_len]; simp, ?_⟩ ?_ ?_
      · intro y hy
        obtain ⟨i, e1, e2, e3⟩ := ints_mem hy
        exact ⟨i, e1, e2, by omega⟩
      · rintro x ys env s ⟨e6, e12, prs, rfl, rfl, hprs, hpl, hys⟩
        obtain ⟨o, rfl, o0, o1⟩ := hys x (by simp)
        simp only [w_var, a_var, w_con, w_glo, w_op, k_op1, k_op2, w_neg, k_neg, w_cmp, k_cm1, k_cm2, w_chain, k_ch1, k_ch2, w_and, k_and, w_or, k_or, w_not, k_not, w_ite, k_ite, w_tup, k_tup, w_lst, k_lst, w_call, k_call, w_prim, k_prim, w_isi, k_isi, w_ix, k_ix1, k_ix2, w_ts0, w_ts, k_ts1, k_ts2, w_ds0, w_ds, k_ds1d, k_ds1n, k_ds2, x_nil, x_cons, x_set, k_set, x_setM, k_setMt, k_setMn, x_expr, k_expr, x_ret, k_ret, x_retN, x_pass, x_ife, k_if, x_for, k_for, k_finN, k_finD, k_finL, st_t, st_n, rd_d, rd_ref, w_sl, k_sl, k_sl1, k_sl2, w_o0, w_o_var, w_o_con, w_o_op, k_o, w_it_var, w_it_con, w_it_ix, w_it_lst, w_it_tup, w_it_call, w_it_prim, w_it_sl, w_it_op, w_it_comp, w_it_ite, k_src, w_rng, k_rng, w_comp, k_comp, k_eltD, k_eltN, k_cond, body0, body1, x_setI, k_si1, k_si2, k_si3, w_meth, k_me1, k_me2, nxt_next, nxt_ret, nxt_brk, nxt_cont, wp_ok, wps_ok, w_dct0, a_dct1, wps_bt, a_bt, x_parM, w_evT, w_evF, a_alT, a_alN, a_stl, k_pm1, k_pm2, tB, oK_some, a_at, a_atB, a_atD, a_opb, a_opa, a_cmb, a_cma, a_ixb, a_ixa, a_neg, a_chT, a_chF, a_cha2, a_cha, a_brAT, a_brAF, a_brOT, a_brOF, a_brIT, a_brIF, a_brST, a_brSF, a_and, a_or, a_not, a_ite, a_if, a_prim, a_isi, a_set, a_slb, a_o, a_src, a_rng, a_bo0, a_bo1, a_brCT, a_brCF, a_cond, a_sid, a_sic, a_sib, a_mea, a_meb, a_mec, b_add, b_sub, c_lt, c_le, c_gt, c_ge, c_eqI, c_neI, c_eqS, c_neS, c_isB, c_isnotB, p_lenL, p_lenT, p_int, p_max, p_min, p_tupL, p_lstT, p_lstL, i_l, i_t, at0, at1, at2, t_bool, s_l, s_t, bp_nm, bp_tp, bps0, bps1, sr_l, sr_t, sr_n, startE, wipe, List.map_cons, List.map_nil, List.length_cons, List.length_nil, List.replicate, List.cons_append, List.nil_append, List.append_nil, Nat.reduceAdd, Nat.reduceSub, Nat.reduceMul, List.getElem?_cons_zero, List.getElem?_cons_succ, List.getElem?_nil, List.set_cons_zero, List.set_cons_succ, List.mapM_cons, List.mapM_nil, Option.pure_def, Option.bind_eq_bind, Option.bind_some, Bool.not_true, Bool.not_false]
        refine ⟨by simp only [big]; omega, ?_⟩
        rw [compL_mapD (h := fun y => .tuple [y, .int o]) (fun y hy ko => by
          simp only [w_var, a_var, w_con, w_glo, w_op, k_op1, k_op2, w_neg, k_neg, w_cmp, k_cm1, k_cm2, w_chain, k_ch1, k_ch2, w_and, k_and, w_or, k_or, w_not, k_not, w_ite, k_ite, w_tup, k_tup, w_lst, k_lst, w_call, k_call, w_prim, k_prim, w_isi, k_isi, w_ix, k_ix1, k_ix2, w_ts0, w_ts, k_ts1, k_ts2, w_ds0, w_ds, k_ds1d, k_ds1n, k_ds2, x_nil, x_cons, x_set, k_set, x_setM, k_setMt, k_setMn, x_expr, k_expr, x_ret, k_ret, x_retN, x_pass, x_ife, k_if, x_for, k_for, k_finN, k_finD, k_finL, st_t, st_n, rd_d, rd_ref, w_sl, k_sl, k_sl1, k_sl2, w_o0, w_o_var, w_o_con, w_o_op, k_o, w_it_var, w_it_con, w_it_ix, w_it_lst, w_it_tup, w_it_call, w_it_prim, w_it_sl, w_it_op, w_it_comp, w_it_ite, k_src, w_rng, k_rng, w_comp, k_comp, k_eltD, k_eltN, k_cond, body0, body1, x_setI, k_si1, k_si2, k_si3, w_meth, k_me1, k_me2, nxt_next, nxt_ret, nxt_brk, nxt_cont, wp_ok, wps_ok, w_dct0, a_dct1, wps_bt, a_bt, x_parM, w_evT, w_evF, a_alT, a_alN, a_stl, k_pm1, k_pm2, tB, oK_some, a_at, a_atB, a_atD, a_opb, a_opa, a_cmb, a_cma, a_ixb, a_ixa, a_neg, a_chT, a_chF, a_cha2, a_cha, a_brAT, a_brAF, a_brOT, a_brOF, a_brIT, a_brIF, a_brST, a_brSF, a_and, a_or, a_not, a_ite, a_if, a_prim, a_isi, a_set, a_slb, a_o, a_src, a_rng, a_bo0, a_bo1, a_brCT, a_brCF, a_cond, a_sid, a_sic, a_sib, a_mea, a_meb, a_mec, b_add, b_sub, c_lt, c_le, c_gt, c_ge, c_eqI, c_neI, c_eqS, c_neS, c_isB, c_isnotB, p_lenL, p_lenT, p_int, p_max, p_min, p_tupL, p_lstT, p_lstL, i_l, i_t, at0, at1, at2, t_bool, s_l, s_t, bp_nm, bp_tp, bps0, bps1, sr_l, sr_t, sr_n, startE, wipe, List.map_cons, List.map_nil, List.length_cons, List.length_nil, List.replicate, List.cons_append, List.nil_append, List.append_nil, Nat.reduceAdd, Nat.reduceSub, Nat.reduceMul, List.getElem?_cons_zero, List.getElem?_cons_succ, List.getElem?_nil, List.set_cons_zero, List.set_cons_succ, List.mapM_cons, List.mapM_nil, Option.pure_def, Option.bind_eq_bind, Option.bind_some, Bool.not_true, Bool.not_false])]
        have hl2 : ((intsFrom 0 o.toNat).map fun y : D => (.tuple [y, .int o] : D)).length ≤ 10 := by rw [List.length_map, ints_len]; omega
        simp only [w_var, a_var, w_con, w_glo, w_op, k_op1, k_op2, w_neg, k_neg, w_cmp, k_cm1, k_cm2, w_chain, k_ch1, k_ch2, w_and, k_and, w_or, k_or, w_not, k_not, w_ite, k_ite, w_tup, k_tup, w_lst, k_lst, w_call, k_call, w_prim, k_prim, w_isi, k_isi, w_ix, k_ix1, k_ix2, w_ts0, w_ts, k_ts1, k_ts2, w_ds0, w_ds, k_ds1d, k_ds1n, k_ds2, x_nil, x_cons, x_set, k_set, x_setM, k_setMt, k_setMn, x_expr, k_expr, x_ret, k_ret, x_retN, x_pass, x_ife, k_if, x_for, k_for, k_finN, k_finD, k_finL, st_t, st_n, rd_d, rd_ref, w_sl, k_sl, k_sl1, k_sl2, w_o0, w_o_var, w_o_con, w_o_op, k_o, w_it_var, w_it_con, w_it_ix, w_it_lst, w_it_tup, w_it_call, w_it_prim, w_it_sl, w_it_op, w_it_comp, w_it_ite, k_src, w_rng, k_rng, w_comp, k_comp, k_eltD, k_eltN, k_cond, body0, body1, x_setI, k_si1, k_si2, k_si3, w_meth, k_me1, k_me2, nxt_next, nxt_ret, nxt_brk, nxt_cont, wp_ok, wps_ok, w_dct0, a_dct1, wps_bt, a_bt, x_parM, w_evT, w_evF, a_alT, a_alN, a_stl, k_pm1, k_pm2, tB, oK_some, a_at, a_atB, a_atD, a_opb, a_opa, a_cmb, a_cma, a_ixb, a_ixa, a_neg, a_chT, a_chF, a_cha2, a_cha, a_brAT, a_brAF, a_brOT, a_brOF, a_brIT, a_brIF, a_brST, a_brSF, a_and, a_or, a_not, a_ite, a_if, a_prim, a_isi, a_set, a_slb, a_o, a_src, a_rng, a_bo0, a_bo1, a_brCT, a_brCF, a_cond, a_sid, a_sic, a_sib, a_mea, a_meb, a_mec, b_add, b_sub, c_lt, c_le, c_gt, c_ge, c_eqI, c_neI, c_eqS, c_neS, c_isB, c_isnotB, p_lenL, p_lenT, p_int, p_max, p_min, p_tupL, p_lstT, p_lstL, i_l, i_t, at0, at1, at2, t_bool, s_l, s_t, bp_nm, bp_tp, bps0, bps1, sr_l, sr_t, sr_n, startE, wipe, List.map_cons, List.map_nil, List.length_cons, List.length_nil, List.replicate, List.cons_append, List.nil_append, List.append_nil, Nat.reduceAdd, Nat.reduceSub, Nat.reduceMul, List.getElem?_cons_zero, List.getElem?_cons_succ, List.getElem?_nil, List.set_cons_zero, List.set_cons_succ, List.mapM_cons, List.mapM_nil, Option.pure_def, Option.bind_eq_bind, Option.bind_some, Bool.not_true, Bool.not_false]
        rw [b_addL (by simp only [List.length_cons] at hpl; show _ ≤ 16777216; omega)]
        simp only [w_var, a_var, w_con, w_glo, w_op, k_op1, k_op2, w_neg, k_neg, w_cmp, k_cm1, k_cm2, w_chain, k_ch1, k_ch2, w_and, k_and, w_or, k_or, w_not, k_not, w_ite, k_ite, w_tup, k_tup, w_lst, k_lst, w_call, k_call, w_prim, k_prim, w_isi, k_isi, w_ix, k_ix1, k_ix2, w_ts0, w_ts, k_ts1, k_ts2, w_ds0, w_ds, k_ds1d, k_ds1n, k_ds2, x_nil, x_cons, x_set, k_set, x_setM, k_setMt, k_setMn, x_expr, k_expr, x_ret, k_ret, x_retN, x_pass, x_ife, k_if, x_for, k_for, k_finN, k_finD, k_finL, st_t, st_n, rd_d, rd_ref, w_sl, k_sl, k_sl1, k_sl2, w_o0, w_o_var, w_o_con, w_o_op, k_o, w_it_var, w_it_con, w_it_ix, w_it_lst, w_it_tup, w_it_call, w_it_prim, w_it_sl, w_it_op, w_it_comp, w_it_ite, k_src, w_rng, k_rng, w_comp, k_comp, k_eltD, k_eltN, k_cond, body0, body1, x_setI, k_si1, k_si2, k_si3, w_meth, k_me1, k_me2, nxt_next, nxt_ret, nxt_brk, nxt_cont, wp_ok, wps_ok, w_dct0, a_dct1, wps_bt, a_bt, x_parM, w_evT, w_evF, a_alT, a_alN, a_stl, k_pm1, k_pm2, tB, oK_some, a_at, a_atB, a_atD, a_opb, a_opa, a_cmb, a_cma, a_ixb, a_ixa, a_neg, a_chT, a_chF, a_cha2, a_cha, a_brAT, a_brAF, a_brOT, a_brOF, a_brIT, a_brIF, a_brST, a_brSF, a_and, a_or, a_not, a_ite, a_if, a_prim, a_isi, a_set, a_slb, a_o, a_src, a_rng, a_bo0, a_bo1, a_brCT, a_brCF, a_cond, a_sid, a_sic, a_sib, a_mea, a_meb, a_mec, b_add, b_sub, c_lt, c_le, c_gt, c_ge, c_eqI, c_neI, c_eqS, c_neS, c_isB, c_isnotB, p_lenL, p_lenT, p_int, p_max, p_min, p_tupL, p_lstT, p_lstL, i_l, i_t, at0, at1, at2, t_bool, s_l, s_t, bp_nm, bp_tp, bps0, bps1, sr_l, sr_t, sr_n, startE, wipe, List.map_cons, List.map_nil, List.length_cons, List.length_nil, List.replicate, List.cons_append, List.nil_append, List.append_nil, Nat.reduceAdd, Nat.reduceSub, Nat.reduceMul, List.getElem?_cons_zero, List.getElem?_cons_succ, List.getElem?_nil, List.set_cons_zero, List.set_cons_succ, List.mapM_cons, List.mapM_nil, Option.pure_def, Option.bind_eq_bind, Option.bind_some, Bool.not_true, Bool.not_false]
        refine ⟨.inl trivial, _, _, _, rfl, trivial, fun y hy => ?_, ?_, fun y hy => hys y (by simp [hy])⟩
        · rcases List.mem_append.mp hy with hy | hy
          · exact hprs y hy
          · obtain ⟨z, hz, rfl⟩ := List.mem_map.mp hy
            obtain ⟨i, rfl, i0, i1⟩ := ints_mem hz
            exact ⟨i, o, rfl, ⟨i0, by omega⟩, o0, o1⟩
        · rw [List.length_append]
          simp only [List.length_cons] at hpl
          omega
      · rintro env s ⟨e6, e12, prs, rfl, rfl, hprs, hpl, _⟩
        simp only [nxt_next]
        simp only [w_var, a_var, w_con, w_glo, w_op, k_op1, k_op2, w_neg, k_neg, w_cmp, k_cm1, k_cm2, w_chain, k_ch1, k_ch2, w_and, k_and, w_or, k_or, w_not, k_not, w_ite, k_ite, w_tup, k_tup, w_lst, k_lst, w_call, k_call, w_prim, k_prim, w_isi, k_isi, w_ix, k_ix1, k_ix2, w_ts0, w_ts, k_ts1, k_ts2, w_ds0, w_ds, k_ds1d, k_ds1n, k_ds2, x_nil, x_cons, x_set, k_set, x_setM, k_setMt, k_setMn, x_expr, k_expr, x_ret, k_ret, x_retN, x_pass, x_ife, k_if, x_for, k_for, k_finN, k_finD, k_finL, st_t, st_n, rd_d, rd_ref, w_sl, k_sl, k_sl1, k_sl2, w_o0, w_o_var, w_o_con, w_o_op, k_o, w_it_var, w_it_con, w_it_ix, w_it_lst, w_it_tup, w_it_call, w_it_prim, w_it_sl, w_it_op, w_it_comp, w_it_ite, k_src, w_rng, k_rng, w_comp, k_comp, k_eltD, k_eltN, k_cond, body0, body1, x_setI, k_si1, k_si2, k_si3, w_meth, k_me1, k_me2, nxt_next, nxt_ret, nxt_brk, nxt_cont, wp_ok, wps_ok, w_dct0, a_dct1, wps_bt, a_bt, x_parM, w_evT, w_evF, a_alT, a_alN, a_stl, k_pm1, k_pm2, tB, oK_some, a_at, a_atB, a_atD, a_opb, a_opa, a_cmb, a_cma, a_ixb, a_ixa, a_neg, a_chT, a_chF, a_cha2, a_cha, a_brAT, a_brAF, a_brOT, a_brOF, a_brIT, a_brIF, a_brST, a_brSF, a_and, a_or, a_not, a_ite, a_if, a_prim, a_isi, a_set, a_slb, a_o, a_src, a_rng, a_bo0, a_bo1, a_brCT, a_brCF, a_cond, a_sid, a_sic, a_sib, a_mea, a_meb, a_mec, b_add, b_sub, c_lt, c_le, c_gt, c_ge, c_eqI, c_neI, c_eqS, c_neS, c_isB, c_isnotB, p_lenL, p_lenT, p_int, p_max, p_min, p_tupL, p_lstT, p_lstL, i_l, i_t, at0, at1, at2, t_bool, s_l, s_t, bp_nm, bp_tp, bps0, bps1, sr_l, sr_t, sr_n, startE, wipe, List.map_cons, List.map_nil, List.length_cons, List.length_nil, List.replicate, List.cons_append, List.nil_append, List.append_nil, Nat.reduceAdd, Nat.reduceSub, Nat.reduceMul, List.getElem?_cons_zero, List.getElem?_cons_succ, List.getElem?_nil, List.set_cons_zero, List.set_cons_succ, List.mapM_cons, List.mapM_nil, Option.pure_def, Option.bind_eq_bind, Option.bind_some, Bool.not_true, Bool.not_false, c_eq (shaped_list fun z hz => pr_lay (hprs z hz)) nil_shaped rfl, eqv_nil]
        simp only [List.length_nil, Nat.mul_zero, Nat.add_zero] at hpl
        by_cases he : prs = []
        · subst he
          simp only [w_var, a_var, w_con, w_glo, w_op, k_op1, k_op2, w_neg, k_neg, w_cmp, k_cm1, k_cm2, w_chain, k_ch1, k_ch2, w_and, k_and, w_or, k_or, w_not, k_not, w_ite, k_ite, w_tup, k_tup, w_lst, k_lst, w_call, k_call, w_prim, k_prim, w_isi, k_isi, w_ix, k_ix1, k_ix2, w_ts0, w_ts, k_ts1, k_ts2, w_ds0, w_ds, k_ds1d, k_ds1n, k_ds2, x_nil, x_cons, x_set, k_set, x_setM, k_setMt, k_setMn, x_expr, k_expr, x_ret, k_ret, x_retN, x_pass, x_ife, k_if, x_for, k_for, k_finN, k_finD, k_finL, st_t, st_n, rd_d, rd_ref, w_sl, k_sl, k_sl1, k_sl2, w_o0, w_o_var, w_o_con, w_o_op, k_o, w_it_var, w_it_con, w_it_ix, w_it_lst, w_it_tup, w_it_call, w_it_prim, w_it_sl, w_it_op, w_it_comp, w_it_ite, k_src, w_rng, k_rng, w_comp, k_comp, k_eltD, k_eltN, k_cond, body0, body1, x_setI, k_si1, k_si2, k_si3, w_meth, k_me1, k_me2, nxt_next, nxt_ret, nxt_brk, nxt_cont, wp_ok, wps_ok, w_dct0, a_dct1, wps_bt, a_bt, x_parM, w_evT, w_evF, a_alT, a_alN, a_stl, k_pm1, k_pm2, tB, oK_some, a_at, a_atB, a_atD, a_opb, a_opa, a_cmb, a_cma, a_ixb, a_ixa, a_neg, a_chT, a_chF, a_cha2, a_cha, a_brAT, a_brAF, a_brOT, a_brOF, a_brIT, a_brIF, a_brST, a_brSF, a_and, a_or, a_not, a_ite, a_if, a_prim, a_isi, a_set, a_slb, a_o, a_src, a_rng, a_bo0, a_bo1, a_brCT, a_brCF, a_cond, a_sid, a_sic, a_sib, a_mea, a_meb, a_mec, b_add, b_sub, c_lt, c_le, c_gt, c_ge, c_eqI, c_neI, c_eqS, c_neS, c_isB, c_isnotB, p_lenL, p_lenT, p_int, p_max, p_min, p_tupL, p_lstT, p_lstL, i_l, i_t, at0, at1, at2, t_bool, s_l, s_t, bp_nm, bp_tp, bps0, bps1, sr_l, sr_t, sr_n, startE, wipe, List.map_cons, List.map_nil, List.length_cons, List.length_nil, List.replicate, List.cons_append, List.nil_append, List.append_nil, Nat.reduceAdd, Nat.reduceSub, Nat.reduceMul, List.getElem?_cons_zero, List.getElem?_cons_succ, List.getElem?_nil, List.set_cons_zero, List.set_cons_succ, List.mapM_cons, List.mapM_nil, Option.pure_def, Option.bind_eq_bind, Option.bind_some, Bool.not_true, Bool.not_false, List.isEmpty_nil]
          rw [take_len kk4.1]
          exact ⟨⟨_, rfl, last, pts, [], rfl, l0, by omega, by omega, hpts, by simp, by simp⟩, kk4⟩
        · have he2 : prs.isEmpty = false := by cases prs <;> first | rfl | exact absurd rfl he
          simp only [w_var, a_var, w_con, w_glo, w_op, k_op1, k_op2, w_neg, k_neg, w_cmp, k_cm1, k_cm2, w_chain, k_ch1, k_ch2, w_and, k_and, w_or, k_or, w_not, k_not, w_ite, k_ite, w_tup, k_tup, w_lst, k_lst, w_call, k_call, w_prim, k_prim, w_isi, k_isi, w_ix, k_ix1, k_ix2, w_ts0, w_ts, k_ts1, k_ts2, w_ds0, w_ds, k_ds1d, k_ds1n, k_ds2, x_nil, x_cons, x_set, k_set, x_setM, k_setMt, k_setMn, x_expr, k_expr, x_ret, k_ret, x_retN, x_pass, x_ife, k_if, x_for, k_for, k_finN, k_finD, k_finL, st_t, st_n, rd_d, rd_ref, w_sl, k_sl, k_sl1, k_sl2, w_o0, w_o_var, w_o_con, w_o_op, k_o, w_it_var, w_it_con, w_it_ix, w_it_lst, w_it_tup, w_it_call, w_it_prim, w_it_sl, w_it_op, w_it_comp, w_it_ite, k_src, w_rng, k_rng, w_comp, k_comp, k_eltD, k_eltN, k_cond, body0, body1, x_setI, k_si1, k_si2, k_si3, w_meth, k_me1, k_me2, nxt_next, nxt_ret, nxt_brk, nxt_cont, wp_ok, wps_ok, w_dct0, a_dct1, wps_bt, a_bt, x_parM, w_evT, w_evF, a_alT, a_alN, a_stl, k_pm1, k_pm2, tB, oK_some, a_at, a_atB, a_atD, a_opb, a_opa, a_cmb, a_cma, a_ixb, a_ixa, a_neg, a_chT, a_chF, a_cha2, a_cha, a_brAT, a_brAF, a_brOT, a_brOF, a_brIT, a_brIF, a_brST, a_brSF, a_and, a_or, a_not, a_ite, a_if, a_prim, a_isi, a_set, a_slb, a_o, a_src, a_rng, a_bo0, a_bo1, a_brCT, a_brCF, a_cond, a_sid, a_sic, a_sib, a_mea, a_meb, a_mec, b_add, b_sub, c_lt, c_le, c_gt, c_ge, c_eqI, c_neI, c_eqS, c_neS, c_isB, c_isnotB, p_lenL, p_lenT, p_int, p_max, p_min, p_tupL, p_lstT, p_lstL, i_l, i_t, at0, at1, at2, t_bool, s_l, s_t, bp_nm, bp_tp, bps0, bps1, sr_l, sr_t, sr_n, startE, wipe, List.map_cons, List.map_nil, List.length_cons, List.length_nil, List.replicate, List.cons_append, List.nil_append, List.append_nil, Nat.reduceAdd, Nat.reduceSub, Nat.reduceMul, List.getElem?_cons_zero, List.getElem?_cons_succ, List.getElem?_nil, List.set_cons_zero, List.set_cons_succ, List.mapM_cons, List.mapM_nil, Option.pure_def, Option.bind_eq_bind, Option.bind_some, Bool.not_true, Bool.not_false, he2]
          refine (mixed kk4.2.2 (fun z hz => pr_lay (hprs z hz)) (by omega) hw).mono ?_
          rintro v s5 ⟨⟨ys, rfl, hyl, hyp⟩, k5⟩
          simp only [w_var, a_var, w_con, w_glo, w_op, k_op1, k_op2, w_neg, k_neg, w_cmp, k_cm1, k_cm2, w_chain, k_ch1, k_ch2, w_and, k_and, w_or, k_or, w_not, k_not, w_ite, k_ite, w_tup, k_tup, w_lst, k_lst, w_call, k_call, w_prim, k_prim, w_isi, k_isi, w_ix, k_ix1, k_ix2, w_ts0, w_ts, k_ts1, k_ts2, w_ds0, w_ds, k_ds1d, k_ds1n, k_ds2, x_nil, x_cons, x_set, k_set, x_setM, k_setMt, k_setMn, x_expr, k_expr, x_ret, k_ret, x_retN, x_pass, x_ife, k_if, x_for, k_for, k_finN, k_finD, k_finL, st_t, st_n, rd_d, rd_ref, w_sl, k_sl, k_sl1, k_sl2, w_o0, w_o_var, w_o_con, w_o_op, k_o, w_it_var, w_it_con, w_it_ix, w_it_lst, w_it_tup, w_it_call, w_it_prim, w_it_sl, w_it_op, w_it_comp, w_it_ite, k_src, w_rng, k_rng, w_comp, k_comp, k_eltD, k_eltN, k_cond, body0, body1, x_setI, k_si1, k_si2, k_si3, w_meth, k_me1, k_me2, nxt_next, nxt_ret, nxt_brk, nxt_cont, wp_ok, wps_ok, w_dct0, a_dct1, wps_bt, a_bt, x_parM, w_evT, w_evF, a_alT, a_alN, a_stl, k_pm1, k_pm2, tB, oK_some, a_at, a_atB, a_atD, a_opb, a_opa, a_cmb, a_cma, a_ixb, a_ixa, a_neg, a_chT, a_chF, a_cha2, a_cha, a_brAT, a_brAF, a_brOT, a_brOF, a_brIT, a_brIF, a_brST, a_brSF, a_and, a_or, a_not, a_ite, a_if, a_prim, a_isi, a_set, a_slb, a_o, a_src, a_rng, a_bo0, a_bo1, a_brCT, a_brCF, a_cond, a_sid, a_sic, a_sib, a_mea, a_meb, a_mec, b_add, b_sub, c_lt, c_le, c_gt, c_ge, c_eqI, c_neI, c_eqS, c_neS, c_isB, c_isnotB, p_lenL, p_lenT, p_int, p_max, p_min, p_tupL, p_lstT, p_lstL, i_l, i_t, at0, at1, at2, t_bool, s_l, s_t, bp_nm, bp_tp, bps0, bps1, sr_l, sr_t, sr_n, startE, wipe, List.map_cons, List.map_nil, List.length_cons, List.length_nil, List.replicate, List.cons_append, List.nil_append, List.append_nil, Nat.reduceAdd, Nat.reduceSub, Nat.reduceMul, List.getElem?_cons_zero, List.getElem?_cons_succ, List.getElem?_nil, List.set_cons_zero, List.set_cons_succ, List.mapM_cons, List.mapM_nil, Option.pure_def, Option.bind_eq_bind, Option.bind_some, Bool.not_true, Bool.not_false]
          refine (draw k5.2.2 (by omega) (by omega)).mono ?_
          rintro v s6 ⟨⟨u, rfl, u0, u1⟩, k6⟩
          simp only [w_var, a_var, w_con, w_glo, w_op, k_op1, k_op2, w_neg, k_neg, w_cmp, k_cm1, k_cm2, w_chain, k_ch1, k_ch2, w_and, k_and, w_or, k_or, w_not, k_not, w_ite, k_ite, w_tup, k_tup, w_lst, k_lst, w_call, k_call, w_prim, k_prim, w_isi, k_isi, w_ix, k_ix1, k_ix2, w_ts0, w_ts, k_ts1, k_ts2, w_ds0, w_ds, k_ds1d, k_ds1n, k_ds2, x_nil, x_cons, x_set, k_set, x_setM, k_setMt, k_setMn, x_expr, k_expr, x_ret, k_ret, x_retN, x_pass, x_ife, k_if, x_for, k_for, k_finN, k_finD, k_finL, st_t, st_n, rd_d, rd_ref, w_sl, k_sl, k_sl1, k_sl2, w_o0, w_o_var, w_o_con, w_o_op, k_o, w_it_var, w_it_con, w_it_ix, w_it_lst, w_it_tup, w_it_call, w_it_prim, w_it_sl, w_it_op, w_it_comp, w_it_ite, k_src, w_rng, k_rng, w_comp, k_comp, k_eltD, k_eltN, k_cond, body0, body1, x_setI, k_si1, k_si2, k_si3, w_meth, k_me1, k_me2, nxt_next, nxt_ret, nxt_brk, nxt_cont, wp_ok, wps_ok, w_dct0, a_dct1, wps_bt, a_bt, x_parM, w_evT, w_evF, a_alT, a_alN, a_stl, k_pm1, k_pm2, tB, oK_some, a_at, a_atB, a_atD, a_opb, a_opa, a_cmb, a_cma, a_ixb, a_ixa, a_neg, a_chT, a_chF, a_cha2, a_cha, a_brAT, a_brAF, a_brOT, a_brOF, a_brIT, a_brIF, a_brST, a_brSF, a_and, a_or, a_not, a_ite, a_if, a_prim, a_isi, a_set, a_slb, a_o, a_src, a_rng, a_bo0, a_bo1, a_brCT, a_brCF, a_cond, a_sid, a_sic, a_sib, a_mea, a_meb, a_mec, b_add, b_sub, c_lt, c_le, c_gt, c_ge, c_eqI, c_neI, c_eqS, c_neS, c_isB, c_isnotB, p_lenL, p_lenT, p_int, p_max, p_min, p_tupL, p_lstT, p_lstL, i_l, i_t, at0, at1, at2, t_bool, s_l, s_t, bp_nm, bp_tp, bps0, bps1, sr_l, sr_t, sr_n, startE, wipe, List.map_cons, List.map_nil, List.length_cons, List.length_nil, List.replicate, List.cons_append, List.nil_append, List.append_nil, Nat.reduceAdd, Nat.reduceSub, Nat.reduceMul, List.getElem?_cons_zero, List.getElem?_cons_succ, List.getElem?_nil, List.set_cons_zero, List.set_cons_succ, List.mapM_cons, List.mapM_nil, Option.pure_def, Option.bind_eq_bind, Option.bind_some, Bool.not_true, Bool.not_false]
          refine (draw k6.2.2 (by omega) (by omega)).mono ?_
          rintro v s7 ⟨⟨t, rfl, t0, t1⟩, k7⟩
          simp only [w_var, a_var, w_con, w_glo, w_op, k_op1, k_op2, w_neg, k_neg, w_cmp, k_cm1, k_cm2, w_chain, k_ch1, k_ch2, w_and, k_and, w_or, k_or, w_not, k_not, w_ite, k_ite, w_tup, k_tup, w_lst, k_lst, w_call, k_call, w_prim, k_prim, w_isi, k_isi, w_ix, k_ix1, k_ix2, w_ts0, w_ts, k_ts1, k_ts2, w_ds0, w_ds, k_ds1d, k_ds1n, k_ds2, x_nil, x_cons, x_set, k_set, x_setM, k_setMt, k_setMn, x_expr, k_expr, x_ret, k_ret, x_retN, x_pass, x_ife, k_if, x_for, k_for, k_finN, k_finD, k_finL, st_t, st_n, rd_d, rd_ref, w_sl, k_sl, k_sl1, k_sl2, w_o0, w_o_var, w_o_con, w_o_op, k_o, w_it_var, w_it_con, w_it_ix, w_it_lst, w_it_tup, w_it_call, w_it_prim, w_it_sl, w_it_op, w_it_comp, w_it_ite, k_src, w_rng, k_rng, w_comp, k_comp, k_eltD, k_eltN, k_cond, body0, body1, x_setI, k_si1, k_si2, k_si3, w_meth, k_me1, k_me2, nxt_next, nxt_ret, nxt_brk, nxt_cont, wp_ok, wps_ok, w_dct0, a_dct1, wps_bt, a_bt, x_parM, w_evT, w_evF, a_alT, a_alN, a_stl, k_pm1, k_pm2, tB, oK_some, a_at, a_atB, a_atD, a_opb, a_opa, a_cmb, a_cma, a_ixb, a_ixa, a_neg, a_chT, a_chF, a_cha2, a_cha, a_brAT, a_brAF, a_brOT, a_brOF, a_brIT, a_brIF, a_brST, a_brSF, a_and, a_or, a_not, a_ite, a_if, a_prim, a_isi, a_set, a_slb, a_o, a_src, a_rng, a_bo0, a_bo1, a_brCT, a_brCF, a_cond, a_sid, a_sic, a_sib, a_mea, a_meb, a_mec, b_add, b_sub, c_lt, c_le, c_gt, c_ge, c_eqI, c_neI, c_eqS, c_neS, c_isB, c_isnotB, p_lenL, p_lenT, p_int, p_max, p_min, p_tupL, p_lstT, p_lstL, i_l, i_t, at0, at1, at2, t_bool, s_l, s_t, bp_nm, bp_tp, bps0, bps1, sr_l, sr_t, sr_n, startE, wipe, List.map_cons, List.map_nil, List.length_cons, List.length_nil, List.replicate, List.cons_append, List.nil_append, List.append_nil, Nat.reduceAdd, Nat.reduceSub, Nat.reduceMul, List.getElem?_cons_zero, List.getElem?_cons_succ, List.getElem?_nil, List.set_cons_zero, List.set_cons_succ, List.mapM_cons, List.mapM_nil, Option.pure_def, Option.bind_eq_bind, Option.bind_some, Bool.not_true, Bool.not_false]
          have hyn : ys ≠ [] := fun e => by
            rw [e] at hyl
            exact he (List.length_eq_zero_iff.mp hyl.symm)
          refine (ties k7.2.2 hpts (by omega) (by omega) (fun y hy => hprs y (hyp y (cut_mem hy))) (cut_ne (by omega) hyn) (by have := cut_len (xs := ys) (a := none) (b := some (2 + u)); omega) t0 (by omega)).mono ?_
          rintro v s8 ⟨⟨ts, rfl, tl, tt⟩, k8⟩
          have k9 := kk4.trans ((k5.trans k6).trans (k7.trans k8))
          simp only [w_var, a_var, w_con, w_glo, w_op, k_op1, k_op2, w_neg, k_neg, w_cmp, k_cm1, k_cm2, w_chain, k_ch1, k_ch2, w_and, k_and, w_or, k_or, w_not, k_not, w_ite, k_ite, w_tup, k_tup, w_lst, k_lst, w_call, k_call, w_prim, k_prim, w_isi, k_isi, w_ix, k_ix1, k_ix2, w_ts0, w_ts, k_ts1, k_ts2, w_ds0, w_ds, k_ds1d, k_ds1n, k_ds2, x_nil, x_cons, x_set, k_set, x_setM, k_setMt, k_setMn, x_expr, k_expr, x_ret, k_ret, x_retN, x_pass, x_ife, k_if, x_for, k_for, k_finN, k_finD, k_finL, st_t, st_n, rd_d, rd_ref, w_sl, k_sl, k_sl1, k_sl2, w_o0, w_o_var, w_o_con, w_o_op, k_o, w_it_var, w_it_con, w_it_ix, w_it_lst, w_it_tup, w_it_call, w_it_prim, w_it_sl, w_it_op, w_it_comp, w_it_ite, k_src, w_rng, k_rng, w_comp, k_comp, k_eltD, k_eltN, k_cond, body0, body1, x_setI, k_si1, k_si2, k_si3, w_meth, k_me1, k_me2, nxt_next, nxt_ret, nxt_brk, nxt_cont, wp_ok, wps_ok, w_dct0, a_dct1, wps_bt, a_bt, x_parM, w_evT, w_evF, a_alT, a_alN, a_stl, k_pm1, k_pm2, tB, oK_some, a_at, a_atB, a_atD, a_opb, a_opa, a_cmb, a_cma, a_ixb, a_ixa, a_neg, a_chT, a_chF, a_cha2, a_cha, a_brAT, a_brAF, a_brOT, a_brOF, a_brIT, a_brIF, a_brST, a_brSF, a_and, a_or, a_not, a_ite, a_if, a_prim, a_isi, a_set, a_slb, a_o, a_src, a_rng, a_bo0, a_bo1, a_brCT, a_brCF, a_cond, a_sid, a_sic, a_sib, a_mea, a_meb, a_mec, b_add, b_sub, c_lt, c_le, c_gt, c_ge, c_eqI, c_neI, c_eqS, c_neS, c_isB, c_isnotB, p_lenL, p_lenT, p_int, p_max, p_min, p_tupL, p_lstT, p_lstL, i_l, i_t, at0, at1, at2, t_bool, s_l, s_t, bp_nm, bp_tp, bps0, bps1, sr_l, sr_t, sr_n, startE, wipe, List.map_cons, List.map_nil, List.length_cons, List.length_nil, List.replicate, List.cons_append, List.nil_append, List.append_nil, Nat.reduceAdd, Nat.reduceSub, Nat.reduceMul, List.getElem?_cons_zero, List.getElem?_cons_succ, List.getElem?_nil, List.set_cons_zero, List.set_cons_succ, List.mapM_cons, List.mapM_nil, Option.pure_def, Option.bind_eq_bind, Option.bind_some, Bool.not_true, Bool.not_false]
          rw [take_len k9.1]
          exact ⟨⟨_, rfl, last, pts, ts, rfl, l0, by omega, by omega, hpts, by omega, tt⟩, k9⟩
    cases grows with
    | false =>
      simp only [a_brSF, x_nil, nxt_next]
      exact rest pts0 hpts0 hlen0 _ _ _ _
    | true =>
      simp only [w_var, a_var, w_con, w_glo, w_op, k_op1, k_op2, w_neg, k_neg, w_cmp, k_cm1, k_cm2, w_chain, k_ch1, k_ch2, w_and, k_and, w_or, k_or, w_not, k_not, w_ite, k_ite, w_tup, k_tup, w_lst, k_lst, w_call, k_call, w_prim, k_prim, w_isi, k_isi, w_ix, k_ix1, k_ix2, w_ts0, w_ts, k_ts1, k_ts2, w_ds0, w_ds, k_ds1d, k_ds1n, k_ds2, x_nil, x_cons, x_set, k_set, x_setM, k_setMt, k_setMn, x_expr, k_expr, x_ret, k_ret, x_retN, x_pass, x_ife, k_if, x_for, k_for, k_finN, k_finD, k_finL, st_t, st_n, rd_d, rd_ref, w_sl, k_sl, k_sl1, k_sl2, w_o0, w_o_var, w_o_con, w_o_op, k_o, w_it_var, w_it_con, w_it_ix, w_it_lst, w_it_tup, w_it_call, w_it_prim, w_it_sl, w_it_op, w_it_comp, w_it_ite, k_src, w_rng, k_rng, w_comp, k_comp, k_eltD, k_eltN, k_cond, body0, body1, x_setI, k_si1, k_si2, k_si3, w_meth, k_me1, k_me2, nxt_next, nxt_ret, nxt_brk, nxt_cont, wp_ok, wps_ok, w_dct0, a_dct1, wps_bt, a_bt, x_parM, w_evT, w_evF, a_alT, a_alN, a_stl, k_pm1, k_pm2, tB, oK_some, a_at, a_atB, a_atD, a_opb, a_opa, a_cmb, a_cma, a_ixb, a_ixa, a_neg, a_chT, a_chF, a_cha2, a_cha, a_brAT, a_brAF, a_brOT, a_brOF, a_brIT, a_brIF, a_brST, a_brSF, a_and, a_or, a_not, a_ite, a_if, a_prim, a_isi, a_set, a_slb, a_o, a_src, a_rng, a_bo0, a_bo1, a_brCT, a_brCF, a_cond, a_sid, a_sic, a_sib, a_mea, a_meb, a_mec, b_add, b_sub, c_lt, c_le, c_gt, c_ge, c_eqI, c_neI, c_eqS, c_neS, c_isB, c_isnotB, p_lenL, p_lenT, p_int, p_max, p_min, p_tupL, p_lstT, p_lstL, i_l, i_t, at0, at1, at2, t_bool, s_l, s_t, bp_nm, bp_tp, bps0, bps1, sr_l, sr_t, sr_n, startE, wipe, List.map_cons, List.map_nil, List.length_cons, List.length_nil, List.replicate, List.cons_append, List.nil_append, List.append_nil, Nat.reduceAdd, Nat.reduceSub, Nat.reduceMul, List.getElem?_cons_zero, List.getElem?_cons_succ, List.getElem?_nil, List.set_cons_zero, List.set_cons_succ, List.mapM_cons, List.mapM_nil, Option.pure_def, Option.bind_eq_bind, Option.bind_some, Bool.not_true, Bool.not_false]
      rw [compL_mapD (h := fun y => match y with | .tuple [.int f, .int _] => .tuple [.int f, .int last] | _ => .none) (fun y hy ko => by
        obtain ⟨f, e, rfl, _⟩ := hpts0 y hy
        simp only [w_var, a_var, w_con, w_glo, w_op, k_op1, k_op2, w_neg, k_neg, w_cmp, k_cm1, k_cm2, w_chain, k_ch1, k_ch2, w_and, k_and, w_or, k_or, w_not, k_not, w_ite, k_ite, w_tup, k_tup, w_lst, k_lst, w_call, k_call, w_prim, k_prim, w_isi, k_isi, w_ix, k_ix1, k_ix2, w_ts0, w_ts, k_ts1, k_ts2, w_ds0, w_ds, k_ds1d, k_ds1n, k_ds2, x_nil, x_cons, x_set, k_set, x_setM, k_setMt, k_setMn, x_expr, k_expr, x_ret, k_ret, x_retN, x_pass, x_ife, k_if, x_for, k_for, k_finN, k_finD, k_finL, st_t, st_n, rd_d, rd_ref, w_sl, k_sl, k_sl1, k_sl2, w_o0, w_o_var, w_o_con, w_o_op, k_o, w_it_var, w_it_con, w_it_ix, w_it_lst, w_it_tup, w_it_call, w_it_prim, w_it_sl, w_it_op, w_it_comp, w_it_ite, k_src, w_rng, k_rng, w_comp, k_comp, k_eltD, k_eltN, k_cond, body0, body1, x_setI, k_si1, k_si2, k_si3, w_meth, k_me1, k_me2, nxt_next, nxt_ret, nxt_brk, nxt_cont, wp_ok, wps_ok, w_dct0, a_dct1, wps_bt, a_bt, x_parM, w_evT, w_evF, a_alT, a_alN, a_stl, k_pm1, k_pm2, tB, oK_some, a_at, a_atB, a_atD, a_opb, a_opa, a_cmb, a_cma, a_ixb, a_ixa, a_neg, a_chT, a_chF, a_cha2, a_cha, a_brAT, a_brAF, a_brOT, a_brOF, a_brIT, a_brIF, a_brST, a_brSF, a_and, a_or, a_not, a_ite, a_if, a_prim, a_isi, a_set, a_slb, a_o, a_src, a_rng, a_bo0, a_bo1, a_brCT, a_brCF, a_cond, a_sid, a_sic, a_sib, a_mea, a_meb, a_mec, b_add, b_sub, c_lt, c_le, c_gt, c_ge, c_eqI, c_neI, c_eqS, c_neS, c_isB, c_isnotB, p_lenL, p_lenT, p_int, p_max, p_min, p_tupL, p_lstT, p_lstL, i_l, i_t, at0, at1, at2, t_bool, s_l, s_t, bp_nm, bp_tp, bps0, bps1, sr_l, sr_t, sr_n, startE, wipe, List.map_cons, List.map_nil, List.length_cons, List.length_nil, List.replicate, List.cons_append, List.nil_append, List.append_nil, Nat.reduceAdd, Nat.reduceSub, Nat.reduceMul, List.getElem?_cons_zero, List.getElem?_cons_succ, List.getElem?_nil, List.set_cons_zero, List.set_cons_succ, List.mapM_cons, List.mapM_nil, Option.pure_def, Option.bind_eq_bind, Option.bind_some, Bool.not_true, Bool.not_false])]
      simp only [k_lst, k_set, st_n, bp_nm, oK_some, a_set, nxt_next, x_nil, List.set_cons_zero, List.set_cons_succ]
      refine rest _ (fun y hy => ?_) (by rw [List.length_map]; exact hlen0) _ _ _ _
      obtain ⟨z, hz, rfl⟩ := List.mem_map.mp hy
      obtain ⟨f, e, rfl, f0, f1, f2⟩ := hpts0 z hz
      exact ⟨f, last, rfl, f0, by omega, Int.le_refl _⟩
end
end Lw


namespace Lw
open MP
open PySem (PyData)
/-- what can be shown, how big it is -/
structure Sho (b d : Nat) (x : D) : Prop where
  s : x.showable = true
  l : x.leavesShort 64 = true
  bk : x.bulk ≤ b
  dp : x.depth ≤ d
  nd : x.hasDict = false
structure ShoA (b d : Nat) (xs : List D) : Prop where
  s : PyData.showableAll xs = true
  l : PyData.leavesShortAll 64 xs = true
  bk : PyData.bulkAll xs ≤ b
  dp : PyData.depthAll xs ≤ d
  nd : PyData.hasDictAll xs = false
theorem Sho.mono {b d b' d' : Nat} {x : D} (h : Sho b d x) (h1 : b ≤ b') (h2 : d ≤ d') : Sho b' d' x := ⟨h.s, h.l, Nat.le_trans h.bk h1, Nat.le_trans h.dp h2, h.nd⟩
theorem ShoA.mono {b d b' d' : Nat} {x : List D} (h : ShoA b d x) (h1 : b ≤ b') (h2 : d ≤ d') : ShoA b' d' x := ⟨h.s, h.l, Nat.le_trans h.bk h1, Nat.le_trans h.dp h2, h.nd⟩
theorem sho_none : Sho 0 0 .none := ⟨rfl, rfl, Nat.le_refl _, Nat.le_refl _, rfl⟩
theorem sho_bool {b : Bool} : Sho 0 0 (.bool b) := ⟨rfl, rfl, Nat.le_refl _, Nat.le_refl _, rfl⟩
theorem sho_int {i : Int} (h : i.natAbs < 10 ^ 12) : Sho 0 0 (.int i) := by
  refine ⟨?_, ?_, Nat.le_refl _, Nat.le_refl _, rfl⟩
  · simp only [PyData.showable]
    refine decide_eq_true ?_
    by_cases hz : i.natAbs = 0
    · rw [hz]
      decide
    · exact (Nat.log2_lt hz).mpr (Nat.lt_of_lt_of_le h (by decide +kernel))
  · simp only [PyData.leavesShort]
    exact decide_eq_true (Nat.le_trans (PyData.shown_int_le h) (by decide))
theorem sho_tup {b d : Nat} {xs : List D} (h : ShoA b d xs) : Sho b (d + 1) (.tuple xs) := ⟨by simp only [PyData.showable]; exact h.s, by simp only [PyData.leavesShort]; exact h.l, by simp only [PyData.bulk]; exact h.bk, by simp only [PyData.depth]; exact Nat.succ_le_succ h.dp, by simp only [PyData.hasDict]; exact h.nd⟩
theorem sho_lst {b d : Nat} {xs : List D} (h : ShoA b d xs) : Sho b (d + 1) (.list xs) := ⟨by simp only [PyData.showable]; exact h.s, by simp only [PyData.leavesShort]; exact h.l, by simp only [PyData.bulk]; exact h.bk, by simp only [PyData.depth]; exact Nat.succ_le_succ h.dp, by simp only [PyData.hasDict]; exact h.nd⟩
theorem sho_nil : ShoA 0 0 [] := ⟨rfl, rfl, Nat.le_refl _, Nat.le_refl _, rfl⟩
theorem sho_cons {b d b' d' : Nat} {x : D} {xs : List D} (h : Sho b d x) (t : ShoA b' d' xs) : ShoA (b + 1 + b') (max d d') (x :: xs) := by
  refine ⟨?_, ?_, ?_, ?_, ?_⟩
  · simp only [PyData.showableAll, h.s, t.s, Bool.and_self]
  · simp only [PyData.leavesShortAll, h.l, t.l, Bool.and_self]
  · simp only [PyData.bulkAll]
    have := h.bk
    have := t.bk
    omega
  · simp only [PyData.depthAll]
    have := h.dp
    have := t.dp
    omega
  · simp only [PyData.hasDictAll, h.nd, t.nd, Bool.or_self]
theorem sho_all {b d : Nat} : ∀ {xs : List D} {m : Nat}, (∀ x ∈ xs, Sho b d x) → xs.length ≤ m → ShoA (m * (b + 1)) d xs
  | [], m, _, _ => sho_nil.mono (Nat.zero_le _) (Nat.zero_le _)
  | x :: xs, 0, _, h => by simp at h
  | x :: xs, m + 1, hx, h => by
    have t := sho_all (xs := xs) (m := m) (fun y hy => hx y (List.mem_cons_of_mem _ hy)) (by simpa using h)
    refine (sho_cons (hx x List.mem_cons_self) t).mono ?_ (by omega)
    rw [Nat.succ_mul]
    omega
theorem repr_ok {b d : Nat} {x : D} (h : Sho b d x) (hb : b ≤ 10000) (hd : d ≤ 60) : reprOk x = true := by
  unfold reprOk
  have h1 := h.bk
  have h2 := h.dp
  have h3 := PyData.shown_le_bulk 64 (by decide) x h.l
  have e1 : decide (x.depth ≤ 60) = true := decide_eq_true (by omega)
  have e2 : decide (x.shown.length ≤ big) = true := decide_eq_true (by show _ ≤ 16777216; omega)
  rw [h.s, e1, e2, h.nd]
  rfl
/-- an item of a row -/
abbrev Ite (x : D) : Prop := Sho 10 3 x
theorem all_nil {P : D → Prop} : ∀ y ∈ ([] : List D), P y := fun _ h => by cases h
theorem all_cons {P : D → Prop} {x : D} {xs : List D} (h : P x) (t : ∀ y ∈ xs, P y) : ∀ y ∈ x :: xs, P y := fun y hy => by
  rcases List.mem_cons.mp hy with rfl | hy
  · exact h
  · exact t y hy
theorem all_app {P : D → Prop} {xs ys : List D} (h : ∀ y ∈ xs, P y) (t : ∀ y ∈ ys, P y) : ∀ y ∈ xs ++ ys, P y := fun y hy => (List.mem_append.mp hy).elim (h y) (t y)
theorem mem_all (p : D → Bool) {xs : List D} (h : xs.all p = true) {x : D} (hx : x ∈ xs) : p x = true := List.all_eq_true.mp h x hx
theorem sho_str {x : PySem.Str} (h : (x.cps.toList.all fun c => decide (c < 16 ^ 8)) = true) : Sho x.cps.size 0 (.str x) := ⟨rfl, by simp only [PyData.leavesShort]; exact h, Nat.le_refl _, Nat.le_refl _, rfl⟩
theorem sho_big {n : Nat} (h : (PyData.int (10 ^ n)).showable = true) (h2 : (PyData.int (10 ^ n)).leavesShort 64 = true) : Sho 0 0 (.int (10 ^ n)) := ⟨h, h2, Nat.le_refl _, Nat.le_refl _, rfl⟩
theorem pt_ite {last : Int} {x : D} (hl : last ≤ 100) (h : Pt last x) : Ite x := by
  obtain ⟨f, e, rfl, h1, h2, h3⟩ := h
  (apply Sho.mono; (focus (repeat' (first | exact sho_none | exact sho_bool | (refine sho_int ?_; omega; done) | exact sho_str (by decide +kernel) | exact sho_nil | apply sho_cons | apply sho_tup | apply sho_lst))); all_goals decide +kernel)
theorem ti_ite {x : D} (h : Ti x) : Ite x := by
  obtain ⟨i, j, f, e, rfl, h1, h2, h3, h4⟩ := h
  (apply Sho.mono; (focus (repeat' (first | exact sho_none | exact sho_bool | (refine sho_int ?_; omega; done) | exact sho_str (by decide +kernel) | exact sho_nil | apply sho_cons | apply sho_tup | apply sho_lst))); all_goals decide +kernel)
/-- a row of items, a thing that is no net -/
theorem row_tup {xs : List D} (h : ∀ x ∈ xs, Ite x) (hl : xs.length ≤ 60) : Sho 660 4 (.tuple xs) := sho_tup (sho_all h hl)
theorem row_lst {xs : List D} (h : ∀ x ∈ xs, Ite x) (hl : xs.length ≤ 60) : Sho 660 4 (.list xs) := sho_lst (sho_all h hl)
def Thing (x : D) : Prop := reprOk x = true
theorem thing3 {a b c : D} (ha : Sho 660 4 a) (hb : Sho 660 4 b) (hc : Sho 660 4 c) : Thing (.tuple [a, b, c]) := repr_ok (sho_tup (sho_cons ha (sho_cons hb (sho_cons hc sho_nil)))) (by decide) (by decide)
/-- a net whose points may be odd -/
def Nb (x : D) : Prop := ∃ (last : Int) (pts ts : List D), x = .tuple [.int last, .tuple pts, .tuple ts] ∧ 0 ≤ last ∧ last ≤ 9 ∧ pts.length ≤ 13 ∧ (∀ y ∈ pts, Ite y) ∧ ts.length ≤ 7 ∧ ∀ y ∈ ts, Ti y
theorem Nt.nb {x : D} (h : Nt x) : Nb x := by
  obtain ⟨last, pts, ts, e, h1, h2, h3, h4, h5, h6⟩ := h
  exact ⟨last, pts, ts, e, h1, h2, by omega, fun y hy => pt_ite (by omega) (h4 y hy), h5, h6⟩
theorem Nb.thing {x : D} (h : Nb x) : Thing x := by
  obtain ⟨last, pts, ts, rfl, h1, h2, h3, h4, h5, h6⟩ := h
  exact thing3 ((sho_int (by omega)).mono (by decide) (by decide)) (row_tup h4 (by omega)) (row_tup (fun y hy => ti_ite (h6 y hy)) (by omega))
section
variable {n wf : Nat} {st : Store} {c : Nat} {k : KR}
theorem put {row : List D} {at_ : Int} {x : D} (hl : row.length ≤ 1000) : (callN tbl wf (n + 1) 18 [.d (.tuple row), .d (.int at_), .d x] st).wp k = k (.t (.d (.tuple (cutD row none (some at_) ++ [x] ++ cutD row (some (at_ + 1)) none)))) st := by
  have l1 := cut_len (xs := row) (a := none) (b := some at_)
  have l2 := cut_len (xs := row) (a := some (at_ + 1)) (b := none)
  rw [wp_callN (d := d__law_put) rfl rfl]
  unfold d__law_put
  simp only [w_var, a_var, w_con, w_glo, w_op, k_op1, k_op2, w_neg, k_neg, w_cmp, k_cm1, k_cm2, w_chain, k_ch1, k_ch2, w_and, k_and, w_or, k_or, w_not, k_not, w_ite, k_ite, w_tup, k_tup, w_lst, k_lst, w_call, k_call, w_prim, k_prim, w_isi, k_isi, w_ix, k_ix1, k_ix2, w_ts0, w_ts, k_ts1, k_ts2, w_ds0, w_ds, k_ds1d, k_ds1n, k_ds2, x_nil, x_cons, x_set, k_set, x_setM, k_setMt, k_setMn, x_expr, k_expr, x_ret, k_ret, x_retN, x_pass, x_ife, k_if, x_for, k_for, k_finN, k_finD, k_finL, st_t, st_n, rd_d, rd_ref, w_sl, k_sl, k_sl1, k_sl2, w_o0, w_o_var, w_o_con, w_o_op, k_o, w_it_var, w_it_con, w_it_ix, w_it_lst, w_it_tup, w_it_call, w_it_prim, w_it_sl, w_it_op, w_it_comp, w_it_ite, k_src, w_rng, k_rng, w_comp, k_comp, k_eltD, k_eltN, k_cond, body0, body1, x_setI, k_si1, k_si2, k_si3, w_meth, k_me1, k_me2, nxt_next, nxt_ret, nxt_brk, nxt_cont, wp_ok, wps_ok, w_dct0, a_dct1, wps_bt, a_bt, x_parM, w_evT, w_evF, a_alT, a_alN, a_stl, k_pm1, k_pm2, tB, oK_some, a_at, a_atB, a_atD, a_opb, a_opa, a_cmb, a_cma, a_ixb, a_ixa, a_neg, a_chT, a_chF, a_cha2, a_cha, a_brAT, a_brAF, a_brOT, a_brOF, a_brIT, a_brIF, a_brST, a_brSF, a_and, a_or, a_not, a_ite, a_if, a_prim, a_isi, a_set, a_slb, a_o, a_src, a_rng, a_bo0, a_bo1, a_brCT, a_brCF, a_cond, a_sid, a_sic, a_sib, a_mea, a_meb, a_mec, b_add, b_sub, c_lt, c_le, c_gt, c_ge, c_eqI, c_neI, c_eqS, c_neS, c_isB, c_isnotB, p_lenL, p_lenT, p_int, p_max, p_min, p_tupL, p_lstT, p_lstL, i_l, i_t, at0, at1, at2, t_bool, s_l, s_t, bp_nm, bp_tp, bps0, bps1, sr_l, sr_t, sr_n, startE, wipe, List.map_cons, List.map_nil, List.length_cons, List.length_nil, List.replicate, List.cons_append, List.nil_append, List.append_nil, Nat.reduceAdd, Nat.reduceSub, Nat.reduceMul, List.getElem?_cons_zero, List.getElem?_cons_succ, List.getElem?_nil, List.set_cons_zero, List.set_cons_succ, List.mapM_cons, List.mapM_nil, Option.pure_def, Option.bind_eq_bind, Option.bind_some, Bool.not_true, Bool.not_false]
  rw [b_addT (by simp only [List.length_cons, List.length_nil]; show _ ≤ 16777216; omega)]
  simp only [w_var, a_var, w_con, w_glo, w_op, k_op1, k_op2, w_neg, k_neg, w_cmp, k_cm1, k_cm2, w_chain, k_ch1, k_ch2, w_and, k_and, w_or, k_or, w_not, k_not, w_ite, k_ite, w_tup, k_tup, w_lst, k_lst, w_call, k_call, w_prim, k_prim, w_isi, k_isi, w_ix, k_ix1, k_ix2, w_ts0, w_ts, k_ts1, k_ts2, w_ds0, w_ds, k_ds1d, k_ds1n, k_ds2, x_nil, x_cons, x_set, k_set, x_setM, k_setMt, k_setMn, x_expr, k_expr, x_ret, k_ret, x_retN, x_pass, x_ife, k_if, x_for, k_for, k_finN, k_finD, k_finL, st_t, st_n, rd_d, rd_ref, w_sl, k_sl, k_sl1, k_sl2, w_o0, w_o_var, w_o_con, w_o_op, k_o, w_it_var, w_it_con, w_it_ix, w_it_lst, w_it_tup, w_it_call, w_it_prim, w_it_sl, w_it_op, w_it_comp, w_it_ite, k_src, w_rng, k_rng, w_comp, k_comp, k_eltD, k_eltN, k_cond, body0, body1, x_setI, k_si1, k_si2, k_si3, w_meth, k_me1, k_me2, nxt_next, nxt_ret, nxt_brk, nxt_cont, wp_ok, wps_ok, w_dct0, a_dct1, wps_bt, a_bt, x_parM, w_evT, w_evF, a_alT, a_alN, a_stl, k_pm1, k_pm2, tB, oK_some, a_at, a_atB, a_atD, a_opb, a_opa, a_cmb, a_cma, a_ixb, a_ixa, a_neg, a_chT, a_chF, a_cha2, a_cha, a_brAT, a_brAF, a_brOT, a_brOF, a_brIT, a_brIF, a_brST, a_brSF, a_and, a_or, a_not, a_ite, a_if, a_prim, a_isi, a_set, a_slb, a_o, a_src, a_rng, a_bo0, a_bo1, a_brCT, a_brCF, a_cond, a_sid, a_sic, a_sib, a_mea, a_meb, a_mec, b_add, b_sub, c_lt, c_le, c_gt, c_ge, c_eqI, c_neI, c_eqS, c_neS, c_isB, c_isnotB, p_lenL, p_lenT, p_int, p_max, p_min, p_tupL, p_lstT, p_lstL, i_l, i_t, at0, at1, at2, t_bool, s_l, s_t, bp_nm, bp_tp, bps0, bps1, sr_l, sr_t, sr_n, startE, wipe, List.map_cons, List.map_nil, List.length_cons, List.length_nil, List.replicate, List.cons_append, List.nil_append, List.append_nil, Nat.reduceAdd, Nat.reduceSub, Nat.reduceMul, List.getElem?_cons_zero, List.getElem?_cons_succ, List.getElem?_nil, List.set_cons_zero, List.set_cons_succ, List.mapM_cons, List.mapM_nil, Option.pure_def, Option.bind_eq_bind, Option.bind_some, Bool.not_true, Bool.not_false]
  rw [b_addT (by simp only [List.length_append, List.length_cons, List.length_nil]; show _ ≤ 16777216; omega)]
  simp only [w_var, a_var, w_con, w_glo, w_op, k_op1, k_op2, w_neg, k_neg, w_cmp, k_cm1, k_cm2, w_chain, k_ch1, k_ch2, w_and, k_and, w_or, k_or, w_not, k_not, w_ite, k_ite, w_tup, k_tup, w_lst, k_lst, w_call, k_call, w_prim, k_prim, w_isi, k_isi, w_ix, k_ix1, k_ix2, w_ts0, w_ts, k_ts1, k_ts2, w_ds0, w_ds, k_ds1d, k_ds1n, k_ds2, x_nil, x_cons, x_set, k_set, x_setM, k_setMt, k_setMn, x_expr, k_expr, x_ret, k_ret, x_retN, x_pass, x_ife, k_if, x_for, k_for, k_finN, k_finD, k_finL, st_t, st_n, rd_d, rd_ref, w_sl, k_sl, k_sl1, k_sl2, w_o0, w_o_var, w_o_con, w_o_op, k_o, w_it_var, w_it_con, w_it_ix, w_it_lst, w_it_tup, w_it_call, w_it_prim, w_it_sl, w_it_op, w_it_comp, w_it_ite, k_src, w_rng, k_rng, w_comp, k_comp, k_eltD, k_eltN, k_cond, body0, body1, x_setI, k_si1, k_si2, k_si3, w_meth, k_me1, k_me2, nxt_next, nxt_ret, nxt_brk, nxt_cont, wp_ok, wps_ok, w_dct0, a_dct1, wps_bt, a_bt, x_parM, w_evT, w_evF, a_alT, a_alN, a_stl, k_pm1, k_pm2, tB, oK_some, a_at, a_atB, a_atD, a_opb, a_opa, a_cmb, a_cma, a_ixb, a_ixa, a_neg, a_chT, a_chF, a_cha2, a_cha, a_brAT, a_brAF, a_brOT, a_brOF, a_brIT, a_brIF, a_brST, a_brSF, a_and, a_or, a_not, a_ite, a_if, a_prim, a_isi, a_set, a_slb, a_o, a_src, a_rng, a_bo0, a_bo1, a_brCT, a_brCF, a_cond, a_sid, a_sic, a_sib, a_mea, a_meb, a_mec, b_add, b_sub, c_lt, c_le, c_gt, c_ge, c_eqI, c_neI, c_eqS, c_neS, c_isB, c_isnotB, p_lenL, p_lenT, p_int, p_max, p_min, p_tupL, p_lstT, p_lstL, i_l, i_t, at0, at1, at2, t_bool, s_l, s_t, bp_nm, bp_tp, bps0, bps1, sr_l, sr_t, sr_n, startE, wipe, List.map_cons, List.map_nil, List.length_cons, List.length_nil, List.replicate, List.cons_append, List.nil_append, List.append_nil, Nat.reduceAdd, Nat.reduceSub, Nat.reduceMul, List.getElem?_cons_zero, List.getElem?_cons_succ, List.getElem?_nil, List.set_cons_zero, List.set_cons_succ, List.mapM_cons, List.mapM_nil, Option.pure_def, Option.bind_eq_bind, Option.bind_some, Bool.not_true, Bool.not_false, List.take_length]
theorem cut_put {row : List D} {a : Int} {x : D} (h0 : 0 ≤ a) : (cutD row none (some a) ++ [x] ++ cutD row (some (a + 1)) none).length ≤ row.length + 1 := by
  simp only [List.length_append, List.length_cons, List.length_nil]
  unfold cutD
  simp only [List.length_take, List.length_drop, sIx]
  rw [if_neg (by omega), if_neg (by omega)]
  omega
theorem odd (h : Sr st c) : (callN tbl wf (n + 3) 12 [.ref c] st).wp fun v st' => (∃ x, v = .t (.d x) ∧ Thing x) ∧ Sm c st st' := by
  rw [wp_callN (d := d__law_odd) rfl rfl]
  unfold d__law_odd
  simp only [w_var, a_var, w_con, w_glo, w_op, k_op1, k_op2, w_neg, k_neg, w_cmp, k_cm1, k_cm2, w_chain, k_ch1, k_ch2, w_and, k_and, w_or, k_or, w_not, k_not, w_ite, k_ite, w_tup, k_tup, w_lst, k_lst, w_call, k_call, w_prim, k_prim, w_isi, k_isi, w_ix, k_ix1, k_ix2, w_ts0, w_ts, k_ts1, k_ts2, w_ds0, w_ds, k_ds1d, k_ds1n, k_ds2, x_nil, x_cons, x_set, k_set, x_setM, k_setMt, k_setMn, x_expr, k_expr, x_ret, k_ret, x_retN, x_pass, x_ife, k_if, x_for, k_for, k_finN, k_finD, k_finL, st_t, st_n, rd_d, rd_ref, w_sl, k_sl, k_sl1, k_sl2, w_o0, w_o_var, w_o_con, w_o_op, k_o, w_it_var, w_it_con, w_it_ix, w_it_lst, w_it_tup, w_it_call, w_it_prim, w_it_sl, w_it_op, w_it_comp, w_it_ite, k_src, w_rng, k_rng, w_comp, k_comp, k_eltD, k_eltN, k_cond, body0, body1, x_setI, k_si1, k_si2, k_si3, w_meth, k_me1, k_me2, nxt_next, nxt_ret, nxt_brk, nxt_cont, wp_ok, wps_ok, w_dct0, a_dct1, wps_bt, a_bt, x_parM, w_evT, w_evF, a_alT, a_alN, a_stl, k_pm1, k_pm2, tB, oK_some, a_at, a_atB, a_atD, a_opb, a_opa, a_cmb, a_cma, a_ixb, a_ixa, a_neg, a_chT, a_chF, a_cha2, a_cha, a_brAT, a_brAF, a_brOT, a_brOF, a_brIT, a_brIF, a_brST, a_brSF, a_and, a_or, a_not, a_ite, a_if, a_prim, a_isi, a_set, a_slb, a_o, a_src, a_rng, a_bo0, a_bo1, a_brCT, a_brCF, a_cond, a_sid, a_sic, a_sib, a_mea, a_meb, a_mec, b_add, b_sub, c_lt, c_le, c_gt, c_ge, c_eqI, c_neI, c_eqS, c_neS, c_isB, c_isnotB, p_lenL, p_lenT, p_int, p_max, p_min, p_tupL, p_lstT, p_lstL, i_l, i_t, at0, at1, at2, t_bool, s_l, s_t, bp_nm, bp_tp, bps0, bps1, sr_l, sr_t, sr_n, startE, wipe, List.map_cons, List.map_nil, List.length_cons, List.length_nil, List.replicate, List.cons_append, List.nil_append, List.append_nil, Nat.reduceAdd, Nat.reduceSub, Nat.reduceMul, List.getElem?_cons_zero, List.getElem?_cons_succ, List.getElem?_nil, List.set_cons_zero, List.set_cons_succ, List.mapM_cons, List.mapM_nil, Option.pure_def, Option.bind_eq_bind, Option.bind_some, Bool.not_true, Bool.not_false, b_pow (show powOk 10 40 = true by decide +kernel)]
  rw [b_addL (by decide)]
  simp only [w_var, a_var, w_con, w_glo, w_op, k_op1, k_op2, w_neg, k_neg, w_cmp, k_cm1, k_cm2, w_chain, k_ch1, k_ch2, w_and, k_and, w_or, k_or, w_not, k_not, w_ite, k_ite, w_tup, k_tup, w_lst, k_lst, w_call, k_call, w_prim, k_prim, w_isi, k_isi, w_ix, k_ix1, k_ix2, w_ts0, w_ts, k_ts1, k_ts2, w_ds0, w_ds, k_ds1d, k_ds1n, k_ds2, x_nil, x_cons, x_set, k_set, x_setM, k_setMt, k_setMn, x_expr, k_expr, x_ret, k_ret, x_retN, x_pass, x_ife, k_if, x_for, k_for, k_finN, k_finD, k_finL, st_t, st_n, rd_d, rd_ref, w_sl, k_sl, k_sl1, k_sl2, w_o0, w_o_var, w_o_con, w_o_op, k_o, w_it_var, w_it_con, w_it_ix, w_it_lst, w_it_tup, w_it_call, w_it_prim, w_it_sl, w_it_op, w_it_comp, w_it_ite, k_src, w_rng, k_rng, w_comp, k_comp, k_eltD, k_eltN, k_cond, body0, body1, x_setI, k_si1, k_si2, k_si3, w_meth, k_me1, k_me2, nxt_next, nxt_ret, nxt_brk, nxt_cont, wp_ok, wps_ok, w_dct0, a_dct1, wps_bt, a_bt, x_parM, w_evT, w_evF, a_alT, a_alN, a_stl, k_pm1, k_pm2, tB, oK_some, a_at, a_atB, a_atD, a_opb, a_opa, a_cmb, a_cma, a_ixb, a_ixa, a_neg, a_chT, a_chF, a_cha2, a_cha, a_brAT, a_brAF, a_brOT, a_brOF, a_brIT, a_brIF, a_brST, a_brSF, a_and, a_or, a_not, a_ite, a_if, a_prim, a_isi, a_set, a_slb, a_o, a_src, a_rng, a_bo0, a_bo1, a_brCT, a_brCF, a_cond, a_sid, a_sic, a_sib, a_mea, a_meb, a_mec, b_add, b_sub, c_lt, c_le, c_gt, c_ge, c_eqI, c_neI, c_eqS, c_neS, c_isB, c_isnotB, p_lenL, p_lenT, p_int, p_max, p_min, p_tupL, p_lstT, p_lstL, i_l, i_t, at0, at1, at2, t_bool, s_l, s_t, bp_nm, bp_tp, bps0, bps1, sr_l, sr_t, sr_n, startE, wipe, List.map_cons, List.map_nil, List.length_cons, List.length_nil, List.replicate, List.cons_append, List.nil_append, List.append_nil, Nat.reduceAdd, Nat.reduceSub, Nat.reduceMul, List.getElem?_cons_zero, List.getElem?_cons_succ, List.getElem?_nil, List.set_cons_zero, List.set_cons_succ, List.mapM_cons, List.mapM_nil, Option.pure_def, Option.bind_eq_bind, Option.bind_some, Bool.not_true, Bool.not_false]
  refine (pick h (by simp) (by decide)).mono ?_
  rintro v s1 ⟨⟨x, hx, rfl⟩, k1⟩
  simp only [w_var, a_var, w_con, w_glo, w_op, k_op1, k_op2, w_neg, k_neg, w_cmp, k_cm1, k_cm2, w_chain, k_ch1, k_ch2, w_and, k_and, w_or, k_or, w_not, k_not, w_ite, k_ite, w_tup, k_tup, w_lst, k_lst, w_call, k_call, w_prim, k_prim, w_isi, k_isi, w_ix, k_ix1, k_ix2, w_ts0, w_ts, k_ts1, k_ts2, w_ds0, w_ds, k_ds1d, k_ds1n, k_ds2, x_nil, x_cons, x_set, k_set, x_setM, k_setMt, k_setMn, x_expr, k_expr, x_ret, k_ret, x_retN, x_pass, x_ife, k_if, x_for, k_for, k_finN, k_finD, k_finL, st_t, st_n, rd_d, rd_ref, w_sl, k_sl, k_sl1, k_sl2, w_o0, w_o_var, w_o_con, w_o_op, k_o, w_it_var, w_it_con, w_it_ix, w_it_lst, w_it_tup, w_it_call, w_it_prim, w_it_sl, w_it_op, w_it_comp, w_it_ite, k_src, w_rng, k_rng, w_comp, k_comp, k_eltD, k_eltN, k_cond, body0, body1, x_setI, k_si1, k_si2, k_si3, w_meth, k_me1, k_me2, nxt_next, nxt_ret, nxt_brk, nxt_cont, wp_ok, wps_ok, w_dct0, a_dct1, wps_bt, a_bt, x_parM, w_evT, w_evF, a_alT, a_alN, a_stl, k_pm1, k_pm2, tB, oK_some, a_at, a_atB, a_atD, a_opb, a_opa, a_cmb, a_cma, a_ixb, a_ixa, a_neg, a_chT, a_chF, a_cha2, a_cha, a_brAT, a_brAF, a_brOT, a_brOF, a_brIT, a_brIF, a_brST, a_brSF, a_and, a_or, a_not, a_ite, a_if, a_prim, a_isi, a_set, a_slb, a_o, a_src, a_rng, a_bo0, a_bo1, a_brCT, a_brCF, a_cond, a_sid, a_sic, a_sib, a_mea, a_meb, a_mec, b_add, b_sub, c_lt, c_le, c_gt, c_ge, c_eqI, c_neI, c_eqS, c_neS, c_isB, c_isnotB, p_lenL, p_lenT, p_int, p_max, p_min, p_tupL, p_lstT, p_lstL, i_l, i_t, at0, at1, at2, t_bool, s_l, s_t, bp_nm, bp_tp, bps0, bps1, sr_l, sr_t, sr_n, startE, wipe, List.map_cons, List.map_nil, List.length_cons, List.length_nil, List.replicate, List.cons_append, List.nil_append, List.append_nil, Nat.reduceAdd, Nat.reduceSub, Nat.reduceMul, List.getElem?_cons_zero, List.getElem?_cons_succ, List.getElem?_nil, List.set_cons_zero, List.set_cons_succ, List.mapM_cons, List.mapM_nil, Option.pure_def, Option.bind_eq_bind, Option.bind_some, Bool.not_true, Bool.not_false]
  rw [take_len k1.1]
  refine ⟨⟨x, rfl, ?_⟩, k1⟩
  exact mem_all reprOk (by decide +kernel) hx
theorem odd_net (h : Sr st c) : (callN tbl wf (n + 3) 13 [.ref c] st).wp fun v st' => (∃ x, v = .t (.d x) ∧ isNet x = false) ∧ Sm c st st' := by
  rw [wp_callN (d := d__law_odd_net) rfl rfl]
  unfold d__law_odd_net
  simp only [w_var, a_var, w_con, w_glo, w_op, k_op1, k_op2, w_neg, k_neg, w_cmp, k_cm1, k_cm2, w_chain, k_ch1, k_ch2, w_and, k_and, w_or, k_or, w_not, k_not, w_ite, k_ite, w_tup, k_tup, w_lst, k_lst, w_call, k_call, w_prim, k_prim, w_isi, k_isi, w_ix, k_ix1, k_ix2, w_ts0, w_ts, k_ts1, k_ts2, w_ds0, w_ds, k_ds1d, k_ds1n, k_ds2, x_nil, x_cons, x_set, k_set, x_setM, k_setMt, k_setMn, x_expr, k_expr, x_ret, k_ret, x_retN, x_pass, x_ife, k_if, x_for, k_for, k_finN, k_finD, k_finL, st_t, st_n, rd_d, rd_ref, w_sl, k_sl, k_sl1, k_sl2, w_o0, w_o_var, w_o_con, w_o_op, k_o, w_it_var, w_it_con, w_it_ix, w_it_lst, w_it_tup, w_it_call, w_it_prim, w_it_sl, w_it_op, w_it_comp, w_it_ite, k_src, w_rng, k_rng, w_comp, k_comp, k_eltD, k_eltN, k_cond, body0, body1, x_setI, k_si1, k_si2, k_si3, w_meth, k_me1, k_me2, nxt_next, nxt_ret, nxt_brk, nxt_cont, wp_ok, wps_ok, w_dct0, a_dct1, wps_bt, a_bt, x_parM, w_evT, w_evF, a_alT, a_alN, a_stl, k_pm1, k_pm2, tB, oK_some, a_at, a_atB, a_atD, a_opb, a_opa, a_cmb, a_cma, a_ixb, a_ixa, a_neg, a_chT, a_chF, a_cha2, a_cha, a_brAT, a_brAF, a_brOT, a_brOF, a_brIT, a_brIF, a_brST, a_brSF, a_and, a_or, a_not, a_ite, a_if, a_prim, a_isi, a_set, a_slb, a_o, a_src, a_rng, a_bo0, a_bo1, a_brCT, a_brCF, a_cond, a_sid, a_sic, a_sib, a_mea, a_meb, a_mec, b_add, b_sub, c_lt, c_le, c_gt, c_ge, c_eqI, c_neI, c_eqS, c_neS, c_isB, c_isnotB, p_lenL, p_lenT, p_int, p_max, p_min, p_tupL, p_lstT, p_lstL, i_l, i_t, at0, at1, at2, t_bool, s_l, s_t, bp_nm, bp_tp, bps0, bps1, sr_l, sr_t, sr_n, startE, wipe, List.map_cons, List.map_nil, List.length_cons, List.length_nil, List.replicate, List.cons_append, List.nil_append, List.append_nil, Nat.reduceAdd, Nat.reduceSub, Nat.reduceMul, List.getElem?_cons_zero, List.getElem?_cons_succ, List.getElem?_nil, List.set_cons_zero, List.set_cons_succ, List.mapM_cons, List.mapM_nil, Option.pure_def, Option.bind_eq_bind, Option.bind_some, Bool.not_true, Bool.not_false]
  rw [b_mulT (by decide)]
  simp only [w_var, a_var, w_con, w_glo, w_op, k_op1, k_op2, w_neg, k_neg, w_cmp, k_cm1, k_cm2, w_chain, k_ch1, k_ch2, w_and, k_and, w_or, k_or, w_not, k_not, w_ite, k_ite, w_tup, k_tup, w_lst, k_lst, w_call, k_call, w_prim, k_prim, w_isi, k_isi, w_ix, k_ix1, k_ix2, w_ts0, w_ts, k_ts1, k_ts2, w_ds0, w_ds, k_ds1d, k_ds1n, k_ds2, x_nil, x_cons, x_set, k_set, x_setM, k_setMt, k_setMn, x_expr, k_expr, x_ret, k_ret, x_retN, x_pass, x_ife, k_if, x_for, k_for, k_finN, k_finD, k_finL, st_t, st_n, rd_d, rd_ref, w_sl, k_sl, k_sl1, k_sl2, w_o0, w_o_var, w_o_con, w_o_op, k_o, w_it_var, w_it_con, w_it_ix, w_it_lst, w_it_tup, w_it_call, w_it_prim, w_it_sl, w_it_op, w_it_comp, w_it_ite, k_src, w_rng, k_rng, w_comp, k_comp, k_eltD, k_eltN, k_cond, body0, body1, x_setI, k_si1, k_si2, k_si3, w_meth, k_me1, k_me2, nxt_next, nxt_ret, nxt_brk, nxt_cont, wp_ok, wps_ok, w_dct0, a_dct1, wps_bt, a_bt, x_parM, w_evT, w_evF, a_alT, a_alN, a_stl, k_pm1, k_pm2, tB, oK_some, a_at, a_atB, a_atD, a_opb, a_opa, a_cmb, a_cma, a_ixb, a_ixa, a_neg, a_chT, a_chF, a_cha2, a_cha, a_brAT, a_brAF, a_brOT, a_brOF, a_brIT, a_brIF, a_brST, a_brSF, a_and, a_or, a_not, a_ite, a_if, a_prim, a_isi, a_set, a_slb, a_o, a_src, a_rng, a_bo0, a_bo1, a_brCT, a_brCF, a_cond, a_sid, a_sic, a_sib, a_mea, a_meb, a_mec, b_add, b_sub, c_lt, c_le, c_gt, c_ge, c_eqI, c_neI, c_eqS, c_neS, c_isB, c_isnotB, p_lenL, p_lenT, p_int, p_max, p_min, p_tupL, p_lstT, p_lstL, i_l, i_t, at0, at1, at2, t_bool, s_l, s_t, bp_nm, bp_tp, bps0, bps1, sr_l, sr_t, sr_n, startE, wipe, List.map_cons, List.map_nil, List.length_cons, List.length_nil, List.replicate, List.cons_append, List.nil_append, List.append_nil, Nat.reduceAdd, Nat.reduceSub, Nat.reduceMul, List.getElem?_cons_zero, List.getElem?_cons_succ, List.getElem?_nil, List.set_cons_zero, List.set_cons_succ, List.mapM_cons, List.mapM_nil, Option.pure_def, Option.bind_eq_bind, Option.bind_some, Bool.not_true, Bool.not_false]
  rw [b_addL (by decide)]
  simp only [w_var, a_var, w_con, w_glo, w_op, k_op1, k_op2, w_neg, k_neg, w_cmp, k_cm1, k_cm2, w_chain, k_ch1, k_ch2, w_and, k_and, w_or, k_or, w_not, k_not, w_ite, k_ite, w_tup, k_tup, w_lst, k_lst, w_call, k_call, w_prim, k_prim, w_isi, k_isi, w_ix, k_ix1, k_ix2, w_ts0, w_ts, k_ts1, k_ts2, w_ds0, w_ds, k_ds1d, k_ds1n, k_ds2, x_nil, x_cons, x_set, k_set, x_setM, k_setMt, k_setMn, x_expr, k_expr, x_ret, k_ret, x_retN, x_pass, x_ife, k_if, x_for, k_for, k_finN, k_finD, k_finL, st_t, st_n, rd_d, rd_ref, w_sl, k_sl, k_sl1, k_sl2, w_o0, w_o_var, w_o_con, w_o_op, k_o, w_it_var, w_it_con, w_it_ix, w_it_lst, w_it_tup, w_it_call, w_it_prim, w_it_sl, w_it_op, w_it_comp, w_it_ite, k_src, w_rng, k_rng, w_comp, k_comp, k_eltD, k_eltN, k_cond, body0, body1, x_setI, k_si1, k_si2, k_si3, w_meth, k_me1, k_me2, nxt_next, nxt_ret, nxt_brk, nxt_cont, wp_ok, wps_ok, w_dct0, a_dct1, wps_bt, a_bt, x_parM, w_evT, w_evF, a_alT, a_alN, a_stl, k_pm1, k_pm2, tB, oK_some, a_at, a_atB, a_atD, a_opb, a_opa, a_cmb, a_cma, a_ixb, a_ixa, a_neg, a_chT, a_chF, a_cha2, a_cha, a_brAT, a_brAF, a_brOT, a_brOF, a_brIT, a_brIF, a_brST, a_brSF, a_and, a_or, a_not, a_ite, a_if, a_prim, a_isi, a_set, a_slb, a_o, a_src, a_rng, a_bo0, a_bo1, a_brCT, a_brCF, a_cond, a_sid, a_sic, a_sib, a_mea, a_meb, a_mec, b_add, b_sub, c_lt, c_le, c_gt, c_ge, c_eqI, c_neI, c_eqS, c_neS, c_isB, c_isnotB, p_lenL, p_lenT, p_int, p_max, p_min, p_tupL, p_lstT, p_lstL, i_l, i_t, at0, at1, at2, t_bool, s_l, s_t, bp_nm, bp_tp, bps0, bps1, sr_l, sr_t, sr_n, startE, wipe, List.map_cons, List.map_nil, List.length_cons, List.length_nil, List.replicate, List.cons_append, List.nil_append, List.append_nil, Nat.reduceAdd, Nat.reduceSub, Nat.reduceMul, List.getElem?_cons_zero, List.getElem?_cons_succ, List.getElem?_nil, List.set_cons_zero, List.set_cons_succ, List.mapM_cons, List.mapM_nil, Option.pure_def, Option.bind_eq_bind, Option.bind_some, Bool.not_true, Bool.not_false]
  rw [b_addL (by decide)]
  simp only [w_var, a_var, w_con, w_glo, w_op, k_op1, k_op2, w_neg, k_neg, w_cmp, k_cm1, k_cm2, w_chain, k_ch1, k_ch2, w_and, k_and, w_or, k_or, w_not, k_not, w_ite, k_ite, w_tup, k_tup, w_lst, k_lst, w_call, k_call, w_prim, k_prim, w_isi, k_isi, w_ix, k_ix1, k_ix2, w_ts0, w_ts, k_ts1, k_ts2, w_ds0, w_ds, k_ds1d, k_ds1n, k_ds2, x_nil, x_cons, x_set, k_set, x_setM, k_setMt, k_setMn, x_expr, k_expr, x_ret, k_ret, x_retN, x_pass, x_ife, k_if, x_for, k_for, k_finN, k_finD, k_finL, st_t, st_n, rd_d, rd_ref, w_sl, k_sl, k_sl1, k_sl2, w_o0, w_o_var, w_o_con, w_o_op, k_o, w_it_var, w_it_con, w_it_ix, w_it_lst, w_it_tup, w_it_call, w_it_prim, w_it_sl, w_it_op, w_it_comp, w_it_ite, k_src, w_rng, k_rng, w_comp, k_comp, k_eltD, k_eltN, k_cond, body0, body1, x_setI, k_si1, k_si2, k_si3, w_meth, k_me1, k_me2, nxt_next, nxt_ret, nxt_brk, nxt_cont, wp_ok, wps_ok, w_dct0, a_dct1, wps_bt, a_bt, x_parM, w_evT, w_evF, a_alT, a_alN, a_stl, k_pm1, k_pm2, tB, oK_some, a_at, a_atB, a_atD, a_opb, a_opa, a_cmb, a_cma, a_ixb, a_ixa, a_neg, a_chT, a_chF, a_cha2, a_cha, a_brAT, a_brAF, a_brOT, a_brOF, a_brIT, a_brIF, a_brST, a_brSF, a_and, a_or, a_not, a_ite, a_if, a_prim, a_isi, a_set, a_slb, a_o, a_src, a_rng, a_bo0, a_bo1, a_brCT, a_brCF, a_cond, a_sid, a_sic, a_sib, a_mea, a_meb, a_mec, b_add, b_sub, c_lt, c_le, c_gt, c_ge, c_eqI, c_neI, c_eqS, c_neS, c_isB, c_isnotB, p_lenL, p_lenT, p_int, p_max, p_min, p_tupL, p_lstT, p_lstL, i_l, i_t, at0, at1, at2, t_bool, s_l, s_t, bp_nm, bp_tp, bps0, bps1, sr_l, sr_t, sr_n, startE, wipe, List.map_cons, List.map_nil, List.length_cons, List.length_nil, List.replicate, List.cons_append, List.nil_append, List.append_nil, Nat.reduceAdd, Nat.reduceSub, Nat.reduceMul, List.getElem?_cons_zero, List.getElem?_cons_succ, List.getElem?_nil, List.set_cons_zero, List.set_cons_succ, List.mapM_cons, List.mapM_nil, Option.pure_def, Option.bind_eq_bind, Option.bind_some, Bool.not_true, Bool.not_false, w_dct1 (show keysOk [.int 0] = true by decide +kernel)]
  rw [b_addL (by decide)]
  simp only [w_var, a_var, w_con, w_glo, w_op, k_op1, k_op2, w_neg, k_neg, w_cmp, k_cm1, k_cm2, w_chain, k_ch1, k_ch2, w_and, k_and, w_or, k_or, w_not, k_not, w_ite, k_ite, w_tup, k_tup, w_lst, k_lst, w_call, k_call, w_prim, k_prim, w_isi, k_isi, w_ix, k_ix1, k_ix2, w_ts0, w_ts, k_ts1, k_ts2, w_ds0, w_ds, k_ds1d, k_ds1n, k_ds2, x_nil, x_cons, x_set, k_set, x_setM, k_setMt, k_setMn, x_expr, k_expr, x_ret, k_ret, x_retN, x_pass, x_ife, k_if, x_for, k_for, k_finN, k_finD, k_finL, st_t, st_n, rd_d, rd_ref, w_sl, k_sl, k_sl1, k_sl2, w_o0, w_o_var, w_o_con, w_o_op, k_o, w_it_var, w_it_con, w_it_ix, w_it_lst, w_it_tup, w_it_call, w_it_prim, w_it_sl, w_it_op, w_it_comp, w_it_ite, k_src, w_rng, k_rng, w_comp, k_comp, k_eltD, k_eltN, k_cond, body0, body1, x_setI, k_si1, k_si2, k_si3, w_meth, k_me1, k_me2, nxt_next, nxt_ret, nxt_brk, nxt_cont, wp_ok, wps_ok, w_dct0, a_dct1, wps_bt, a_bt, x_parM, w_evT, w_evF, a_alT, a_alN, a_stl, k_pm1, k_pm2, tB, oK_some, a_at, a_atB, a_atD, a_opb, a_opa, a_cmb, a_cma, a_ixb, a_ixa, a_neg, a_chT, a_chF, a_cha2, a_cha, a_brAT, a_brAF, a_brOT, a_brOF, a_brIT, a_brIF, a_brST, a_brSF, a_and, a_or, a_not, a_ite, a_if, a_prim, a_isi, a_set, a_slb, a_o, a_src, a_rng, a_bo0, a_bo1, a_brCT, a_brCF, a_cond, a_sid, a_sic, a_sib, a_mea, a_meb, a_mec, b_add, b_sub, c_lt, c_le, c_gt, c_ge, c_eqI, c_neI, c_eqS, c_neS, c_isB, c_isnotB, p_lenL, p_lenT, p_int, p_max, p_min, p_tupL, p_lstT, p_lstL, i_l, i_t, at0, at1, at2, t_bool, s_l, s_t, bp_nm, bp_tp, bps0, bps1, sr_l, sr_t, sr_n, startE, wipe, List.map_cons, List.map_nil, List.length_cons, List.length_nil, List.replicate, List.cons_append, List.nil_append, List.append_nil, Nat.reduceAdd, Nat.reduceSub, Nat.reduceMul, List.getElem?_cons_zero, List.getElem?_cons_succ, List.getElem?_nil, List.set_cons_zero, List.set_cons_succ, List.mapM_cons, List.mapM_nil, Option.pure_def, Option.bind_eq_bind, Option.bind_some, Bool.not_true, Bool.not_false]
  refine (pick h (by simp) (by decide)).mono ?_
  rintro v s1 ⟨⟨x, hx, rfl⟩, k1⟩
  simp only [w_var, a_var, w_con, w_glo, w_op, k_op1, k_op2, w_neg, k_neg, w_cmp, k_cm1, k_cm2, w_chain, k_ch1, k_ch2, w_and, k_and, w_or, k_or, w_not, k_not, w_ite, k_ite, w_tup, k_tup, w_lst, k_lst, w_call, k_call, w_prim, k_prim, w_isi, k_isi, w_ix, k_ix1, k_ix2, w_ts0, w_ts, k_ts1, k_ts2, w_ds0, w_ds, k_ds1d, k_ds1n, k_ds2, x_nil, x_cons, x_set, k_set, x_setM, k_setMt, k_setMn, x_expr, k_expr, x_ret, k_ret, x_retN, x_pass, x_ife, k_if, x_for, k_for, k_finN, k_finD, k_finL, st_t, st_n, rd_d, rd_ref, w_sl, k_sl, k_sl1, k_sl2, w_o0, w_o_var, w_o_con, w_o_op, k_o, w_it_var, w_it_con, w_it_ix, w_it_lst, w_it_tup, w_it_call, w_it_prim, w_it_sl, w_it_op, w_it_comp, w_it_ite, k_src, w_rng, k_rng, w_comp, k_comp, k_eltD, k_eltN, k_cond, body0, body1, x_setI, k_si1, k_si2, k_si3, w_meth, k_me1, k_me2, nxt_next, nxt_ret, nxt_brk, nxt_cont, wp_ok, wps_ok, w_dct0, a_dct1, wps_bt, a_bt, x_parM, w_evT, w_evF, a_alT, a_alN, a_stl, k_pm1, k_pm2, tB, oK_some, a_at, a_atB, a_atD, a_opb, a_opa, a_cmb, a_cma, a_ixb, a_ixa, a_neg, a_chT, a_chF, a_cha2, a_cha, a_brAT, a_brAF, a_brOT, a_brOF, a_brIT, a_brIF, a_brST, a_brSF, a_and, a_or, a_not, a_ite, a_if, a_prim, a_isi, a_set, a_slb, a_o, a_src, a_rng, a_bo0, a_bo1, a_brCT, a_brCF, a_cond, a_sid, a_sic, a_sib, a_mea, a_meb, a_mec, b_add, b_sub, c_lt, c_le, c_gt, c_ge, c_eqI, c_neI, c_eqS, c_neS, c_isB, c_isnotB, p_lenL, p_lenT, p_int, p_max, p_min, p_tupL, p_lstT, p_lstL, i_l, i_t, at0, at1, at2, t_bool, s_l, s_t, bp_nm, bp_tp, bps0, bps1, sr_l, sr_t, sr_n, startE, wipe, List.map_cons, List.map_nil, List.length_cons, List.length_nil, List.replicate, List.cons_append, List.nil_append, List.append_nil, Nat.reduceAdd, Nat.reduceSub, Nat.reduceMul, List.getElem?_cons_zero, List.getElem?_cons_succ, List.getElem?_nil, List.set_cons_zero, List.set_cons_succ, List.mapM_cons, List.mapM_nil, Option.pure_def, Option.bind_eq_bind, Option.bind_some, Bool.not_true, Bool.not_false]
  rw [take_len k1.1]
  refine ⟨⟨x, rfl, ?_⟩, k1⟩
  have := mem_all (fun y => !isNet y) (by decide +kernel) hx
  simpa using this
theorem put_mem {row : List D} {P : D → Prop} {a b : Option Int} {a' b' : Option Int} {x : D} (h : ∀ y ∈ row, P y) (hx : P x) : ∀ y ∈ cutD row a b ++ [x] ++ cutD row a' b', P y := by
  intro y hy
  rcases List.mem_append.mp hy with hy | hy
  · rcases List.mem_append.mp hy with hy | hy
    · exact h y (cut_mem hy)
    · simp only [List.mem_cons, List.not_mem_nil, or_false] at hy
      subst hy
      exact hx
  · exact h y (cut_mem hy)
theorem bent_point {x : D} (h : Sr st c) (hx : Nt x) : (callN tbl wf (n + 3) 19 [.ref c, .d x] st).wp fun v st' => (∃ y, v = .t (.d y) ∧ Nb y) ∧ Sm c st st' := by
  obtain ⟨last, pts, ts, rfl, l0, l1, pl, pp, tl, tp⟩ := hx
  rw [wp_callN (d := d__law_bent_point) rfl rfl]
  unfold d__law_bent_point
  simp only [w_var, a_var, w_con, w_glo, w_op, k_op1, k_op2, w_neg, k_neg, w_cmp, k_cm1, k_cm2, w_chain, k_ch1, k_ch2, w_and, k_and, w_or, k_or, w_not, k_not, w_ite, k_ite, w_tup, k_tup, w_lst, k_lst, w_call, k_call, w_prim, k_prim, w_isi, k_isi, w_ix, k_ix1, k_ix2, w_ts0, w_ts, k_ts1, k_ts2, w_ds0, w_ds, k_ds1d, k_ds1n, k_ds2, x_nil, x_cons, x_set, k_set, x_setM, k_setMt, k_setMn, x_expr, k_expr, x_ret, k_ret, x_retN, x_pass, x_ife, k_if, x_for, k_for, k_finN, k_finD, k_finL, st_t, st_n, rd_d, rd_ref, w_sl, k_sl, k_sl1, k_sl2, w_o0, w_o_var, w_o_con, w_o_op, k_o, w_it_var, w_it_con, w_it_ix, w_it_lst, w_it_tup, w_it_call, w_it_prim, w_it_sl, w_it_op, w_it_comp, w_it_ite, k_src, w_rng, k_rng, w_comp, k_comp, k_eltD, k_eltN, k_cond, body0, body1, x_setI, k_si1, k_si2, k_si3, w_meth, k_me1, k_me2, nxt_next, nxt_ret, nxt_brk, nxt_cont, wp_ok, wps_ok, w_dct0, a_dct1, wps_bt, a_bt, x_parM, w_evT, w_evF, a_alT, a_alN, a_stl, k_pm1, k_pm2, tB, oK_some, a_at, a_atB, a_atD, a_opb, a_opa, a_cmb, a_cma, a_ixb, a_ixa, a_neg, a_chT, a_chF, a_cha2, a_cha, a_brAT, a_brAF, a_brOT, a_brOF, a_brIT, a_brIF, a_brST, a_brSF, a_and, a_or, a_not, a_ite, a_if, a_prim, a_isi, a_set, a_slb, a_o, a_src, a_rng, a_bo0, a_bo1, a_brCT, a_brCF, a_cond, a_sid, a_sic, a_sib, a_mea, a_meb, a_mec, b_add, b_sub, c_lt, c_le, c_gt, c_ge, c_eqI, c_neI, c_eqS, c_neS, c_isB, c_isnotB, p_lenL, p_lenT, p_int, p_max, p_min, p_tupL, p_lstT, p_lstL, i_l, i_t, at0, at1, at2, t_bool, s_l, s_t, bp_nm, bp_tp, bps0, bps1, sr_l, sr_t, sr_n, startE, wipe, List.map_cons, List.map_nil, List.length_cons, List.length_nil, List.replicate, List.cons_append, List.nil_append, List.append_nil, Nat.reduceAdd, Nat.reduceSub, Nat.reduceMul, List.getElem?_cons_zero, List.getElem?_cons_succ, List.getElem?_nil, List.set_cons_zero, List.set_cons_succ, List.mapM_cons, List.mapM_nil, Option.pure_def, Option.bind_eq_bind, Option.bind_some, Bool.not_true, Bool.not_false]
  refine (draw h (by omega) (by omega)).mono ?_
  rintro v s1 ⟨⟨r, rfl, r0, r1⟩, k1⟩
  simp only [w_var, a_var, w_con, w_glo, w_op, k_op1, k_op2, w_neg, k_neg, w_cmp, k_cm1, k_cm2, w_chain, k_ch1, k_ch2, w_and, k_and, w_or, k_or, w_not, k_not, w_ite, k_ite, w_tup, k_tup, w_lst, k_lst, w_call, k_call, w_prim, k_prim, w_isi, k_isi, w_ix, k_ix1, k_ix2, w_ts0, w_ts, k_ts1, k_ts2, w_ds0, w_ds, k_ds1d, k_ds1n, k_ds2, x_nil, x_cons, x_set, k_set, x_setM, k_setMt, k_setMn, x_expr, k_expr, x_ret, k_ret, x_retN, x_pass, x_ife, k_if, x_for, k_for, k_finN, k_finD, k_finL, st_t, st_n, rd_d, rd_ref, w_sl, k_sl, k_sl1, k_sl2, w_o0, w_o_var, w_o_con, w_o_op, k_o, w_it_var, w_it_con, w_it_ix, w_it_lst, w_it_tup, w_it_call, w_it_prim, w_it_sl, w_it_op, w_it_comp, w_it_ite, k_src, w_rng, k_rng, w_comp, k_comp, k_eltD, k_eltN, k_cond, body0, body1, x_setI, k_si1, k_si2, k_si3, w_meth, k_me1, k_me2, nxt_next, nxt_ret, nxt_brk, nxt_cont, wp_ok, wps_ok, w_dct0, a_dct1, wps_bt, a_bt, x_parM, w_evT, w_evF, a_alT, a_alN, a_stl, k_pm1, k_pm2, tB, oK_some, a_at, a_atB, a_atD, a_opb, a_opa, a_cmb, a_cma, a_ixb, a_ixa, a_neg, a_chT, a_chF, a_cha2, a_cha, a_brAT, a_brAF, a_brOT, a_brOF, a_brIT, a_brIF, a_brST, a_brSF, a_and, a_or, a_not, a_ite, a_if, a_prim, a_isi, a_set, a_slb, a_o, a_src, a_rng, a_bo0, a_bo1, a_brCT, a_brCF, a_cond, a_sid, a_sic, a_sib, a_mea, a_meb, a_mec, b_add, b_sub, c_lt, c_le, c_gt, c_ge, c_eqI, c_neI, c_eqS, c_neS, c_isB, c_isnotB, p_lenL, p_lenT, p_int, p_max, p_min, p_tupL, p_lstT, p_lstL, i_l, i_t, at0, at1, at2, t_bool, s_l, s_t, bp_nm, bp_tp, bps0, bps1, sr_l, sr_t, sr_n, startE, wipe, List.map_cons, List.map_nil, List.length_cons, List.length_nil, List.replicate, List.cons_append, List.nil_append, List.append_nil, Nat.reduceAdd, Nat.reduceSub, Nat.reduceMul, List.getElem?_cons_zero, List.getElem?_cons_succ, List.getElem?_nil, List.set_cons_zero, List.set_cons_succ, List.mapM_cons, List.mapM_nil, Option.pure_def, Option.bind_eq_bind, Option.bind_some, Bool.not_true, Bool.not_false]
  rw [b_addL (by simp only [List.length_cons, List.length_nil]; decide)]
  simp only [w_var, a_var, w_con, w_glo, w_op, k_op1, k_op2, w_neg, k_neg, w_cmp, k_cm1, k_cm2, w_chain, k_ch1, k_ch2, w_and, k_and, w_or, k_or, w_not, k_not, w_ite, k_ite, w_tup, k_tup, w_lst, k_lst, w_call, k_call, w_prim, k_prim, w_isi, k_isi, w_ix, k_ix1, k_ix2, w_ts0, w_ts, k_ts1, k_ts2, w_ds0, w_ds, k_ds1d, k_ds1n, k_ds2, x_nil, x_cons, x_set, k_set, x_setM, k_setMt, k_setMn, x_expr, k_expr, x_ret, k_ret, x_retN, x_pass, x_ife, k_if, x_for, k_for, k_finN, k_finD, k_finL, st_t, st_n, rd_d, rd_ref, w_sl, k_sl, k_sl1, k_sl2, w_o0, w_o_var, w_o_con, w_o_op, k_o, w_it_var, w_it_con, w_it_ix, w_it_lst, w_it_tup, w_it_call, w_it_prim, w_it_sl, w_it_op, w_it_comp, w_it_ite, k_src, w_rng, k_rng, w_comp, k_comp, k_eltD, k_eltN, k_cond, body0, body1, x_setI, k_si1, k_si2, k_si3, w_meth, k_me1, k_me2, nxt_next, nxt_ret, nxt_brk, nxt_cont, wp_ok, wps_ok, w_dct0, a_dct1, wps_bt, a_bt, x_parM, w_evT, w_evF, a_alT, a_alN, a_stl, k_pm1, k_pm2, tB, oK_some, a_at, a_atB, a_atD, a_opb, a_opa, a_cmb, a_cma, a_ixb, a_ixa, a_neg, a_chT, a_chF, a_cha2, a_cha, a_brAT, a_brAF, a_brOT, a_brOF, a_brIT, a_brIF, a_brST, a_brSF, a_and, a_or, a_not, a_ite, a_if, a_prim, a_isi, a_set, a_slb, a_o, a_src, a_rng, a_bo0, a_bo1, a_brCT, a_brCF, a_cond, a_sid, a_sic, a_sib, a_mea, a_meb, a_mec, b_add, b_sub, c_lt, c_le, c_gt, c_ge, c_eqI, c_neI, c_eqS, c_neS, c_isB, c_isnotB, p_lenL, p_lenT, p_int, p_max, p_min, p_tupL, p_lstT, p_lstL, i_l, i_t, at0, at1, at2, t_bool, s_l, s_t, bp_nm, bp_tp, bps0, bps1, sr_l, sr_t, sr_n, startE, wipe, List.map_cons, List.map_nil, List.length_cons, List.length_nil, List.replicate, List.cons_append, List.nil_append, List.append_nil, Nat.reduceAdd, Nat.reduceSub, Nat.reduceMul, List.getElem?_cons_zero, List.getElem?_cons_succ, List.getElem?_nil, List.set_cons_zero, List.set_cons_succ, List.mapM_cons, List.mapM_nil, Option.pure_def, Option.bind_eq_bind, Option.bind_some, Bool.not_true, Bool.not_false]
  refine (pick k1.2.2 (by simp) (by simp only [List.length_cons, List.length_nil]; decide)).mono ?_
  rintro v s2 ⟨⟨y, hy, rfl⟩, k2⟩
  have iy : Ite y := by
    revert y
    repeat' (first | exact all_nil | refine all_cons ?_ ?_)
    all_goals (apply Sho.mono; (focus (repeat' (first | exact sho_none | exact sho_bool | (refine sho_int ?_; omega; done) | exact sho_str (by decide +kernel) | exact sho_nil | apply sho_cons | apply sho_tup | apply sho_lst))); all_goals decide +kernel)
  have k3 := k1.trans k2
  simp only [w_var, a_var, w_con, w_glo, w_op, k_op1, k_op2, w_neg, k_neg, w_cmp, k_cm1, k_cm2, w_chain, k_ch1, k_ch2, w_and, k_and, w_or, k_or, w_not, k_not, w_ite, k_ite, w_tup, k_tup, w_lst, k_lst, w_call, k_call, w_prim, k_prim, w_isi, k_isi, w_ix, k_ix1, k_ix2, w_ts0, w_ts, k_ts1, k_ts2, w_ds0, w_ds, k_ds1d, k_ds1n, k_ds2, x_nil, x_cons, x_set, k_set, x_setM, k_setMt, k_setMn, x_expr, k_expr, x_ret, k_ret, x_retN, x_pass, x_ife, k_if, x_for, k_for, k_finN, k_finD, k_finL, st_t, st_n, rd_d, rd_ref, w_sl, k_sl, k_sl1, k_sl2, w_o0, w_o_var, w_o_con, w_o_op, k_o, w_it_var, w_it_con, w_it_ix, w_it_lst, w_it_tup, w_it_call, w_it_prim, w_it_sl, w_it_op, w_it_comp, w_it_ite, k_src, w_rng, k_rng, w_comp, k_comp, k_eltD, k_eltN, k_cond, body0, body1, x_setI, k_si1, k_si2, k_si3, w_meth, k_me1, k_me2, nxt_next, nxt_ret, nxt_brk, nxt_cont, wp_ok, wps_ok, w_dct0, a_dct1, wps_bt, a_bt, x_parM, w_evT, w_evF, a_alT, a_alN, a_stl, k_pm1, k_pm2, tB, oK_some, a_at, a_atB, a_atD, a_opb, a_opa, a_cmb, a_cma, a_ixb, a_ixa, a_neg, a_chT, a_chF, a_cha2, a_cha, a_brAT, a_brAF, a_brOT, a_brOF, a_brIT, a_brIF, a_brST, a_brSF, a_and, a_or, a_not, a_ite, a_if, a_prim, a_isi, a_set, a_slb, a_o, a_src, a_rng, a_bo0, a_bo1, a_brCT, a_brCF, a_cond, a_sid, a_sic, a_sib, a_mea, a_meb, a_mec, b_add, b_sub, c_lt, c_le, c_gt, c_ge, c_eqI, c_neI, c_eqS, c_neS, c_isB, c_isnotB, p_lenL, p_lenT, p_int, p_max, p_min, p_tupL, p_lstT, p_lstL, i_l, i_t, at0, at1, at2, t_bool, s_l, s_t, bp_nm, bp_tp, bps0, bps1, sr_l, sr_t, sr_n, startE, wipe, List.map_cons, List.map_nil, List.length_cons, List.length_nil, List.replicate, List.cons_append, List.nil_append, List.append_nil, Nat.reduceAdd, Nat.reduceSub, Nat.reduceMul, List.getElem?_cons_zero, List.getElem?_cons_succ, List.getElem?_nil, List.set_cons_zero, List.set_cons_succ, List.mapM_cons, List.mapM_nil, Option.pure_def, Option.bind_eq_bind, Option.bind_some, Bool.not_true, Bool.not_false, put (show pts.length ≤ 1000 by omega)]
  rw [take_len k3.1]
  refine ⟨⟨_, rfl, last, _, ts, rfl, l0, l1, ?_, put_mem (fun z hz => pt_ite (by omega) (pp z hz)) iy, tl, tp⟩, k3⟩
  have := cut_put (row := pts) (a := r) (x := y) r0
  omega
theorem bent_tie {x : D} (h : Sr st c) (hx : Nb x) : (callN tbl wf (n + 3) 20 [.ref c, .d x] st).wp fun v st' => (∃ y, v = .t (.d y) ∧ Thing y) ∧ Sm c st st' := by
  obtain ⟨last, pts, ts, rfl, l0, l1, pl, pp, tl, tp⟩ := hx
  rw [wp_callN (d := d__law_bent_tie) rfl rfl]
  unfold d__law_bent_tie
  simp only [w_var, a_var, w_con, w_glo, w_op, k_op1, k_op2, w_neg, k_neg, w_cmp, k_cm1, k_cm2, w_chain, k_ch1, k_ch2, w_and, k_and, w_or, k_or, w_not, k_not, w_ite, k_ite, w_tup, k_tup, w_lst, k_lst, w_call, k_call, w_prim, k_prim, w_isi, k_isi, w_ix, k_ix1, k_ix2, w_ts0, w_ts, k_ts1, k_ts2, w_ds0, w_ds, k_ds1d, k_ds1n, k_ds2, x_nil, x_cons, x_set, k_set, x_setM, k_setMt, k_setMn, x_expr, k_expr, x_ret, k_ret, x_retN, x_pass, x_ife, k_if, x_for, k_for, k_finN, k_finD, k_finL, st_t, st_n, rd_d, rd_ref, w_sl, k_sl, k_sl1, k_sl2, w_o0, w_o_var, w_o_con, w_o_op, k_o, w_it_var, w_it_con, w_it_ix, w_it_lst, w_it_tup, w_it_call, w_it_prim, w_it_sl, w_it_op, w_it_comp, w_it_ite, k_src, w_rng, k_rng, w_comp, k_comp, k_eltD, k_eltN, k_cond, body0, body1, x_setI, k_si1, k_si2, k_si3, w_meth, k_me1, k_me2, nxt_next, nxt_ret, nxt_brk, nxt_cont, wp_ok, wps_ok, w_dct0, a_dct1, wps_bt, a_bt, x_parM, w_evT, w_evF, a_alT, a_alN, a_stl, k_pm1, k_pm2, tB, oK_some, a_at, a_atB, a_atD, a_opb, a_opa, a_cmb, a_cma, a_ixb, a_ixa, a_neg, a_chT, a_chF, a_cha2, a_cha, a_brAT, a_brAF, a_brOT, a_brOF, a_brIT, a_brIF, a_brST, a_brSF, a_and, a_or, a_not, a_ite, a_if, a_prim, a_isi, a_set, a_slb, a_o, a_src, a_rng, a_bo0, a_bo1, a_brCT, a_brCF, a_cond, a_sid, a_sic, a_sib, a_mea, a_meb, a_mec, b_add, b_sub, c_lt, c_le, c_gt, c_ge, c_eqI, c_neI, c_eqS, c_neS, c_isB, c_isnotB, p_lenL, p_lenT, p_int, p_max, p_min, p_tupL, p_lstT, p_lstL, i_l, i_t, at0, at1, at2, t_bool, s_l, s_t, bp_nm, bp_tp, bps0, bps1, sr_l, sr_t, sr_n, startE, wipe, List.map_cons, List.map_nil, List.length_cons, List.length_nil, List.replicate, List.cons_append, List.nil_append, List.append_nil, Nat.reduceAdd, Nat.reduceSub, Nat.reduceMul, List.getElem?_cons_zero, List.getElem?_cons_succ, List.getElem?_nil, List.set_cons_zero, List.set_cons_succ, List.mapM_cons, List.mapM_nil, Option.pure_def, Option.bind_eq_bind, Option.bind_some, Bool.not_true, Bool.not_false]
  refine (draw h (by omega) (by omega)).mono ?_
  rintro v s1 ⟨⟨r, rfl, r0, r1⟩, k1⟩
  simp only [w_var, a_var, w_con, w_glo, w_op, k_op1, k_op2, w_neg, k_neg, w_cmp, k_cm1, k_cm2, w_chain, k_ch1, k_ch2, w_and, k_and, w_or, k_or, w_not, k_not, w_ite, k_ite, w_tup, k_tup, w_lst, k_lst, w_call, k_call, w_prim, k_prim, w_isi, k_isi, w_ix, k_ix1, k_ix2, w_ts0, w_ts, k_ts1, k_ts2, w_ds0, w_ds, k_ds1d, k_ds1n, k_ds2, x_nil, x_cons, x_set, k_set, x_setM, k_setMt, k_setMn, x_expr, k_expr, x_ret, k_ret, x_retN, x_pass, x_ife, k_if, x_for, k_for, k_finN, k_finD, k_finL, st_t, st_n, rd_d, rd_ref, w_sl, k_sl, k_sl1, k_sl2, w_o0, w_o_var, w_o_con, w_o_op, k_o, w_it_var, w_it_con, w_it_ix, w_it_lst, w_it_tup, w_it_call, w_it_prim, w_it_sl, w_it_op, w_it_comp, w_it_ite, k_src, w_rng, k_rng, w_comp, k_comp, k_eltD, k_eltN, k_cond, body0, body1, x_setI, k_si1, k_si2, k_si3, w_meth, k_me1, k_me2, nxt_next, nxt_ret, nxt_brk, nxt_cont, wp_ok, wps_ok, w_dct0, a_dct1, wps_bt, a_bt, x_parM, w_evT, w_evF, a_alT, a_alN, a_stl, k_pm1, k_pm2, tB, oK_some, a_at, a_atB, a_atD, a_opb, a_opa, a_cmb, a_cma, a_ixb, a_ixa, a_neg, a_chT, a_chF, a_cha2, a_cha, a_brAT, a_brAF, a_brOT, a_brOF, a_brIT, a_brIF, a_brST, a_brSF, a_and, a_or, a_not, a_ite, a_if, a_prim, a_isi, a_set, a_slb, a_o, a_src, a_rng, a_bo0, a_bo1, a_brCT, a_brCF, a_cond, a_sid, a_sic, a_sib, a_mea, a_meb, a_mec, b_add, b_sub, c_lt, c_le, c_gt, c_ge, c_eqI, c_neI, c_eqS, c_neS, c_isB, c_isnotB, p_lenL, p_lenT, p_int, p_max, p_min, p_tupL, p_lstT, p_lstL, i_l, i_t, at0, at1, at2, t_bool, s_l, s_t, bp_nm, bp_tp, bps0, bps1, sr_l, sr_t, sr_n, startE, wipe, List.map_cons, List.map_nil, List.length_cons, List.length_nil, List.replicate, List.cons_append, List.nil_append, List.append_nil, Nat.reduceAdd, Nat.reduceSub, Nat.reduceMul, List.getElem?_cons_zero, List.getElem?_cons_succ, List.getElem?_nil, List.set_cons_zero, List.set_cons_succ, List.mapM_cons, List.mapM_nil, Option.pure_def, Option.bind_eq_bind, Option.bind_some, Bool.not_true, Bool.not_false]
  rw [b_addL (by simp only [List.length_cons, List.length_nil]; decide)]
  have st0 : PySem.SeqAt.shaped (.tuple []) = true := by decide +kernel
  have sts : PySem.SeqAt.shaped (.tuple ts) = true := by
    have h1 := lay_all (zs := ts) fun z hz => by
      obtain ⟨i, j, f, e, rfl, _⟩ := tp z hz
      exact ⟨rfl, by simp [PyData.depth, PyData.depthAll]⟩
    simp only [PySem.SeqAt.shaped, PyData.canLay0, PyData.depth, h1.1, Bool.true_and]
    exact decide_eq_true (by omega)
  have eqt : PyData.eqv (.tuple ts) (.tuple []) = ts.isEmpty := by cases ts <;> simp [PyData.eqv, PyData.eqvAll]
  have fin : ∀ (s : Store) (L : List D) (e8 e9 e10 e11 : Option T), Sm c st s → L ≠ [] → L.length < 1000 → (∀ y ∈ L, Ite y) → (execs (callN tbl wf (n + 2)) wf [(.ret (.tup [(.var 3), (.var 4), (.call 18 [(.var 5), (.var 6), (.call 6 [(.var 0), (.var 2)])])]))]
      [some (.ref c), some (.d (.tuple [.int last, .tuple pts, .tuple ts])), some (.d (.list L)), some (.d (.int last)), some (.d (.tuple pts)), some (.d (.tuple ts)), some (.d (.int r)), some (.d (.int pts.length)), e8, e9, e10, e11] s).wp (kFin st.length fun v st' => (∃ y, v = .t (.d y) ∧ Thing y) ∧ Sm c st st') := by
    intro s L e8 e9 e10 e11 ks hL hLl hI
    simp only [w_var, a_var, w_con, w_glo, w_op, k_op1, k_op2, w_neg, k_neg, w_cmp, k_cm1, k_cm2, w_chain, k_ch1, k_ch2, w_and, k_and, w_or, k_or, w_not, k_not, w_ite, k_ite, w_tup, k_tup, w_lst, k_lst, w_call, k_call, w_prim, k_prim, w_isi, k_isi, w_ix, k_ix1, k_ix2, w_ts0, w_ts, k_ts1, k_ts2, w_ds0, w_ds, k_ds1d, k_ds1n, k_ds2, x_nil, x_cons, x_set, k_set, x_setM, k_setMt, k_setMn, x_expr, k_expr, x_ret, k_ret, x_retN, x_pass, x_ife, k_if, x_for, k_for, k_finN, k_finD, k_finL, st_t, st_n, rd_d, rd_ref, w_sl, k_sl, k_sl1, k_sl2, w_o0, w_o_var, w_o_con, w_o_op, k_o, w_it_var, w_it_con, w_it_ix, w_it_lst, w_it_tup, w_it_call, w_it_prim, w_it_sl, w_it_op, w_it_comp, w_it_ite, k_src, w_rng, k_rng, w_comp, k_comp, k_eltD, k_eltN, k_cond, body0, body1, x_setI, k_si1, k_si2, k_si3, w_meth, k_me1, k_me2, nxt_next, nxt_ret, nxt_brk, nxt_cont, wp_ok, wps_ok, w_dct0, a_dct1, wps_bt, a_bt, x_parM, w_evT, w_evF, a_alT, a_alN, a_stl, k_pm1, k_pm2, tB, oK_some, a_at, a_atB, a_atD, a_opb, a_opa, a_cmb, a_cma, a_ixb, a_ixa, a_neg, a_chT, a_chF, a_cha2, a_cha, a_brAT, a_brAF, a_brOT, a_brOF, a_brIT, a_brIF, a_brST, a_brSF, a_and, a_or, a_not, a_ite, a_if, a_prim, a_isi, a_set, a_slb, a_o, a_src, a_rng, a_bo0, a_bo1, a_brCT, a_brCF, a_cond, a_sid, a_sic, a_sib, a_mea, a_meb, a_mec, b_add, b_sub, c_lt, c_le, c_gt, c_ge, c_eqI, c_neI, c_eqS, c_neS, c_isB, c_isnotB, p_lenL, p_lenT, p_int, p_max, p_min, p_tupL, p_lstT, p_lstL, i_l, i_t, at0, at1, at2, t_bool, s_l, s_t, bp_nm, bp_tp, bps0, bps1, sr_l, sr_t, sr_n, startE, wipe, List.map_cons, List.map_nil, List.length_cons, List.length_nil, List.replicate, List.cons_append, List.nil_append, List.append_nil, Nat.reduceAdd, Nat.reduceSub, Nat.reduceMul, List.getElem?_cons_zero, List.getElem?_cons_succ, List.getElem?_nil, List.set_cons_zero, List.set_cons_succ, List.mapM_cons, List.mapM_nil, Option.pure_def, Option.bind_eq_bind, Option.bind_some, Bool.not_true, Bool.not_false]
    refine (pick ks.2.2 hL (by omega)).mono ?_
    rintro v s2 ⟨⟨y, hy, rfl⟩, k2⟩
    have k3 := ks.trans k2
    simp only [w_var, a_var, w_con, w_glo, w_op, k_op1, k_op2, w_neg, k_neg, w_cmp, k_cm1, k_cm2, w_chain, k_ch1, k_ch2, w_and, k_and, w_or, k_or, w_not, k_not, w_ite, k_ite, w_tup, k_tup, w_lst, k_lst, w_call, k_call, w_prim, k_prim, w_isi, k_isi, w_ix, k_ix1, k_ix2, w_ts0, w_ts, k_ts1, k_ts2, w_ds0, w_ds, k_ds1d, k_ds1n, k_ds2, x_nil, x_cons, x_set, k_set, x_setM, k_setMt, k_setMn, x_expr, k_expr, x_ret, k_ret, x_retN, x_pass, x_ife, k_if, x_for, k_for, k_finN, k_finD, k_finL, st_t, st_n, rd_d, rd_ref, w_sl, k_sl, k_sl1, k_sl2, w_o0, w_o_var, w_o_con, w_o_op, k_o, w_it_var, w_it_con, w_it_ix, w_it_lst, w_it_tup, w_it_call, w_it_prim, w_it_sl, w_it_op, w_it_comp, w_it_ite, k_src, w_rng, k_rng, w_comp, k_comp, k_eltD, k_eltN, k_cond, body0, body1, x_setI, k_si1, k_si2, k_si3, w_meth, k_me1, k_me2, nxt_next, nxt_ret, nxt_brk, nxt_cont, wp_ok, wps_ok, w_dct0, a_dct1, wps_bt, a_bt, x_parM, w_evT, w_evF, a_alT, a_alN, a_stl, k_pm1, k_pm2, tB, oK_some, a_at, a_atB, a_atD, a_opb, a_opa, a_cmb, a_cma, a_ixb, a_ixa, a_neg, a_chT, a_chF, a_cha2, a_cha, a_brAT, a_brAF, a_brOT, a_brOF, a_brIT, a_brIF, a_brST, a_brSF, a_and, a_or, a_not, a_ite, a_if, a_prim, a_isi, a_set, a_slb, a_o, a_src, a_rng, a_bo0, a_bo1, a_brCT, a_brCF, a_cond, a_sid, a_sic, a_sib, a_mea, a_meb, a_mec, b_add, b_sub, c_lt, c_le, c_gt, c_ge, c_eqI, c_neI, c_eqS, c_neS, c_isB, c_isnotB, p_lenL, p_lenT, p_int, p_max, p_min, p_tupL, p_lstT, p_lstL, i_l, i_t, at0, at1, at2, t_bool, s_l, s_t, bp_nm, bp_tp, bps0, bps1, sr_l, sr_t, sr_n, startE, wipe, List.map_cons, List.map_nil, List.length_cons, List.length_nil, List.replicate, List.cons_append, List.nil_append, List.append_nil, Nat.reduceAdd, Nat.reduceSub, Nat.reduceMul, List.getElem?_cons_zero, List.getElem?_cons_succ, List.getElem?_nil, List.set_cons_zero, List.set_cons_succ, List.mapM_cons, List.mapM_nil, Option.pure_def, Option.bind_eq_bind, Option.bind_some, Bool.not_true, Bool.not_false, put (show ts.length ≤ 1000 by omega)]
    rw [take_len k3.1]
    refine ⟨⟨_, rfl, thing3 ((sho_int (by omega)).mono (by decide) (by decide)) (row_tup pp (by omega)) (row_tup (put_mem (fun z hz => ti_ite (tp z hz)) (hI y hy)) ?_)⟩, k3⟩
    have := cut_put (row := ts) (a := r) (x := y) r0
    omega
  have base : ∀ y ∈ ([.none, .tuple [.int 0, .int 1], .tuple [.int 0, .int 1, .int 0], .list [.int 0, .int 1, .int 0, .int 0], .tuple [.int 1, .int 0, .int 0, .int 0], .tuple [.int 0, .int 0, .int 0, .int 0], .tuple [.int 0, .int pts.length, .int 0, .int 0], .tuple [.int (0 - 1), .int 0, .int 0, .int 0], .int 5, .tuple [.int 0, .int 1, .int 0, .int (last + 1)], .tuple [.int 0, .int 1, .int last, .int 0], .tuple [.bool false, .bool true, .int 0, .int 0], .tuple [.int 0, .int 1, .int 0, .int 0], .tuple [.int 0, .int 1, .int last, .int last], .str (PySem.Str.ofString "abcd")] : List D), Ite y := by
    repeat' (first | exact all_nil | refine all_cons ?_ ?_)
    all_goals (apply Sho.mono; (focus (repeat' (first | exact sho_none | exact sho_bool | (refine sho_int ?_; omega; done) | exact sho_str (by decide +kernel) | exact sho_nil | apply sho_cons | apply sho_tup | apply sho_lst))); all_goals decide +kernel)
  simp only [w_var, a_var, w_con, w_glo, w_op, k_op1, k_op2, w_neg, k_neg, w_cmp, k_cm1, k_cm2, w_chain, k_ch1, k_ch2, w_and, k_and, w_or, k_or, w_not, k_not, w_ite, k_ite, w_tup, k_tup, w_lst, k_lst, w_call, k_call, w_prim, k_prim, w_isi, k_isi, w_ix, k_ix1, k_ix2, w_ts0, w_ts, k_ts1, k_ts2, w_ds0, w_ds, k_ds1d, k_ds1n, k_ds2, x_nil, x_cons, x_set, k_set, x_setM, k_setMt, k_setMn, x_expr, k_expr, x_ret, k_ret, x_retN, x_pass, x_ife, k_if, x_for, k_for, k_finN, k_finD, k_finL, st_t, st_n, rd_d, rd_ref, w_sl, k_sl, k_sl1, k_sl2, w_o0, w_o_var, w_o_con, w_o_op, k_o, w_it_var, w_it_con, w_it_ix, w_it_lst, w_it_tup, w_it_call, w_it_prim, w_it_sl, w_it_op, w_it_comp, w_it_ite, k_src, w_rng, k_rng, w_comp, k_comp, k_eltD, k_eltN, k_cond, body0, body1, x_setI, k_si1, k_si2, k_si3, w_meth, k_me1, k_me2, nxt_next, nxt_ret, nxt_brk, nxt_cont, wp_ok, wps_ok, w_dct0, a_dct1, wps_bt, a_bt, x_parM, w_evT, w_evF, a_alT, a_alN, a_stl, k_pm1, k_pm2, tB, oK_some, a_at, a_atB, a_atD, a_opb, a_opa, a_cmb, a_cma, a_ixb, a_ixa, a_neg, a_chT, a_chF, a_cha2, a_cha, a_brAT, a_brAF, a_brOT, a_brOF, a_brIT, a_brIF, a_brST, a_brSF, a_and, a_or, a_not, a_ite, a_if, a_prim, a_isi, a_set, a_slb, a_o, a_src, a_rng, a_bo0, a_bo1, a_brCT, a_brCF, a_cond, a_sid, a_sic, a_sib, a_mea, a_meb, a_mec, b_add, b_sub, c_lt, c_le, c_gt, c_ge, c_eqI, c_neI, c_eqS, c_neS, c_isB, c_isnotB, p_lenL, p_lenT, p_int, p_max, p_min, p_tupL, p_lstT, p_lstL, i_l, i_t, at0, at1, at2, t_bool, s_l, s_t, bp_nm, bp_tp, bps0, bps1, sr_l, sr_t, sr_n, startE, wipe, List.map_cons, List.map_nil, List.length_cons, List.length_nil, List.replicate, List.cons_append, List.nil_append, List.append_nil, Nat.reduceAdd, Nat.reduceSub, Nat.reduceMul, List.getElem?_cons_zero, List.getElem?_cons_succ, List.getElem?_nil, List.set_cons_zero, List.set_cons_succ, List.mapM_cons, List.mapM_nil, Option.pure_def, Option.bind_eq_bind, Option.bind_some, Bool.not_true, Bool.not_false, c_ne sts st0 rfl, eqt]
  cases he : ts.isEmpty with
  | true =>
    simp only [Bool.not_true, a_brSF, x_nil, nxt_next]
    exact fin s1 _ _ _ _ _ k1 (by simp) (by simp only [List.length_cons, List.length_nil]; decide) base
  | false =>
    have hne : ts ≠ [] := fun e => by rw [e] at he; cases he
    simp only [w_var, a_var, w_con, w_glo, w_op, k_op1, k_op2, w_neg, k_neg, w_cmp, k_cm1, k_cm2, w_chain, k_ch1, k_ch2, w_and, k_and, w_or, k_or, w_not, k_not, w_ite, k_ite, w_tup, k_tup, w_lst, k_lst, w_call, k_call, w_prim, k_prim, w_isi, k_isi, w_ix, k_ix1, k_ix2, w_ts0, w_ts, k_ts1, k_ts2, w_ds0, w_ds, k_ds1d, k_ds1n, k_ds2, x_nil, x_cons, x_set, k_set, x_setM, k_setMt, k_setMn, x_expr, k_expr, x_ret, k_ret, x_retN, x_pass, x_ife, k_if, x_for, k_for, k_finN, k_finD, k_finL, st_t, st_n, rd_d, rd_ref, w_sl, k_sl, k_sl1, k_sl2, w_o0, w_o_var, w_o_con, w_o_op, k_o, w_it_var, w_it_con, w_it_ix, w_it_lst, w_it_tup, w_it_call, w_it_prim, w_it_sl, w_it_op, w_it_comp, w_it_ite, k_src, w_rng, k_rng, w_comp, k_comp, k_eltD, k_eltN, k_cond, body0, body1, x_setI, k_si1, k_si2, k_si3, w_meth, k_me1, k_me2, nxt_next, nxt_ret, nxt_brk, nxt_cont, wp_ok, wps_ok, w_dct0, a_dct1, wps_bt, a_bt, x_parM, w_evT, w_evF, a_alT, a_alN, a_stl, k_pm1, k_pm2, tB, oK_some, a_at, a_atB, a_atD, a_opb, a_opa, a_cmb, a_cma, a_ixb, a_ixa, a_neg, a_chT, a_chF, a_cha2, a_cha, a_brAT, a_brAF, a_brOT, a_brOF, a_brIT, a_brIF, a_brST, a_brSF, a_and, a_or, a_not, a_ite, a_if, a_prim, a_isi, a_set, a_slb, a_o, a_src, a_rng, a_bo0, a_bo1, a_brCT, a_brCF, a_cond, a_sid, a_sic, a_sib, a_mea, a_meb, a_mec, b_add, b_sub, c_lt, c_le, c_gt, c_ge, c_eqI, c_neI, c_eqS, c_neS, c_isB, c_isnotB, p_lenL, p_lenT, p_int, p_max, p_min, p_tupL, p_lstT, p_lstL, i_l, i_t, at0, at1, at2, t_bool, s_l, s_t, bp_nm, bp_tp, bps0, bps1, sr_l, sr_t, sr_n, startE, wipe, List.map_cons, List.map_nil, List.length_cons, List.length_nil, List.replicate, List.cons_append, List.nil_append, List.append_nil, Nat.reduceAdd, Nat.reduceSub, Nat.reduceMul, List.getElem?_cons_zero, List.getElem?_cons_succ, List.getElem?_nil, List.set_cons_zero, List.set_cons_succ, List.mapM_cons, List.mapM_nil, Option.pure_def, Option.bind_eq_bind, Option.bind_some, Bool.not_true, Bool.not_false]
    refine (pick k1.2.2 hne (by omega)).mono ?_
    rintro v s2 ⟨⟨y, hy, rfl⟩, k2⟩
    obtain ⟨i, j, f, e, rfl, q1, q2, q3, q4⟩ := tp y hy
    simp only [w_var, a_var, w_con, w_glo, w_op, k_op1, k_op2, w_neg, k_neg, w_cmp, k_cm1, k_cm2, w_chain, k_ch1, k_ch2, w_and, k_and, w_or, k_or, w_not, k_not, w_ite, k_ite, w_tup, k_tup, w_lst, k_lst, w_call, k_call, w_prim, k_prim, w_isi, k_isi, w_ix, k_ix1, k_ix2, w_ts0, w_ts, k_ts1, k_ts2, w_ds0, w_ds, k_ds1d, k_ds1n, k_ds2, x_nil, x_cons, x_set, k_set, x_setM, k_setMt, k_setMn, x_expr, k_expr, x_ret, k_ret, x_retN, x_pass, x_ife, k_if, x_for, k_for, k_finN, k_finD, k_finL, st_t, st_n, rd_d, rd_ref, w_sl, k_sl, k_sl1, k_sl2, w_o0, w_o_var, w_o_con, w_o_op, k_o, w_it_var, w_it_con, w_it_ix, w_it_lst, w_it_tup, w_it_call, w_it_prim, w_it_sl, w_it_op, w_it_comp, w_it_ite, k_src, w_rng, k_rng, w_comp, k_comp, k_eltD, k_eltN, k_cond, body0, body1, x_setI, k_si1, k_si2, k_si3, w_meth, k_me1, k_me2, nxt_next, nxt_ret, nxt_brk, nxt_cont, wp_ok, wps_ok, w_dct0, a_dct1, wps_bt, a_bt, x_parM, w_evT, w_evF, a_alT, a_alN, a_stl, k_pm1, k_pm2, tB, oK_some, a_at, a_atB, a_atD, a_opb, a_opa, a_cmb, a_cma, a_ixb, a_ixa, a_neg, a_chT, a_chF, a_cha2, a_cha, a_brAT, a_brAF, a_brOT, a_brOF, a_brIT, a_brIF, a_brST, a_brSF, a_and, a_or, a_not, a_ite, a_if, a_prim, a_isi, a_set, a_slb, a_o, a_src, a_rng, a_bo0, a_bo1, a_brCT, a_brCF, a_cond, a_sid, a_sic, a_sib, a_mea, a_meb, a_mec, b_add, b_sub, c_lt, c_le, c_gt, c_ge, c_eqI, c_neI, c_eqS, c_neS, c_isB, c_isnotB, p_lenL, p_lenT, p_int, p_max, p_min, p_tupL, p_lstT, p_lstL, i_l, i_t, at0, at1, at2, t_bool, s_l, s_t, bp_nm, bp_tp, bps0, bps1, sr_l, sr_t, sr_n, startE, wipe, List.map_cons, List.map_nil, List.length_cons, List.length_nil, List.replicate, List.cons_append, List.nil_append, List.append_nil, Nat.reduceAdd, Nat.reduceSub, Nat.reduceMul, List.getElem?_cons_zero, List.getElem?_cons_succ, List.getElem?_nil, List.set_cons_zero, List.set_cons_succ, List.mapM_cons, List.mapM_nil, Option.pure_def, Option.bind_eq_bind, Option.bind_some, Bool.not_true, Bool.not_false]
    rw [b_addL (by simp only [List.length_cons, List.length_nil]; decide)]
    simp only [w_var, a_var, w_con, w_glo, w_op, k_op1, k_op2, w_neg, k_neg, w_cmp, k_cm1, k_cm2, w_chain, k_ch1, k_ch2, w_and, k_and, w_or, k_or, w_not, k_not, w_ite, k_ite, w_tup, k_tup, w_lst, k_lst, w_call, k_call, w_prim, k_prim, w_isi, k_isi, w_ix, k_ix1, k_ix2, w_ts0, w_ts, k_ts1, k_ts2, w_ds0, w_ds, k_ds1d, k_ds1n, k_ds2, x_nil, x_cons, x_set, k_set, x_setM, k_setMt, k_setMn, x_expr, k_expr, x_ret, k_ret, x_retN, x_pass, x_ife, k_if, x_for, k_for, k_finN, k_finD, k_finL, st_t, st_n, rd_d, rd_ref, w_sl, k_sl, k_sl1, k_sl2, w_o0, w_o_var, w_o_con, w_o_op, k_o, w_it_var, w_it_con, w_it_ix, w_it_lst, w_it_tup, w_it_call, w_it_prim, w_it_sl, w_it_op, w_it_comp, w_it_ite, k_src, w_rng, k_rng, w_comp, k_comp, k_eltD, k_eltN, k_cond, body0, body1, x_setI, k_si1, k_si2, k_si3, w_meth, k_me1, k_me2, nxt_next, nxt_ret, nxt_brk, nxt_cont, wp_ok, wps_ok, w_dct0, a_dct1, wps_bt, a_bt, x_parM, w_evT, w_evF, a_alT, a_alN, a_stl, k_pm1, k_pm2, tB, oK_some, a_at, a_atB, a_atD, a_opb, a_opa, a_cmb, a_cma, a_ixb, a_ixa, a_neg, a_chT, a_chF, a_cha2, a_cha, a_brAT, a_brAF, a_brOT, a_brOF, a_brIT, a_brIF, a_brST, a_brSF, a_and, a_or, a_not, a_ite, a_if, a_prim, a_isi, a_set, a_slb, a_o, a_src, a_rng, a_bo0, a_bo1, a_brCT, a_brCF, a_cond, a_sid, a_sic, a_sib, a_mea, a_meb, a_mec, b_add, b_sub, c_lt, c_le, c_gt, c_ge, c_eqI, c_neI, c_eqS, c_neS, c_isB, c_isnotB, p_lenL, p_lenT, p_int, p_max, p_min, p_tupL, p_lstT, p_lstL, i_l, i_t, at0, at1, at2, t_bool, s_l, s_t, bp_nm, bp_tp, bps0, bps1, sr_l, sr_t, sr_n, startE, wipe, List.map_cons, List.map_nil, List.length_cons, List.length_nil, List.replicate, List.cons_append, List.nil_append, List.append_nil, Nat.reduceAdd, Nat.reduceSub, Nat.reduceMul, List.getElem?_cons_zero, List.getElem?_cons_succ, List.getElem?_nil, List.set_cons_zero, List.set_cons_succ, List.mapM_cons, List.mapM_nil, Option.pure_def, Option.bind_eq_bind, Option.bind_some, Bool.not_true, Bool.not_false]
    rw [b_addL (by simp only [List.length_cons, List.length_nil]; decide)]
    simp only [w_var, a_var, w_con, w_glo, w_op, k_op1, k_op2, w_neg, k_neg, w_cmp, k_cm1, k_cm2, w_chain, k_ch1, k_ch2, w_and, k_and, w_or, k_or, w_not, k_not, w_ite, k_ite, w_tup, k_tup, w_lst, k_lst, w_call, k_call, w_prim, k_prim, w_isi, k_isi, w_ix, k_ix1, k_ix2, w_ts0, w_ts, k_ts1, k_ts2, w_ds0, w_ds, k_ds1d, k_ds1n, k_ds2, x_nil, x_cons, x_set, k_set, x_setM, k_setMt, k_setMn, x_expr, k_expr, x_ret, k_ret, x_retN, x_pass, x_ife, k_if, x_for, k_for, k_finN, k_finD, k_finL, st_t, st_n, rd_d, rd_ref, w_sl, k_sl, k_sl1, k_sl2, w_o0, w_o_var, w_o_con, w_o_op, k_o, w_it_var, w_it_con, w_it_ix, w_it_lst, w_it_tup, w_it_call, w_it_prim, w_it_sl, w_it_op, w_it_comp, w_it_ite, k_src, w_rng, k_rng, w_comp, k_comp, k_eltD, k_eltN, k_cond, body0, body1, x_setI, k_si1, k_si2, k_si3, w_meth, k_me1, k_me2, nxt_next, nxt_ret, nxt_brk, nxt_cont, wp_ok, wps_ok, w_dct0, a_dct1, wps_bt, a_bt, x_parM, w_evT, w_evF, a_alT, a_alN, a_stl, k_pm1, k_pm2, tB, oK_some, a_at, a_atB, a_atD, a_opb, a_opa, a_cmb, a_cma, a_ixb, a_ixa, a_neg, a_chT, a_chF, a_cha2, a_cha, a_brAT, a_brAF, a_brOT, a_brOF, a_brIT, a_brIF, a_brST, a_brSF, a_and, a_or, a_not, a_ite, a_if, a_prim, a_isi, a_set, a_slb, a_o, a_src, a_rng, a_bo0, a_bo1, a_brCT, a_brCF, a_cond, a_sid, a_sic, a_sib, a_mea, a_meb, a_mec, b_add, b_sub, c_lt, c_le, c_gt, c_ge, c_eqI, c_neI, c_eqS, c_neS, c_isB, c_isnotB, p_lenL, p_lenT, p_int, p_max, p_min, p_tupL, p_lstT, p_lstL, i_l, i_t, at0, at1, at2, t_bool, s_l, s_t, bp_nm, bp_tp, bps0, bps1, sr_l, sr_t, sr_n, startE, wipe, List.map_cons, List.map_nil, List.length_cons, List.length_nil, List.replicate, List.cons_append, List.nil_append, List.append_nil, Nat.reduceAdd, Nat.reduceSub, Nat.reduceMul, List.getElem?_cons_zero, List.getElem?_cons_succ, List.getElem?_nil, List.set_cons_zero, List.set_cons_succ, List.mapM_cons, List.mapM_nil, Option.pure_def, Option.bind_eq_bind, Option.bind_some, Bool.not_true, Bool.not_false]
    rw [b_addL (by simp only [List.length_cons, List.length_nil]; decide)]
    simp only [oK_some, a_at, k_set, st_n, bp_nm, a_set, nxt_next, x_nil, List.set_cons_zero, List.set_cons_succ]
    refine fin s2 _ _ _ _ _ (k1.trans k2) (by simp) (by simp only [List.length_cons, List.length_nil, List.length_append]; decide) ?_
    repeat' (first | exact all_nil | refine all_cons ?_ ?_)
    all_goals (apply Sho.mono; (focus (repeat' (first | exact sho_none | exact sho_bool | (refine sho_int ?_; omega; done) | exact sho_str (by decide +kernel) | exact sho_nil | apply sho_cons | apply sho_tup | apply sho_lst))); all_goals decide +kernel)
end
end Lw


namespace Lw
open MP
open PySem (PyData)
theorem rep_mem {xs : List D} {k : Int} {y : D} (h : y ∈ repD xs k) : y ∈ xs := by
  unfold repD at h
  obtain ⟨l, hl, hy⟩ := List.mem_flatten.mp h
  rw [(List.mem_replicate.mp hl).2] at hy
  exact hy
theorem rep_len {xs : List D} {k : Int} : (repD xs k).length = k.toNat * xs.length := by
  unfold repD
  simp
section
variable {n wf : Nat} {st : Store} {c : Nat}
theorem bent {x : D} (h : Sr st c) (hx : Nt x) : (callN tbl wf (n + 4) 21 [.ref c, .d x] st).wp fun v st' => (∃ y, v = .t (.d y) ∧ Thing y) ∧ Sm c st st' := by
  have hxb := hx.nb
  have hx0 := hx
  obtain ⟨last, pts, ts, rfl, l0, l1, pl, pp, tl, tp⟩ := hx
  have sl : Sho 660 4 (.int last) := (sho_int (by omega)).mono (by decide) (by decide)
  have ip : ∀ y ∈ pts, Ite y := fun y hy => pt_ite (by omega) (pp y hy)
  have it : ∀ y ∈ ts, Ite y := fun y hy => ti_ite (tp y hy)
  have rp := row_tup ip (by omega)
  have rt := row_tup it (by omega)
  rw [wp_callN (d := d__law_bent) rfl rfl]
  unfold d__law_bent
  simp only [w_var, a_var, w_con, w_glo, w_op, k_op1, k_op2, w_neg, k_neg, w_cmp, k_cm1, k_cm2, w_chain, k_ch1, k_ch2, w_and, k_and, w_or, k_or, w_not, k_not, w_ite, k_ite, w_tup, k_tup, w_lst, k_lst, w_call, k_call, w_prim, k_prim, w_isi, k_isi, w_ix, k_ix1, k_ix2, w_ts0, w_ts, k_ts1, k_ts2, w_ds0, w_ds, k_ds1d, k_ds1n, k_ds2, x_nil, x_cons, x_set, k_set, x_setM, k_setMt, k_setMn, x_expr, k_expr, x_ret, k_ret, x_retN, x_pass, x_ife, k_if, x_for, k_for, k_finN, k_finD, k_finL, st_t, st_n, rd_d, rd_ref, w_sl, k_sl, k_sl1, k_sl2, w_o0, w_o_var, w_o_con, w_o_op, k_o, w_it_var, w_it_con, w_it_ix, w_it_lst, w_it_tup, w_it_call, w_it_prim, w_it_sl, w_it_op, w_it_comp, w_it_ite, k_src, w_rng, k_rng, w_comp, k_comp, k_eltD, k_eltN, k_cond, body0, body1, x_setI, k_si1, k_si2, k_si3, w_meth, k_me1, k_me2, nxt_next, nxt_ret, nxt_brk, nxt_cont, wp_ok, wps_ok, w_dct0, a_dct1, wps_bt, a_bt, x_parM, w_evT, w_evF, a_alT, a_alN, a_stl, k_pm1, k_pm2, tB, oK_some, a_at, a_atB, a_atD, a_opb, a_opa, a_cmb, a_cma, a_ixb, a_ixa, a_neg, a_chT, a_chF, a_cha2, a_cha, a_brAT, a_brAF, a_brOT, a_brOF, a_brIT, a_brIF, a_brST, a_brSF, a_and, a_or, a_not, a_ite, a_if, a_prim, a_isi, a_set, a_slb, a_o, a_src, a_rng, a_bo0, a_bo1, a_brCT, a_brCF, a_cond, a_sid, a_sic, a_sib, a_mea, a_meb, a_mec, b_add, b_sub, c_lt, c_le, c_gt, c_ge, c_eqI, c_neI, c_eqS, c_neS, c_isB, c_isnotB, p_lenL, p_lenT, p_int, p_max, p_min, p_tupL, p_lstT, p_lstL, i_l, i_t, at0, at1, at2, t_bool, s_l, s_t, bp_nm, bp_tp, bps0, bps1, sr_l, sr_t, sr_n, startE, wipe, List.map_cons, List.map_nil, List.length_cons, List.length_nil, List.replicate, List.cons_append, List.nil_append, List.append_nil, Nat.reduceAdd, Nat.reduceSub, Nat.reduceMul, List.getElem?_cons_zero, List.getElem?_cons_succ, List.getElem?_nil, List.set_cons_zero, List.set_cons_succ, List.mapM_cons, List.mapM_nil, Option.pure_def, Option.bind_eq_bind, Option.bind_some, Bool.not_true, Bool.not_false]
  refine (draw h (by omega) (by omega)).mono ?_
  rintro v s1 ⟨⟨r, rfl, r0, r1⟩, k1⟩
  simp only [w_var, a_var, w_con, w_glo, w_op, k_op1, k_op2, w_neg, k_neg, w_cmp, k_cm1, k_cm2, w_chain, k_ch1, k_ch2, w_and, k_and, w_or, k_or, w_not, k_not, w_ite, k_ite, w_tup, k_tup, w_lst, k_lst, w_call, k_call, w_prim, k_prim, w_isi, k_isi, w_ix, k_ix1, k_ix2, w_ts0, w_ts, k_ts1, k_ts2, w_ds0, w_ds, k_ds1d, k_ds1n, k_ds2, x_nil, x_cons, x_set, k_set, x_setM, k_setMt, k_setMn, x_expr, k_expr, x_ret, k_ret, x_retN, x_pass, x_ife, k_if, x_for, k_for, k_finN, k_finD, k_finL, st_t, st_n, rd_d, rd_ref, w_sl, k_sl, k_sl1, k_sl2, w_o0, w_o_var, w_o_con, w_o_op, k_o, w_it_var, w_it_con, w_it_ix, w_it_lst, w_it_tup, w_it_call, w_it_prim, w_it_sl, w_it_op, w_it_comp, w_it_ite, k_src, w_rng, k_rng, w_comp, k_comp, k_eltD, k_eltN, k_cond, body0, body1, x_setI, k_si1, k_si2, k_si3, w_meth, k_me1, k_me2, nxt_next, nxt_ret, nxt_brk, nxt_cont, wp_ok, wps_ok, w_dct0, a_dct1, wps_bt, a_bt, x_parM, w_evT, w_evF, a_alT, a_alN, a_stl, k_pm1, k_pm2, tB, oK_some, a_at, a_atB, a_atD, a_opb, a_opa, a_cmb, a_cma, a_ixb, a_ixa, a_neg, a_chT, a_chF, a_cha2, a_cha, a_brAT, a_brAF, a_brOT, a_brOF, a_brIT, a_brIF, a_brST, a_brSF, a_and, a_or, a_not, a_ite, a_if, a_prim, a_isi, a_set, a_slb, a_o, a_src, a_rng, a_bo0, a_bo1, a_brCT, a_brCF, a_cond, a_sid, a_sic, a_sib, a_mea, a_meb, a_mec, b_add, b_sub, c_lt, c_le, c_gt, c_ge, c_eqI, c_neI, c_eqS, c_neS, c_isB, c_isnotB, p_lenL, p_lenT, p_int, p_max, p_min, p_tupL, p_lstT, p_lstL, i_l, i_t, at0, at1, at2, t_bool, s_l, s_t, bp_nm, bp_tp, bps0, bps1, sr_l, sr_t, sr_n, startE, wipe, List.map_cons, List.map_nil, List.length_cons, List.length_nil, List.replicate, List.cons_append, List.nil_append, List.append_nil, Nat.reduceAdd, Nat.reduceSub, Nat.reduceMul, List.getElem?_cons_zero, List.getElem?_cons_succ, List.getElem?_nil, List.set_cons_zero, List.set_cons_succ, List.mapM_cons, List.mapM_nil, Option.pure_def, Option.bind_eq_bind, Option.bind_some, Bool.not_true, Bool.not_false]
  by_cases c1 : r < 2
  · simp only [w_var, a_var, w_con, w_glo, w_op, k_op1, k_op2, w_neg, k_neg, w_cmp, k_cm1, k_cm2, w_chain, k_ch1, k_ch2, w_and, k_and, w_or, k_or, w_not, k_not, w_ite, k_ite, w_tup, k_tup, w_lst, k_lst, w_call, k_call, w_prim, k_prim, w_isi, k_isi, w_ix, k_ix1, k_ix2, w_ts0, w_ts, k_ts1, k_ts2, w_ds0, w_ds, k_ds1d, k_ds1n, k_ds2, x_nil, x_cons, x_set, k_set, x_setM, k_setMt, k_setMn, x_expr, k_expr, x_ret, k_ret, x_retN, x_pass, x_ife, k_if, x_for, k_for, k_finN, k_finD, k_finL, st_t, st_n, rd_d, rd_ref, w_sl, k_sl, k_sl1, k_sl2, w_o0, w_o_var, w_o_con, w_o_op, k_o, w_it_var, w_it_con, w_it_ix, w_it_lst, w_it_tup, w_it_call, w_it_prim, w_it_sl, w_it_op, w_it_comp, w_it_ite, k_src, w_rng, k_rng, w_comp, k_comp, k_eltD, k_eltN, k_cond, body0, body1, x_setI, k_si1, k_si2, k_si3, w_meth, k_me1, k_me2, nxt_next, nxt_ret, nxt_brk, nxt_cont, wp_ok, wps_ok, w_dct0, a_dct1, wps_bt, a_bt, x_parM, w_evT, w_evF, a_alT, a_alN, a_stl, k_pm1, k_pm2, tB, oK_some, a_at, a_atB, a_atD, a_opb, a_opa, a_cmb, a_cma, a_ixb, a_ixa, a_neg, a_chT, a_chF, a_cha2, a_cha, a_brAT, a_brAF, a_brOT, a_brOF, a_brIT, a_brIF, a_brST, a_brSF, a_and, a_or, a_not, a_ite, a_if, a_prim, a_isi, a_set, a_slb, a_o, a_src, a_rng, a_bo0, a_bo1, a_brCT, a_brCF, a_cond, a_sid, a_sic, a_sib, a_mea, a_meb, a_mec, b_add, b_sub, c_lt, c_le, c_gt, c_ge, c_eqI, c_neI, c_eqS, c_neS, c_isB, c_isnotB, p_lenL, p_lenT, p_int, p_max, p_min, p_tupL, p_lstT, p_lstL, i_l, i_t, at0, at1, at2, t_bool, s_l, s_t, bp_nm, bp_tp, bps0, bps1, sr_l, sr_t, sr_n, startE, wipe, List.map_cons, List.map_nil, List.length_cons, List.length_nil, List.replicate, List.cons_append, List.nil_append, List.append_nil, Nat.reduceAdd, Nat.reduceSub, Nat.reduceMul, List.getElem?_cons_zero, List.getElem?_cons_succ, List.getElem?_nil, List.set_cons_zero, List.set_cons_succ, List.mapM_cons, List.mapM_nil, Option.pure_def, Option.bind_eq_bind, Option.bind_some, Bool.not_true, Bool.not_false, decide_eq_true c1]
    refine (bent_point k1.2.2 hx0).mono ?_
    rintro v s2 ⟨⟨y, rfl, hy⟩, k2⟩
    have k3 := k1.trans k2
    simp only [w_var, a_var, w_con, w_glo, w_op, k_op1, k_op2, w_neg, k_neg, w_cmp, k_cm1, k_cm2, w_chain, k_ch1, k_ch2, w_and, k_and, w_or, k_or, w_not, k_not, w_ite, k_ite, w_tup, k_tup, w_lst, k_lst, w_call, k_call, w_prim, k_prim, w_isi, k_isi, w_ix, k_ix1, k_ix2, w_ts0, w_ts, k_ts1, k_ts2, w_ds0, w_ds, k_ds1d, k_ds1n, k_ds2, x_nil, x_cons, x_set, k_set, x_setM, k_setMt, k_setMn, x_expr, k_expr, x_ret, k_ret, x_retN, x_pass, x_ife, k_if, x_for, k_for, k_finN, k_finD, k_finL, st_t, st_n, rd_d, rd_ref, w_sl, k_sl, k_sl1, k_sl2, w_o0, w_o_var, w_o_con, w_o_op, k_o, w_it_var, w_it_con, w_it_ix, w_it_lst, w_it_tup, w_it_call, w_it_prim, w_it_sl, w_it_op, w_it_comp, w_it_ite, k_src, w_rng, k_rng, w_comp, k_comp, k_eltD, k_eltN, k_cond, body0, body1, x_setI, k_si1, k_si2, k_si3, w_meth, k_me1, k_me2, nxt_next, nxt_ret, nxt_brk, nxt_cont, wp_ok, wps_ok, w_dct0, a_dct1, wps_bt, a_bt, x_parM, w_evT, w_evF, a_alT, a_alN, a_stl, k_pm1, k_pm2, tB, oK_some, a_at, a_atB, a_atD, a_opb, a_opa, a_cmb, a_cma, a_ixb, a_ixa, a_neg, a_chT, a_chF, a_cha2, a_cha, a_brAT, a_brAF, a_brOT, a_brOF, a_brIT, a_brIF, a_brST, a_brSF, a_and, a_or, a_not, a_ite, a_if, a_prim, a_isi, a_set, a_slb, a_o, a_src, a_rng, a_bo0, a_bo1, a_brCT, a_brCF, a_cond, a_sid, a_sic, a_sib, a_mea, a_meb, a_mec, b_add, b_sub, c_lt, c_le, c_gt, c_ge, c_eqI, c_neI, c_eqS, c_neS, c_isB, c_isnotB, p_lenL, p_lenT, p_int, p_max, p_min, p_tupL, p_lstT, p_lstL, i_l, i_t, at0, at1, at2, t_bool, s_l, s_t, bp_nm, bp_tp, bps0, bps1, sr_l, sr_t, sr_n, startE, wipe, List.map_cons, List.map_nil, List.length_cons, List.length_nil, List.replicate, List.cons_append, List.nil_append, List.append_nil, Nat.reduceAdd, Nat.reduceSub, Nat.reduceMul, List.getElem?_cons_zero, List.getElem?_cons_succ, List.getElem?_nil, List.set_cons_zero, List.set_cons_succ, List.mapM_cons, List.mapM_nil, Option.pure_def, Option.bind_eq_bind, Option.bind_some, Bool.not_true, Bool.not_false]
    rw [take_len k3.1]
    exact ⟨⟨y, rfl, hy.thing⟩, k3⟩
  · simp only [w_var, a_var, w_con, w_glo, w_op, k_op1, k_op2, w_neg, k_neg, w_cmp, k_cm1, k_cm2, w_chain, k_ch1, k_ch2, w_and, k_and, w_or, k_or, w_not, k_not, w_ite, k_ite, w_tup, k_tup, w_lst, k_lst, w_call, k_call, w_prim, k_prim, w_isi, k_isi, w_ix, k_ix1, k_ix2, w_ts0, w_ts, k_ts1, k_ts2, w_ds0, w_ds, k_ds1d, k_ds1n, k_ds2, x_nil, x_cons, x_set, k_set, x_setM, k_setMt, k_setMn, x_expr, k_expr, x_ret, k_ret, x_retN, x_pass, x_ife, k_if, x_for, k_for, k_finN, k_finD, k_finL, st_t, st_n, rd_d, rd_ref, w_sl, k_sl, k_sl1, k_sl2, w_o0, w_o_var, w_o_con, w_o_op, k_o, w_it_var, w_it_con, w_it_ix, w_it_lst, w_it_tup, w_it_call, w_it_prim, w_it_sl, w_it_op, w_it_comp, w_it_ite, k_src, w_rng, k_rng, w_comp, k_comp, k_eltD, k_eltN, k_cond, body0, body1, x_setI, k_si1, k_si2, k_si3, w_meth, k_me1, k_me2, nxt_next, nxt_ret, nxt_brk, nxt_cont, wp_ok, wps_ok, w_dct0, a_dct1, wps_bt, a_bt, x_parM, w_evT, w_evF, a_alT, a_alN, a_stl, k_pm1, k_pm2, tB, oK_some, a_at, a_atB, a_atD, a_opb, a_opa, a_cmb, a_cma, a_ixb, a_ixa, a_neg, a_chT, a_chF, a_cha2, a_cha, a_brAT, a_brAF, a_brOT, a_brOF, a_brIT, a_brIF, a_brST, a_brSF, a_and, a_or, a_not, a_ite, a_if, a_prim, a_isi, a_set, a_slb, a_o, a_src, a_rng, a_bo0, a_bo1, a_brCT, a_brCF, a_cond, a_sid, a_sic, a_sib, a_mea, a_meb, a_mec, b_add, b_sub, c_lt, c_le, c_gt, c_ge, c_eqI, c_neI, c_eqS, c_neS, c_isB, c_isnotB, p_lenL, p_lenT, p_int, p_max, p_min, p_tupL, p_lstT, p_lstL, i_l, i_t, at0, at1, at2, t_bool, s_l, s_t, bp_nm, bp_tp, bps0, bps1, sr_l, sr_t, sr_n, startE, wipe, List.map_cons, List.map_nil, List.length_cons, List.length_nil, List.replicate, List.cons_append, List.nil_append, List.append_nil, Nat.reduceAdd, Nat.reduceSub, Nat.reduceMul, List.getElem?_cons_zero, List.getElem?_cons_succ, List.getElem?_nil, List.set_cons_zero, List.set_cons_succ, List.mapM_cons, List.mapM_nil, Option.pure_def, Option.bind_eq_bind, Option.bind_some, Bool.not_true, Bool.not_false, decide_eq_false c1]
    by_cases c2 : r < 5
    · simp only [w_var, a_var, w_con, w_glo, w_op, k_op1, k_op2, w_neg, k_neg, w_cmp, k_cm1, k_cm2, w_chain, k_ch1, k_ch2, w_and, k_and, w_or, k_or, w_not, k_not, w_ite, k_ite, w_tup, k_tup, w_lst, k_lst, w_call, k_call, w_prim, k_prim, w_isi, k_isi, w_ix, k_ix1, k_ix2, w_ts0, w_ts, k_ts1, k_ts2, w_ds0, w_ds, k_ds1d, k_ds1n, k_ds2, x_nil, x_cons, x_set, k_set, x_setM, k_setMt, k_setMn, x_expr, k_expr, x_ret, k_ret, x_retN, x_pass, x_ife, k_if, x_for, k_for, k_finN, k_finD, k_finL, st_t, st_n, rd_d, rd_ref, w_sl, k_sl, k_sl1, k_sl2, w_o0, w_o_var, w_o_con, w_o_op, k_o, w_it_var, w_it_con, w_it_ix, w_it_lst, w_it_tup, w_it_call, w_it_prim, w_it_sl, w_it_op, w_it_comp, w_it_ite, k_src, w_rng, k_rng, w_comp, k_comp, k_eltD, k_eltN, k_cond, body0, body1, x_setI, k_si1, k_si2, k_si3, w_meth, k_me1, k_me2, nxt_next, nxt_ret, nxt_brk, nxt_cont, wp_ok, wps_ok, w_dct0, a_dct1, wps_bt, a_bt, x_parM, w_evT, w_evF, a_alT, a_alN, a_stl, k_pm1, k_pm2, tB, oK_some, a_at, a_atB, a_atD, a_opb, a_opa, a_cmb, a_cma, a_ixb, a_ixa, a_neg, a_chT, a_chF, a_cha2, a_cha, a_brAT, a_brAF, a_brOT, a_brOF, a_brIT, a_brIF, a_brST, a_brSF, a_and, a_or, a_not, a_ite, a_if, a_prim, a_isi, a_set, a_slb, a_o, a_src, a_rng, a_bo0, a_bo1, a_brCT, a_brCF, a_cond, a_sid, a_sic, a_sib, a_mea, a_meb, a_mec, b_add, b_sub, c_lt, c_le, c_gt, c_ge, c_eqI, c_neI, c_eqS, c_neS, c_isB, c_isnotB, p_lenL, p_lenT, p_int, p_max, p_min, p_tupL, p_lstT, p_lstL, i_l, i_t, at0, at1, at2, t_bool, s_l, s_t, bp_nm, bp_tp, bps0, bps1, sr_l, sr_t, sr_n, startE, wipe, List.map_cons, List.map_nil, List.length_cons, List.length_nil, List.replicate, List.cons_append, List.nil_append, List.append_nil, Nat.reduceAdd, Nat.reduceSub, Nat.reduceMul, List.getElem?_cons_zero, List.getElem?_cons_succ, List.getElem?_nil, List.set_cons_zero, List.set_cons_succ, List.mapM_cons, List.mapM_nil, Option.pure_def, Option.bind_eq_bind, Option.bind_some, Bool.not_true, Bool.not_false, decide_eq_true c2]
      refine (bent_tie k1.2.2 hxb).mono ?_
      rintro v s2 ⟨⟨y, rfl, hy⟩, k2⟩
      have k3 := k1.trans k2
      simp only [w_var, a_var, w_con, w_glo, w_op, k_op1, k_op2, w_neg, k_neg, w_cmp, k_cm1, k_cm2, w_chain, k_ch1, k_ch2, w_and, k_and, w_or, k_or, w_not, k_not, w_ite, k_ite, w_tup, k_tup, w_lst, k_lst, w_call, k_call, w_prim, k_prim, w_isi, k_isi, w_ix, k_ix1, k_ix2, w_ts0, w_ts, k_ts1, k_ts2, w_ds0, w_ds, k_ds1d, k_ds1n, k_ds2, x_nil, x_cons, x_set, k_set, x_setM, k_setMt, k_setMn, x_expr, k_expr, x_ret, k_ret, x_retN, x_pass, x_ife, k_if, x_for, k_for, k_finN, k_finD, k_finL, st_t, st_n, rd_d, rd_ref, w_sl, k_sl, k_sl1, k_sl2, w_o0, w_o_var, w_o_con, w_o_op, k_o, w_it_var, w_it_con, w_it_ix, w_it_lst, w_it_tup, w_it_call, w_it_prim, w_it_sl, w_it_op, w_it_comp, w_it_ite, k_src, w_rng, k_rng, w_comp, k_comp, k_eltD, k_eltN, k_cond, body0, body1, x_setI, k_si1, k_si2, k_si3, w_meth, k_me1, k_me2, nxt_next, nxt_ret, nxt_brk, nxt_cont, wp_ok, wps_ok, w_dct0, a_dct1, wps_bt, a_bt, x_parM, w_evT, w_evF, a_alT, a_alN, a_stl, k_pm1, k_pm2, tB, oK_some, a_at, a_atB, a_atD, a_opb, a_opa, a_cmb, a_cma, a_ixb, a_ixa, a_neg, a_chT, a_chF, a_cha2, a_cha, a_brAT, a_brAF, a_brOT, a_brOF, a_brIT, a_brIF, a_brST, a_brSF, a_and, a_or, a_not, a_ite, a_if, a_prim, a_isi, a_set, a_slb, a_o, a_src, a_rng, a_bo0, a_bo1, a_brCT, a_brCF, a_cond, a_sid, a_sic, a_sib, a_mea, a_meb, a_mec, b_add, b_sub, c_lt, c_le, c_gt, c_ge, c_eqI, c_neI, c_eqS, c_neS, c_isB, c_isnotB, p_lenL, p_lenT, p_int, p_max, p_min, p_tupL, p_lstT, p_lstL, i_l, i_t, at0, at1, at2, t_bool, s_l, s_t, bp_nm, bp_tp, bps0, bps1, sr_l, sr_t, sr_n, startE, wipe, List.map_cons, List.map_nil, List.length_cons, List.length_nil, List.replicate, List.cons_append, List.nil_append, List.append_nil, Nat.reduceAdd, Nat.reduceSub, Nat.reduceMul, List.getElem?_cons_zero, List.getElem?_cons_succ, List.getElem?_nil, List.set_cons_zero, List.set_cons_succ, List.mapM_cons, List.mapM_nil, Option.pure_def, Option.bind_eq_bind, Option.bind_some, Bool.not_true, Bool.not_false]
      rw [take_len k3.1]
      exact ⟨⟨y, rfl, hy⟩, k3⟩
    · simp only [w_var, a_var, w_con, w_glo, w_op, k_op1, k_op2, w_neg, k_neg, w_cmp, k_cm1, k_cm2, w_chain, k_ch1, k_ch2, w_and, k_and, w_or, k_or, w_not, k_not, w_ite, k_ite, w_tup, k_tup, w_lst, k_lst, w_call, k_call, w_prim, k_prim, w_isi, k_isi, w_ix, k_ix1, k_ix2, w_ts0, w_ts, k_ts1, k_ts2, w_ds0, w_ds, k_ds1d, k_ds1n, k_ds2, x_nil, x_cons, x_set, k_set, x_setM, k_setMt, k_setMn, x_expr, k_expr, x_ret, k_ret, x_retN, x_pass, x_ife, k_if, x_for, k_for, k_finN, k_finD, k_finL, st_t, st_n, rd_d, rd_ref, w_sl, k_sl, k_sl1, k_sl2, w_o0, w_o_var, w_o_con, w_o_op, k_o, w_it_var, w_it_con, w_it_ix, w_it_lst, w_it_tup, w_it_call, w_it_prim, w_it_sl, w_it_op, w_it_comp, w_it_ite, k_src, w_rng, k_rng, w_comp, k_comp, k_eltD, k_eltN, k_cond, body0, body1, x_setI, k_si1, k_si2, k_si3, w_meth, k_me1, k_me2, nxt_next, nxt_ret, nxt_brk, nxt_cont, wp_ok, wps_ok, w_dct0, a_dct1, wps_bt, a_bt, x_parM, w_evT, w_evF, a_alT, a_alN, a_stl, k_pm1, k_pm2, tB, oK_some, a_at, a_atB, a_atD, a_opb, a_opa, a_cmb, a_cma, a_ixb, a_ixa, a_neg, a_chT, a_chF, a_cha2, a_cha, a_brAT, a_brAF, a_brOT, a_brOF, a_brIT, a_brIF, a_brST, a_brSF, a_and, a_or, a_not, a_ite, a_if, a_prim, a_isi, a_set, a_slb, a_o, a_src, a_rng, a_bo0, a_bo1, a_brCT, a_brCF, a_cond, a_sid, a_sic, a_sib, a_mea, a_meb, a_mec, b_add, b_sub, c_lt, c_le, c_gt, c_ge, c_eqI, c_neI, c_eqS, c_neS, c_isB, c_isnotB, p_lenL, p_lenT, p_int, p_max, p_min, p_tupL, p_lstT, p_lstL, i_l, i_t, at0, at1, at2, t_bool, s_l, s_t, bp_nm, bp_tp, bps0, bps1, sr_l, sr_t, sr_n, startE, wipe, List.map_cons, List.map_nil, List.length_cons, List.length_nil, List.replicate, List.cons_append, List.nil_append, List.append_nil, Nat.reduceAdd, Nat.reduceSub, Nat.reduceMul, List.getElem?_cons_zero, List.getElem?_cons_succ, List.getElem?_nil, List.set_cons_zero, List.set_cons_succ, List.mapM_cons, List.mapM_nil, Option.pure_def, Option.bind_eq_bind, Option.bind_some, Bool.not_true, Bool.not_false, decide_eq_false c2]
      by_cases c3 : r = 5
      · simp only [w_var, a_var, w_con, w_glo, w_op, k_op1, k_op2, w_neg, k_neg, w_cmp, k_cm1, k_cm2, w_chain, k_ch1, k_ch2, w_and, k_and, w_or, k_or, w_not, k_not, w_ite, k_ite, w_tup, k_tup, w_lst, k_lst, w_call, k_call, w_prim, k_prim, w_isi, k_isi, w_ix, k_ix1, k_ix2, w_ts0, w_ts, k_ts1, k_ts2, w_ds0, w_ds, k_ds1d, k_ds1n, k_ds2, x_nil, x_cons, x_set, k_set, x_setM, k_setMt, k_setMn, x_expr, k_expr, x_ret, k_ret, x_retN, x_pass, x_ife, k_if, x_for, k_for, k_finN, k_finD, k_finL, st_t, st_n, rd_d, rd_ref, w_sl, k_sl, k_sl1, k_sl2, w_o0, w_o_var, w_o_con, w_o_op, k_o, w_it_var, w_it_con, w_it_ix, w_it_lst, w_it_tup, w_it_call, w_it_prim, w_it_sl, w_it_op, w_it_comp, w_it_ite, k_src, w_rng, k_rng, w_comp, k_comp, k_eltD, k_eltN, k_cond, body0, body1, x_setI, k_si1, k_si2, k_si3, w_meth, k_me1, k_me2, nxt_next, nxt_ret, nxt_brk, nxt_cont, wp_ok, wps_ok, w_dct0, a_dct1, wps_bt, a_bt, x_parM, w_evT, w_evF, a_alT, a_alN, a_stl, k_pm1, k_pm2, tB, oK_some, a_at, a_atB, a_atD, a_opb, a_opa, a_cmb, a_cma, a_ixb, a_ixa, a_neg, a_chT, a_chF, a_cha2, a_cha, a_brAT, a_brAF, a_brOT, a_brOF, a_brIT, a_brIF, a_brST, a_brSF, a_and, a_or, a_not, a_ite, a_if, a_prim, a_isi, a_set, a_slb, a_o, a_src, a_rng, a_bo0, a_bo1, a_brCT, a_brCF, a_cond, a_sid, a_sic, a_sib, a_mea, a_meb, a_mec, b_add, b_sub, c_lt, c_le, c_gt, c_ge, c_eqI, c_neI, c_eqS, c_neS, c_isB, c_isnotB, p_lenL, p_lenT, p_int, p_max, p_min, p_tupL, p_lstT, p_lstL, i_l, i_t, at0, at1, at2, t_bool, s_l, s_t, bp_nm, bp_tp, bps0, bps1, sr_l, sr_t, sr_n, startE, wipe, List.map_cons, List.map_nil, List.length_cons, List.length_nil, List.replicate, List.cons_append, List.nil_append, List.append_nil, Nat.reduceAdd, Nat.reduceSub, Nat.reduceMul, List.getElem?_cons_zero, List.getElem?_cons_succ, List.getElem?_nil, List.set_cons_zero, List.set_cons_succ, List.mapM_cons, List.mapM_nil, Option.pure_def, Option.bind_eq_bind, Option.bind_some, Bool.not_true, Bool.not_false, decide_eq_true c3, b_pow (show powOk 10 30 = true by decide +kernel)]
        refine (pick k1.2.2 (by simp) (by simp only [List.length_cons, List.length_nil]; decide)).mono ?_
        rintro v s2 ⟨⟨y, hy, rfl⟩, k2⟩
        have iy : Sho 660 4 y := by
          revert y
          repeat' (first | exact all_nil | refine all_cons ?_ ?_)
          all_goals first | (exact (sho_big (n := 30) (by decide +kernel) (by decide +kernel)).mono (by decide) (by decide)) | (apply Sho.mono; (focus (repeat' (first | exact sho_none | exact sho_bool | (refine sho_int ?_; omega; done) | exact sho_str (by decide +kernel) | exact sho_nil | apply sho_cons | apply sho_tup | apply sho_lst))); all_goals decide +kernel)
        have k3 := k1.trans k2
        simp only [w_var, a_var, w_con, w_glo, w_op, k_op1, k_op2, w_neg, k_neg, w_cmp, k_cm1, k_cm2, w_chain, k_ch1, k_ch2, w_and, k_and, w_or, k_or, w_not, k_not, w_ite, k_ite, w_tup, k_tup, w_lst, k_lst, w_call, k_call, w_prim, k_prim, w_isi, k_isi, w_ix, k_ix1, k_ix2, w_ts0, w_ts, k_ts1, k_ts2, w_ds0, w_ds, k_ds1d, k_ds1n, k_ds2, x_nil, x_cons, x_set, k_set, x_setM, k_setMt, k_setMn, x_expr, k_expr, x_ret, k_ret, x_retN, x_pass, x_ife, k_if, x_for, k_for, k_finN, k_finD, k_finL, st_t, st_n, rd_d, rd_ref, w_sl, k_sl, k_sl1, k_sl2, w_o0, w_o_var, w_o_con, w_o_op, k_o, w_it_var, w_it_con, w_it_ix, w_it_lst, w_it_tup, w_it_call, w_it_prim, w_it_sl, w_it_op, w_it_comp, w_it_ite, k_src, w_rng, k_rng, w_comp, k_comp, k_eltD, k_eltN, k_cond, body0, body1, x_setI, k_si1, k_si2, k_si3, w_meth, k_me1, k_me2, nxt_next, nxt_ret, nxt_brk, nxt_cont, wp_ok, wps_ok, w_dct0, a_dct1, wps_bt, a_bt, x_parM, w_evT, w_evF, a_alT, a_alN, a_stl, k_pm1, k_pm2, tB, oK_some, a_at, a_atB, a_atD, a_opb, a_opa, a_cmb, a_cma, a_ixb, a_ixa, a_neg, a_chT, a_chF, a_cha2, a_cha, a_brAT, a_brAF, a_brOT, a_brOF, a_brIT, a_brIF, a_brST, a_brSF, a_and, a_or, a_not, a_ite, a_if, a_prim, a_isi, a_set, a_slb, a_o, a_src, a_rng, a_bo0, a_bo1, a_brCT, a_brCF, a_cond, a_sid, a_sic, a_sib, a_mea, a_meb, a_mec, b_add, b_sub, c_lt, c_le, c_gt, c_ge, c_eqI, c_neI, c_eqS, c_neS, c_isB, c_isnotB, p_lenL, p_lenT, p_int, p_max, p_min, p_tupL, p_lstT, p_lstL, i_l, i_t, at0, at1, at2, t_bool, s_l, s_t, bp_nm, bp_tp, bps0, bps1, sr_l, sr_t, sr_n, startE, wipe, List.map_cons, List.map_nil, List.length_cons, List.length_nil, List.replicate, List.cons_append, List.nil_append, List.append_nil, Nat.reduceAdd, Nat.reduceSub, Nat.reduceMul, List.getElem?_cons_zero, List.getElem?_cons_succ, List.getElem?_nil, List.set_cons_zero, List.set_cons_succ, List.mapM_cons, List.mapM_nil, Option.pure_def, Option.bind_eq_bind, Option.bind_some, Bool.not_true, Bool.not_false]
        rw [take_len k3.1]
        exact ⟨⟨_, rfl, thing3 iy rp rt⟩, k3⟩
      · simp only [w_var, a_var, w_con, w_glo, w_op, k_op1, k_op2, w_neg, k_neg, w_cmp, k_cm1, k_cm2, w_chain, k_ch1, k_ch2, w_and, k_and, w_or, k_or, w_not, k_not, w_ite, k_ite, w_tup, k_tup, w_lst, k_lst, w_call, k_call, w_prim, k_prim, w_isi, k_isi, w_ix, k_ix1, k_ix2, w_ts0, w_ts, k_ts1, k_ts2, w_ds0, w_ds, k_ds1d, k_ds1n, k_ds2, x_nil, x_cons, x_set, k_set, x_setM, k_setMt, k_setMn, x_expr, k_expr, x_ret, k_ret, x_retN, x_pass, x_ife, k_if, x_for, k_for, k_finN, k_finD, k_finL, st_t, st_n, rd_d, rd_ref, w_sl, k_sl, k_sl1, k_sl2, w_o0, w_o_var, w_o_con, w_o_op, k_o, w_it_var, w_it_con, w_it_ix, w_it_lst, w_it_tup, w_it_call, w_it_prim, w_it_sl, w_it_op, w_it_comp, w_it_ite, k_src, w_rng, k_rng, w_comp, k_comp, k_eltD, k_eltN, k_cond, body0, body1, x_setI, k_si1, k_si2, k_si3, w_meth, k_me1, k_me2, nxt_next, nxt_ret, nxt_brk, nxt_cont, wp_ok, wps_ok, w_dct0, a_dct1, wps_bt, a_bt, x_parM, w_evT, w_evF, a_alT, a_alN, a_stl, k_pm1, k_pm2, tB, oK_some, a_at, a_atB, a_atD, a_opb, a_opa, a_cmb, a_cma, a_ixb, a_ixa, a_neg, a_chT, a_chF, a_cha2, a_cha, a_brAT, a_brAF, a_brOT, a_brOF, a_brIT, a_brIF, a_brST, a_brSF, a_and, a_or, a_not, a_ite, a_if, a_prim, a_isi, a_set, a_slb, a_o, a_src, a_rng, a_bo0, a_bo1, a_brCT, a_brCF, a_cond, a_sid, a_sic, a_sib, a_mea, a_meb, a_mec, b_add, b_sub, c_lt, c_le, c_gt, c_ge, c_eqI, c_neI, c_eqS, c_neS, c_isB, c_isnotB, p_lenL, p_lenT, p_int, p_max, p_min, p_tupL, p_lstT, p_lstL, i_l, i_t, at0, at1, at2, t_bool, s_l, s_t, bp_nm, bp_tp, bps0, bps1, sr_l, sr_t, sr_n, startE, wipe, List.map_cons, List.map_nil, List.length_cons, List.length_nil, List.replicate, List.cons_append, List.nil_append, List.append_nil, Nat.reduceAdd, Nat.reduceSub, Nat.reduceMul, List.getElem?_cons_zero, List.getElem?_cons_succ, List.getElem?_nil, List.set_cons_zero, List.set_cons_succ, List.mapM_cons, List.mapM_nil, Option.pure_def, Option.bind_eq_bind, Option.bind_some, Bool.not_true, Bool.not_false, decide_eq_false c3]
        by_cases c4 : r = 6
        · simp only [w_var, a_var, w_con, w_glo, w_op, k_op1, k_op2, w_neg, k_neg, w_cmp, k_cm1, k_cm2, w_chain, k_ch1, k_ch2, w_and, k_and, w_or, k_or, w_not, k_not, w_ite, k_ite, w_tup, k_tup, w_lst, k_lst, w_call, k_call, w_prim, k_prim, w_isi, k_isi, w_ix, k_ix1, k_ix2, w_ts0, w_ts, k_ts1, k_ts2, w_ds0, w_ds, k_ds1d, k_ds1n, k_ds2, x_nil, x_cons, x_set, k_set, x_setM, k_setMt, k_setMn, x_expr, k_expr, x_ret, k_ret, x_retN, x_pass, x_ife, k_if, x_for, k_for, k_finN, k_finD, k_finL, st_t, st_n, rd_d, rd_ref, w_sl, k_sl, k_sl1, k_sl2, w_o0, w_o_var, w_o_con, w_o_op, k_o, w_it_var, w_it_con, w_it_ix, w_it_lst, w_it_tup, w_it_call, w_it_prim, w_it_sl, w_it_op, w_it_comp, w_it_ite, k_src, w_rng, k_rng, w_comp, k_comp, k_eltD, k_eltN, k_cond, body0, body1, x_setI, k_si1, k_si2, k_si3, w_meth, k_me1, k_me2, nxt_next, nxt_ret, nxt_brk, nxt_cont, wp_ok, wps_ok, w_dct0, a_dct1, wps_bt, a_bt, x_parM, w_evT, w_evF, a_alT, a_alN, a_stl, k_pm1, k_pm2, tB, oK_some, a_at, a_atB, a_atD, a_opb, a_opa, a_cmb, a_cma, a_ixb, a_ixa, a_neg, a_chT, a_chF, a_cha2, a_cha, a_brAT, a_brAF, a_brOT, a_brOF, a_brIT, a_brIF, a_brST, a_brSF, a_and, a_or, a_not, a_ite, a_if, a_prim, a_isi, a_set, a_slb, a_o, a_src, a_rng, a_bo0, a_bo1, a_brCT, a_brCF, a_cond, a_sid, a_sic, a_sib, a_mea, a_meb, a_mec, b_add, b_sub, c_lt, c_le, c_gt, c_ge, c_eqI, c_neI, c_eqS, c_neS, c_isB, c_isnotB, p_lenL, p_lenT, p_int, p_max, p_min, p_tupL, p_lstT, p_lstL, i_l, i_t, at0, at1, at2, t_bool, s_l, s_t, bp_nm, bp_tp, bps0, bps1, sr_l, sr_t, sr_n, startE, wipe, List.map_cons, List.map_nil, List.length_cons, List.length_nil, List.replicate, List.cons_append, List.nil_append, List.append_nil, Nat.reduceAdd, Nat.reduceSub, Nat.reduceMul, List.getElem?_cons_zero, List.getElem?_cons_succ, List.getElem?_nil, List.set_cons_zero, List.set_cons_succ, List.mapM_cons, List.mapM_nil, Option.pure_def, Option.bind_eq_bind, Option.bind_some, Bool.not_true, Bool.not_false, decide_eq_true c4]
          rw [b_addT (by simp only [List.length_cons, List.length_nil]; decide)]
          simp only [w_var, a_var, w_con, w_glo, w_op, k_op1, k_op2, w_neg, k_neg, w_cmp, k_cm1, k_cm2, w_chain, k_ch1, k_ch2, w_and, k_and, w_or, k_or, w_not, k_not, w_ite, k_ite, w_tup, k_tup, w_lst, k_lst, w_call, k_call, w_prim, k_prim, w_isi, k_isi, w_ix, k_ix1, k_ix2, w_ts0, w_ts, k_ts1, k_ts2, w_ds0, w_ds, k_ds1d, k_ds1n, k_ds2, x_nil, x_cons, x_set, k_set, x_setM, k_setMt, k_setMn, x_expr, k_expr, x_ret, k_ret, x_retN, x_pass, x_ife, k_if, x_for, k_for, k_finN, k_finD, k_finL, st_t, st_n, rd_d, rd_ref, w_sl, k_sl, k_sl1, k_sl2, w_o0, w_o_var, w_o_con, w_o_op, k_o, w_it_var, w_it_con, w_it_ix, w_it_lst, w_it_tup, w_it_call, w_it_prim, w_it_sl, w_it_op, w_it_comp, w_it_ite, k_src, w_rng, k_rng, w_comp, k_comp, k_eltD, k_eltN, k_cond, body0, body1, x_setI, k_si1, k_si2, k_si3, w_meth, k_me1, k_me2, nxt_next, nxt_ret, nxt_brk, nxt_cont, wp_ok, wps_ok, w_dct0, a_dct1, wps_bt, a_bt, x_parM, w_evT, w_evF, a_alT, a_alN, a_stl, k_pm1, k_pm2, tB, oK_some, a_at, a_atB, a_atD, a_opb, a_opa, a_cmb, a_cma, a_ixb, a_ixa, a_neg, a_chT, a_chF, a_cha2, a_cha, a_brAT, a_brAF, a_brOT, a_brOF, a_brIT, a_brIF, a_brST, a_brSF, a_and, a_or, a_not, a_ite, a_if, a_prim, a_isi, a_set, a_slb, a_o, a_src, a_rng, a_bo0, a_bo1, a_brCT, a_brCF, a_cond, a_sid, a_sic, a_sib, a_mea, a_meb, a_mec, b_add, b_sub, c_lt, c_le, c_gt, c_ge, c_eqI, c_neI, c_eqS, c_neS, c_isB, c_isnotB, p_lenL, p_lenT, p_int, p_max, p_min, p_tupL, p_lstT, p_lstL, i_l, i_t, at0, at1, at2, t_bool, s_l, s_t, bp_nm, bp_tp, bps0, bps1, sr_l, sr_t, sr_n, startE, wipe, List.map_cons, List.map_nil, List.length_cons, List.length_nil, List.replicate, List.cons_append, List.nil_append, List.append_nil, Nat.reduceAdd, Nat.reduceSub, Nat.reduceMul, List.getElem?_cons_zero, List.getElem?_cons_succ, List.getElem?_nil, List.set_cons_zero, List.set_cons_succ, List.mapM_cons, List.mapM_nil, Option.pure_def, Option.bind_eq_bind, Option.bind_some, Bool.not_true, Bool.not_false]
          refine (pick k1.2.2 (by simp) (by simp only [List.length_cons, List.length_nil]; decide)).mono ?_
          rintro v s2 ⟨⟨y, hy, rfl⟩, k2⟩
          have iy : Thing y := by
            revert y
            refine all_cons ?_ (all_cons ?_ (all_cons ?_ (all_cons ?_ (all_cons ?_ all_nil))))
            · exact repr_ok (sho_lst (sho_cons sl (sho_cons rp (sho_cons rt sho_nil)))) (by decide) (by decide)
            · exact repr_ok (b := 1322) (d := 5) ((sho_tup (sho_cons sl (sho_cons rp sho_nil))).mono (by decide) (by decide)) (by decide) (by decide)
            · exact repr_ok ((sho_tup (sho_cons sl (sho_cons rp (sho_cons rt (sho_cons (sho_int (i := 0) (by decide)) sho_nil)))))) (by decide) (by decide)
            · exact thing3 sl (row_lst ip (by omega)) rt
            · exact thing3 sl rp (row_lst it (by omega))
          have k3 := k1.trans k2
          simp only [w_var, a_var, w_con, w_glo, w_op, k_op1, k_op2, w_neg, k_neg, w_cmp, k_cm1, k_cm2, w_chain, k_ch1, k_ch2, w_and, k_and, w_or, k_or, w_not, k_not, w_ite, k_ite, w_tup, k_tup, w_lst, k_lst, w_call, k_call, w_prim, k_prim, w_isi, k_isi, w_ix, k_ix1, k_ix2, w_ts0, w_ts, k_ts1, k_ts2, w_ds0, w_ds, k_ds1d, k_ds1n, k_ds2, x_nil, x_cons, x_set, k_set, x_setM, k_setMt, k_setMn, x_expr, k_expr, x_ret, k_ret, x_retN, x_pass, x_ife, k_if, x_for, k_for, k_finN, k_finD, k_finL, st_t, st_n, rd_d, rd_ref, w_sl, k_sl, k_sl1, k_sl2, w_o0, w_o_var, w_o_con, w_o_op, k_o, w_it_var, w_it_con, w_it_ix, w_it_lst, w_it_tup, w_it_call, w_it_prim, w_it_sl, w_it_op, w_it_comp, w_it_ite, k_src, w_rng, k_rng, w_comp, k_comp, k_eltD, k_eltN, k_cond, body0, body1, x_setI, k_si1, k_si2, k_si3, w_meth, k_me1, k_me2, nxt_next, nxt_ret, nxt_brk, nxt_cont, wp_ok, wps_ok, w_dct0, a_dct1, wps_bt, a_bt, x_parM, w_evT, w_evF, a_alT, a_alN, a_stl, k_pm1, k_pm2, tB, oK_some, a_at, a_atB, a_atD, a_opb, a_opa, a_cmb, a_cma, a_ixb, a_ixa, a_neg, a_chT, a_chF, a_cha2, a_cha, a_brAT, a_brAF, a_brOT, a_brOF, a_brIT, a_brIF, a_brST, a_brSF, a_and, a_or, a_not, a_ite, a_if, a_prim, a_isi, a_set, a_slb, a_o, a_src, a_rng, a_bo0, a_bo1, a_brCT, a_brCF, a_cond, a_sid, a_sic, a_sib, a_mea, a_meb, a_mec, b_add, b_sub, c_lt, c_le, c_gt, c_ge, c_eqI, c_neI, c_eqS, c_neS, c_isB, c_isnotB, p_lenL, p_lenT, p_int, p_max, p_min, p_tupL, p_lstT, p_lstL, i_l, i_t, at0, at1, at2, t_bool, s_l, s_t, bp_nm, bp_tp, bps0, bps1, sr_l, sr_t, sr_n, startE, wipe, List.map_cons, List.map_nil, List.length_cons, List.length_nil, List.replicate, List.cons_append, List.nil_append, List.append_nil, Nat.reduceAdd, Nat.reduceSub, Nat.reduceMul, List.getElem?_cons_zero, List.getElem?_cons_succ, List.getElem?_nil, List.set_cons_zero, List.set_cons_succ, List.mapM_cons, List.mapM_nil, Option.pure_def, Option.bind_eq_bind, Option.bind_some, Bool.not_true, Bool.not_false]
          rw [take_len k3.1]
          exact ⟨⟨_, rfl, iy⟩, k3⟩
        · simp only [w_var, a_var, w_con, w_glo, w_op, k_op1, k_op2, w_neg, k_neg, w_cmp, k_cm1, k_cm2, w_chain, k_ch1, k_ch2, w_and, k_and, w_or, k_or, w_not, k_not, w_ite, k_ite, w_tup, k_tup, w_lst, k_lst, w_call, k_call, w_prim, k_prim, w_isi, k_isi, w_ix, k_ix1, k_ix2, w_ts0, w_ts, k_ts1, k_ts2, w_ds0, w_ds, k_ds1d, k_ds1n, k_ds2, x_nil, x_cons, x_set, k_set, x_setM, k_setMt, k_setMn, x_expr, k_expr, x_ret, k_ret, x_retN, x_pass, x_ife, k_if, x_for, k_for, k_finN, k_finD, k_finL, st_t, st_n, rd_d, rd_ref, w_sl, k_sl, k_sl1, k_sl2, w_o0, w_o_var, w_o_con, w_o_op, k_o, w_it_var, w_it_con, w_it_ix, w_it_lst, w_it_tup, w_it_call, w_it_prim, w_it_sl, w_it_op, w_it_comp, w_it_ite, k_src, w_rng, k_rng, w_comp, k_comp, k_eltD, k_eltN, k_cond, body0, body1, x_setI, k_si1, k_si2, k_si3, w_meth, k_me1, k_me2, nxt_next, nxt_ret, nxt_brk, nxt_cont, wp_ok, wps_ok, w_dct0, a_dct1, wps_bt, a_bt, x_parM, w_evT, w_evF, a_alT, a_alN, a_stl, k_pm1, k_pm2, tB, oK_some, a_at, a_atB, a_atD, a_opb, a_opa, a_cmb, a_cma, a_ixb, a_ixa, a_neg, a_chT, a_chF, a_cha2, a_cha, a_brAT, a_brAF, a_brOT, a_brOF, a_brIT, a_brIF, a_brST, a_brSF, a_and, a_or, a_not, a_ite, a_if, a_prim, a_isi, a_set, a_slb, a_o, a_src, a_rng, a_bo0, a_bo1, a_brCT, a_brCF, a_cond, a_sid, a_sic, a_sib, a_mea, a_meb, a_mec, b_add, b_sub, c_lt, c_le, c_gt, c_ge, c_eqI, c_neI, c_eqS, c_neS, c_isB, c_isnotB, p_lenL, p_lenT, p_int, p_max, p_min, p_tupL, p_lstT, p_lstL, i_l, i_t, at0, at1, at2, t_bool, s_l, s_t, bp_nm, bp_tp, bps0, bps1, sr_l, sr_t, sr_n, startE, wipe, List.map_cons, List.map_nil, List.length_cons, List.length_nil, List.replicate, List.cons_append, List.nil_append, List.append_nil, Nat.reduceAdd, Nat.reduceSub, Nat.reduceMul, List.getElem?_cons_zero, List.getElem?_cons_succ, List.getElem?_nil, List.set_cons_zero, List.set_cons_succ, List.mapM_cons, List.mapM_nil, Option.pure_def, Option.bind_eq_bind, Option.bind_some, Bool.not_true, Bool.not_false, decide_eq_false c4]
          by_cases c5 : r = 7
          · simp only [w_var, a_var, w_con, w_glo, w_op, k_op1, k_op2, w_neg, k_neg, w_cmp, k_cm1, k_cm2, w_chain, k_ch1, k_ch2, w_and, k_and, w_or, k_or, w_not, k_not, w_ite, k_ite, w_tup, k_tup, w_lst, k_lst, w_call, k_call, w_prim, k_prim, w_isi, k_isi, w_ix, k_ix1, k_ix2, w_ts0, w_ts, k_ts1, k_ts2, w_ds0, w_ds, k_ds1d, k_ds1n, k_ds2, x_nil, x_cons, x_set, k_set, x_setM, k_setMt, k_setMn, x_expr, k_expr, x_ret, k_ret, x_retN, x_pass, x_ife, k_if, x_for, k_for, k_finN, k_finD, k_finL, st_t, st_n, rd_d, rd_ref, w_sl, k_sl, k_sl1, k_sl2, w_o0, w_o_var, w_o_con, w_o_op, k_o, w_it_var, w_it_con, w_it_ix, w_it_lst, w_it_tup, w_it_call, w_it_prim, w_it_sl, w_it_op, w_it_comp, w_it_ite, k_src, w_rng, k_rng, w_comp, k_comp, k_eltD, k_eltN, k_cond, body0, body1, x_setI, k_si1, k_si2, k_si3, w_meth, k_me1, k_me2, nxt_next, nxt_ret, nxt_brk, nxt_cont, wp_ok, wps_ok, w_dct0, a_dct1, wps_bt, a_bt, x_parM, w_evT, w_evF, a_alT, a_alN, a_stl, k_pm1, k_pm2, tB, oK_some, a_at, a_atB, a_atD, a_opb, a_opa, a_cmb, a_cma, a_ixb, a_ixa, a_neg, a_chT, a_chF, a_cha2, a_cha, a_brAT, a_brAF, a_brOT, a_brOF, a_brIT, a_brIF, a_brST, a_brSF, a_and, a_or, a_not, a_ite, a_if, a_prim, a_isi, a_set, a_slb, a_o, a_src, a_rng, a_bo0, a_bo1, a_brCT, a_brCF, a_cond, a_sid, a_sic, a_sib, a_mea, a_meb, a_mec, b_add, b_sub, c_lt, c_le, c_gt, c_ge, c_eqI, c_neI, c_eqS, c_neS, c_isB, c_isnotB, p_lenL, p_lenT, p_int, p_max, p_min, p_tupL, p_lstT, p_lstL, i_l, i_t, at0, at1, at2, t_bool, s_l, s_t, bp_nm, bp_tp, bps0, bps1, sr_l, sr_t, sr_n, startE, wipe, List.map_cons, List.map_nil, List.length_cons, List.length_nil, List.replicate, List.cons_append, List.nil_append, List.append_nil, Nat.reduceAdd, Nat.reduceSub, Nat.reduceMul, List.getElem?_cons_zero, List.getElem?_cons_succ, List.getElem?_nil, List.set_cons_zero, List.set_cons_succ, List.mapM_cons, List.mapM_nil, Option.pure_def, Option.bind_eq_bind, Option.bind_some, Bool.not_true, Bool.not_false, decide_eq_true c5]
            rw [b_mulT ⟨by decide, by decide, by omega⟩]
            simp only [w_var, a_var, w_con, w_glo, w_op, k_op1, k_op2, w_neg, k_neg, w_cmp, k_cm1, k_cm2, w_chain, k_ch1, k_ch2, w_and, k_and, w_or, k_or, w_not, k_not, w_ite, k_ite, w_tup, k_tup, w_lst, k_lst, w_call, k_call, w_prim, k_prim, w_isi, k_isi, w_ix, k_ix1, k_ix2, w_ts0, w_ts, k_ts1, k_ts2, w_ds0, w_ds, k_ds1d, k_ds1n, k_ds2, x_nil, x_cons, x_set, k_set, x_setM, k_setMt, k_setMn, x_expr, k_expr, x_ret, k_ret, x_retN, x_pass, x_ife, k_if, x_for, k_for, k_finN, k_finD, k_finL, st_t, st_n, rd_d, rd_ref, w_sl, k_sl, k_sl1, k_sl2, w_o0, w_o_var, w_o_con, w_o_op, k_o, w_it_var, w_it_con, w_it_ix, w_it_lst, w_it_tup, w_it_call, w_it_prim, w_it_sl, w_it_op, w_it_comp, w_it_ite, k_src, w_rng, k_rng, w_comp, k_comp, k_eltD, k_eltN, k_cond, body0, body1, x_setI, k_si1, k_si2, k_si3, w_meth, k_me1, k_me2, nxt_next, nxt_ret, nxt_brk, nxt_cont, wp_ok, wps_ok, w_dct0, a_dct1, wps_bt, a_bt, x_parM, w_evT, w_evF, a_alT, a_alN, a_stl, k_pm1, k_pm2, tB, oK_some, a_at, a_atB, a_atD, a_opb, a_opa, a_cmb, a_cma, a_ixb, a_ixa, a_neg, a_chT, a_chF, a_cha2, a_cha, a_brAT, a_brAF, a_brOT, a_brOF, a_brIT, a_brIF, a_brST, a_brSF, a_and, a_or, a_not, a_ite, a_if, a_prim, a_isi, a_set, a_slb, a_o, a_src, a_rng, a_bo0, a_bo1, a_brCT, a_brCF, a_cond, a_sid, a_sic, a_sib, a_mea, a_meb, a_mec, b_add, b_sub, c_lt, c_le, c_gt, c_ge, c_eqI, c_neI, c_eqS, c_neS, c_isB, c_isnotB, p_lenL, p_lenT, p_int, p_max, p_min, p_tupL, p_lstT, p_lstL, i_l, i_t, at0, at1, at2, t_bool, s_l, s_t, bp_nm, bp_tp, bps0, bps1, sr_l, sr_t, sr_n, startE, wipe, List.map_cons, List.map_nil, List.length_cons, List.length_nil, List.replicate, List.cons_append, List.nil_append, List.append_nil, Nat.reduceAdd, Nat.reduceSub, Nat.reduceMul, List.getElem?_cons_zero, List.getElem?_cons_succ, List.getElem?_nil, List.set_cons_zero, List.set_cons_succ, List.mapM_cons, List.mapM_nil, Option.pure_def, Option.bind_eq_bind, Option.bind_some, Bool.not_true, Bool.not_false]
            rw [take_len k1.1]
            refine ⟨⟨_, rfl, thing3 sl (row_tup (fun y hy => ip y (rep_mem hy)) ?_) rt⟩, k1⟩
            rw [rep_len]
            have : (3 : Int).toNat = 3 := rfl
            rw [this]
            omega
          · simp only [w_var, a_var, w_con, w_glo, w_op, k_op1, k_op2, w_neg, k_neg, w_cmp, k_cm1, k_cm2, w_chain, k_ch1, k_ch2, w_and, k_and, w_or, k_or, w_not, k_not, w_ite, k_ite, w_tup, k_tup, w_lst, k_lst, w_call, k_call, w_prim, k_prim, w_isi, k_isi, w_ix, k_ix1, k_ix2, w_ts0, w_ts, k_ts1, k_ts2, w_ds0, w_ds, k_ds1d, k_ds1n, k_ds2, x_nil, x_cons, x_set, k_set, x_setM, k_setMt, k_setMn, x_expr, k_expr, x_ret, k_ret, x_retN, x_pass, x_ife, k_if, x_for, k_for, k_finN, k_finD, k_finL, st_t, st_n, rd_d, rd_ref, w_sl, k_sl, k_sl1, k_sl2, w_o0, w_o_var, w_o_con, w_o_op, k_o, w_it_var, w_it_con, w_it_ix, w_it_lst, w_it_tup, w_it_call, w_it_prim, w_it_sl, w_it_op, w_it_comp, w_it_ite, k_src, w_rng, k_rng, w_comp, k_comp, k_eltD, k_eltN, k_cond, body0, body1, x_setI, k_si1, k_si2, k_si3, w_meth, k_me1, k_me2, nxt_next, nxt_ret, nxt_brk, nxt_cont, wp_ok, wps_ok, w_dct0, a_dct1, wps_bt, a_bt, x_parM, w_evT, w_evF, a_alT, a_alN, a_stl, k_pm1, k_pm2, tB, oK_some, a_at, a_atB, a_atD, a_opb, a_opa, a_cmb, a_cma, a_ixb, a_ixa, a_neg, a_chT, a_chF, a_cha2, a_cha, a_brAT, a_brAF, a_brOT, a_brOF, a_brIT, a_brIF, a_brST, a_brSF, a_and, a_or, a_not, a_ite, a_if, a_prim, a_isi, a_set, a_slb, a_o, a_src, a_rng, a_bo0, a_bo1, a_brCT, a_brCF, a_cond, a_sid, a_sic, a_sib, a_mea, a_meb, a_mec, b_add, b_sub, c_lt, c_le, c_gt, c_ge, c_eqI, c_neI, c_eqS, c_neS, c_isB, c_isnotB, p_lenL, p_lenT, p_int, p_max, p_min, p_tupL, p_lstT, p_lstL, i_l, i_t, at0, at1, at2, t_bool, s_l, s_t, bp_nm, bp_tp, bps0, bps1, sr_l, sr_t, sr_n, startE, wipe, List.map_cons, List.map_nil, List.length_cons, List.length_nil, List.replicate, List.cons_append, List.nil_append, List.append_nil, Nat.reduceAdd, Nat.reduceSub, Nat.reduceMul, List.getElem?_cons_zero, List.getElem?_cons_succ, List.getElem?_nil, List.set_cons_zero, List.set_cons_succ, List.mapM_cons, List.mapM_nil, Option.pure_def, Option.bind_eq_bind, Option.bind_some, Bool.not_true, Bool.not_false, decide_eq_false c5]
            refine (draw k1.2.2 (by omega) (by omega)).mono ?_
            rintro v s2 ⟨⟨u, rfl, u0, u1⟩, k2⟩
            have k3 := k1.trans k2
            simp only [w_var, a_var, w_con, w_glo, w_op, k_op1, k_op2, w_neg, k_neg, w_cmp, k_cm1, k_cm2, w_chain, k_ch1, k_ch2, w_and, k_and, w_or, k_or, w_not, k_not, w_ite, k_ite, w_tup, k_tup, w_lst, k_lst, w_call, k_call, w_prim, k_prim, w_isi, k_isi, w_ix, k_ix1, k_ix2, w_ts0, w_ts, k_ts1, k_ts2, w_ds0, w_ds, k_ds1d, k_ds1n, k_ds2, x_nil, x_cons, x_set, k_set, x_setM, k_setMt, k_setMn, x_expr, k_expr, x_ret, k_ret, x_retN, x_pass, x_ife, k_if, x_for, k_for, k_finN, k_finD, k_finL, st_t, st_n, rd_d, rd_ref, w_sl, k_sl, k_sl1, k_sl2, w_o0, w_o_var, w_o_con, w_o_op, k_o, w_it_var, w_it_con, w_it_ix, w_it_lst, w_it_tup, w_it_call, w_it_prim, w_it_sl, w_it_op, w_it_comp, w_it_ite, k_src, w_rng, k_rng, w_comp, k_comp, k_eltD, k_eltN, k_cond, body0, body1, x_setI, k_si1, k_si2, k_si3, w_meth, k_me1, k_me2, nxt_next, nxt_ret, nxt_brk, nxt_cont, wp_ok, wps_ok, w_dct0, a_dct1, wps_bt, a_bt, x_parM, w_evT, w_evF, a_alT, a_alN, a_stl, k_pm1, k_pm2, tB, oK_some, a_at, a_atB, a_atD, a_opb, a_opa, a_cmb, a_cma, a_ixb, a_ixa, a_neg, a_chT, a_chF, a_cha2, a_cha, a_brAT, a_brAF, a_brOT, a_brOF, a_brIT, a_brIF, a_brST, a_brSF, a_and, a_or, a_not, a_ite, a_if, a_prim, a_isi, a_set, a_slb, a_o, a_src, a_rng, a_bo0, a_bo1, a_brCT, a_brCF, a_cond, a_sid, a_sic, a_sib, a_mea, a_meb, a_mec, b_add, b_sub, c_lt, c_le, c_gt, c_ge, c_eqI, c_neI, c_eqS, c_neS, c_isB, c_isnotB, p_lenL, p_lenT, p_int, p_max, p_min, p_tupL, p_lstT, p_lstL, i_l, i_t, at0, at1, at2, t_bool, s_l, s_t, bp_nm, bp_tp, bps0, bps1, sr_l, sr_t, sr_n, startE, wipe, List.map_cons, List.map_nil, List.length_cons, List.length_nil, List.replicate, List.cons_append, List.nil_append, List.append_nil, Nat.reduceAdd, Nat.reduceSub, Nat.reduceMul, List.getElem?_cons_zero, List.getElem?_cons_succ, List.getElem?_nil, List.set_cons_zero, List.set_cons_succ, List.mapM_cons, List.mapM_nil, Option.pure_def, Option.bind_eq_bind, Option.bind_some, Bool.not_true, Bool.not_false]
            rw [b_mulT ⟨by omega, by omega, by omega⟩]
            simp only [w_var, a_var, w_con, w_glo, w_op, k_op1, k_op2, w_neg, k_neg, w_cmp, k_cm1, k_cm2, w_chain, k_ch1, k_ch2, w_and, k_and, w_or, k_or, w_not, k_not, w_ite, k_ite, w_tup, k_tup, w_lst, k_lst, w_call, k_call, w_prim, k_prim, w_isi, k_isi, w_ix, k_ix1, k_ix2, w_ts0, w_ts, k_ts1, k_ts2, w_ds0, w_ds, k_ds1d, k_ds1n, k_ds2, x_nil, x_cons, x_set, k_set, x_setM, k_setMt, k_setMn, x_expr, k_expr, x_ret, k_ret, x_retN, x_pass, x_ife, k_if, x_for, k_for, k_finN, k_finD, k_finL, st_t, st_n, rd_d, rd_ref, w_sl, k_sl, k_sl1, k_sl2, w_o0, w_o_var, w_o_con, w_o_op, k_o, w_it_var, w_it_con, w_it_ix, w_it_lst, w_it_tup, w_it_call, w_it_prim, w_it_sl, w_it_op, w_it_comp, w_it_ite, k_src, w_rng, k_rng, w_comp, k_comp, k_eltD, k_eltN, k_cond, body0, body1, x_setI, k_si1, k_si2, k_si3, w_meth, k_me1, k_me2, nxt_next, nxt_ret, nxt_brk, nxt_cont, wp_ok, wps_ok, w_dct0, a_dct1, wps_bt, a_bt, x_parM, w_evT, w_evF, a_alT, a_alN, a_stl, k_pm1, k_pm2, tB, oK_some, a_at, a_atB, a_atD, a_opb, a_opa, a_cmb, a_cma, a_ixb, a_ixa, a_neg, a_chT, a_chF, a_cha2, a_cha, a_brAT, a_brAF, a_brOT, a_brOF, a_brIT, a_brIF, a_brST, a_brSF, a_and, a_or, a_not, a_ite, a_if, a_prim, a_isi, a_set, a_slb, a_o, a_src, a_rng, a_bo0, a_bo1, a_brCT, a_brCF, a_cond, a_sid, a_sic, a_sib, a_mea, a_meb, a_mec, b_add, b_sub, c_lt, c_le, c_gt, c_ge, c_eqI, c_neI, c_eqS, c_neS, c_isB, c_isnotB, p_lenL, p_lenT, p_int, p_max, p_min, p_tupL, p_lstT, p_lstL, i_l, i_t, at0, at1, at2, t_bool, s_l, s_t, bp_nm, bp_tp, bps0, bps1, sr_l, sr_t, sr_n, startE, wipe, List.map_cons, List.map_nil, List.length_cons, List.length_nil, List.replicate, List.cons_append, List.nil_append, List.append_nil, Nat.reduceAdd, Nat.reduceSub, Nat.reduceMul, List.getElem?_cons_zero, List.getElem?_cons_succ, List.getElem?_nil, List.set_cons_zero, List.set_cons_succ, List.mapM_cons, List.mapM_nil, Option.pure_def, Option.bind_eq_bind, Option.bind_some, Bool.not_true, Bool.not_false]
            rw [take_len k3.1]
            refine ⟨⟨_, rfl, thing3 sl rp (row_tup (fun y hy => it y (rep_mem hy)) ?_)⟩, k3⟩
            rw [rep_len]
            have hu : (1 + u).toNat ≤ 4 := by omega
            have := Nat.mul_le_mul hu tl
            omega
theorem same {b : Bool} {k : KR} : (callN tbl wf (n + 1) 11 [.d (.bool b), .d (.bool b)] st).wp k = k (.t (.d (.bool true))) st := by
  rw [wp_callN (d := d__law_same) rfl rfl]
  unfold d__law_same
  have hr : reprOk (.bool b) = true := by cases b <;> decide +kernel
  simp only [w_var, a_var, w_con, w_glo, w_op, k_op1, k_op2, w_neg, k_neg, w_cmp, k_cm1, k_cm2, w_chain, k_ch1, k_ch2, w_and, k_and, w_or, k_or, w_not, k_not, w_ite, k_ite, w_tup, k_tup, w_lst, k_lst, w_call, k_call, w_prim, k_prim, w_isi, k_isi, w_ix, k_ix1, k_ix2, w_ts0, w_ts, k_ts1, k_ts2, w_ds0, w_ds, k_ds1d, k_ds1n, k_ds2, x_nil, x_cons, x_set, k_set, x_setM, k_setMt, k_setMn, x_expr, k_expr, x_ret, k_ret, x_retN, x_pass, x_ife, k_if, x_for, k_for, k_finN, k_finD, k_finL, st_t, st_n, rd_d, rd_ref, w_sl, k_sl, k_sl1, k_sl2, w_o0, w_o_var, w_o_con, w_o_op, k_o, w_it_var, w_it_con, w_it_ix, w_it_lst, w_it_tup, w_it_call, w_it_prim, w_it_sl, w_it_op, w_it_comp, w_it_ite, k_src, w_rng, k_rng, w_comp, k_comp, k_eltD, k_eltN, k_cond, body0, body1, x_setI, k_si1, k_si2, k_si3, w_meth, k_me1, k_me2, nxt_next, nxt_ret, nxt_brk, nxt_cont, wp_ok, wps_ok, w_dct0, a_dct1, wps_bt, a_bt, x_parM, w_evT, w_evF, a_alT, a_alN, a_stl, k_pm1, k_pm2, tB, oK_some, a_at, a_atB, a_atD, a_opb, a_opa, a_cmb, a_cma, a_ixb, a_ixa, a_neg, a_chT, a_chF, a_cha2, a_cha, a_brAT, a_brAF, a_brOT, a_brOF, a_brIT, a_brIF, a_brST, a_brSF, a_and, a_or, a_not, a_ite, a_if, a_prim, a_isi, a_set, a_slb, a_o, a_src, a_rng, a_bo0, a_bo1, a_brCT, a_brCF, a_cond, a_sid, a_sic, a_sib, a_mea, a_meb, a_mec, b_add, b_sub, c_lt, c_le, c_gt, c_ge, c_eqI, c_neI, c_eqS, c_neS, c_isB, c_isnotB, p_lenL, p_lenT, p_int, p_max, p_min, p_tupL, p_lstT, p_lstL, i_l, i_t, at0, at1, at2, t_bool, s_l, s_t, bp_nm, bp_tp, bps0, bps1, sr_l, sr_t, sr_n, startE, wipe, List.map_cons, List.map_nil, List.length_cons, List.length_nil, List.replicate, List.cons_append, List.nil_append, List.append_nil, Nat.reduceAdd, Nat.reduceSub, Nat.reduceMul, List.getElem?_cons_zero, List.getElem?_cons_succ, List.getElem?_nil, List.set_cons_zero, List.set_cons_succ, List.mapM_cons, List.mapM_nil, Option.pure_def, Option.bind_eq_bind, Option.bind_some, Bool.not_true, Bool.not_false, p_repr hr, decide_true, List.take_length]
end
/-! ### the source of numbers -/
theorem bits_lt {i : Int} {k : Nat} (h : PySem.Builtin.Int.intBits i ≤ k) : i.natAbs < 2 ^ k := by
  unfold PySem.Builtin.Int.intBits at h
  split at h
  · rename_i hz
    have : i = 0 := by simpa using hz
    subst this
    exact Nat.two_pow_pos k
  · rename_i hz
    have hn : i.natAbs ≠ 0 := fun e => hz (by simp [Int.natAbs_eq_zero.mp e])
    exact (Nat.log2_lt hn).mp (by omega)
section
variable {n wf : Nat} {st : Store}
theorem source {ns : List Int} {start : Int} (hb : ∀ z ∈ ns, PySem.Builtin.Int.intBits z ≤ 1048576) (s0 : 0 ≤ start) (s1 : start ≤ 10) :
    (callN tbl wf (n + 1) 4 [.d (.list (ns.map .int)), .d (.int start)] st).wp fun v st' => (∃ a b : Int, v = .new [.int a, .int b] ∧ 0 ≤ a ∧ 0 ≤ b ∧ b ≤ 2147483647) ∧ st' = st := by
  rw [wp_callN (d := d__law_source) rfl rfl]
  unfold d__law_source
  simp only [w_var, a_var, w_con, w_glo, w_op, k_op1, k_op2, w_neg, k_neg, w_cmp, k_cm1, k_cm2, w_chain, k_ch1, k_ch2, w_and, k_and, w_or, k_or, w_not, k_not, w_ite, k_ite, w_tup, k_tup, w_lst, k_lst, w_call, k_call, w_prim, k_prim, w_isi, k_isi, w_ix, k_ix1, k_ix2, w_ts0, w_ts, k_ts1, k_ts2, w_ds0, w_ds, k_ds1d, k_ds1n, k_ds2, x_nil, x_cons, x_set, k_set, x_setM, k_setMt, k_setMn, x_expr, k_expr, x_ret, k_ret, x_retN, x_pass, x_ife, k_if, x_for, k_for, k_finN, k_finD, k_finL, st_t, st_n, rd_d, rd_ref, w_sl, k_sl, k_sl1, k_sl2, w_o0, w_o_var, w_o_con, w_o_op, k_o, w_it_var, w_it_con, w_it_ix, w_it_lst, w_it_tup, w_it_call, w_it_prim, w_it_sl, w_it_op, w_it_comp, w_it_ite, k_src, w_rng, k_rng, w_comp, k_comp, k_eltD, k_eltN, k_cond, body0, body1, x_setI, k_si1, k_si2, k_si3, w_meth, k_me1, k_me2, nxt_next, nxt_ret, nxt_brk, nxt_cont, wp_ok, wps_ok, w_dct0, a_dct1, wps_bt, a_bt, x_parM, w_evT, w_evF, a_alT, a_alN, a_stl, k_pm1, k_pm2, tB, oK_some, a_at, a_atB, a_atD, a_opb, a_opa, a_cmb, a_cma, a_ixb, a_ixa, a_neg, a_chT, a_chF, a_cha2, a_cha, a_brAT, a_brAF, a_brOT, a_brOF, a_brIT, a_brIF, a_brST, a_brSF, a_and, a_or, a_not, a_ite, a_if, a_prim, a_isi, a_set, a_slb, a_o, a_src, a_rng, a_bo0, a_bo1, a_brCT, a_brCF, a_cond, a_sid, a_sic, a_sib, a_mea, a_meb, a_mec, b_add, b_sub, c_lt, c_le, c_gt, c_ge, c_eqI, c_neI, c_eqS, c_neS, c_isB, c_isnotB, p_lenL, p_lenT, p_int, p_max, p_min, p_tupL, p_lstT, p_lstL, i_l, i_t, at0, at1, at2, t_bool, s_l, s_t, bp_nm, bp_tp, bps0, bps1, sr_l, sr_t, sr_n, startE, wipe, List.map_cons, List.map_nil, List.length_cons, List.length_nil, List.replicate, List.cons_append, List.nil_append, List.append_nil, Nat.reduceAdd, Nat.reduceSub, Nat.reduceMul, List.getElem?_cons_zero, List.getElem?_cons_succ, List.getElem?_nil, List.set_cons_zero, List.set_cons_succ, List.mapM_cons, List.mapM_nil, Option.pure_def, Option.bind_eq_bind, Option.bind_some, Bool.not_true, Bool.not_false]
  refine forL_inv (fun ys env s => ∃ (m : Int) (e3 e4 : Option T), env = [some (.d (.list (ns.map .int))), some (.d (.int start)), some (.d (.int m)), e3, e4] ∧ s = st ∧ 0 ≤ m ∧ m ≤ 2147483647 ∧ ∃ zs : List Int, ys = zs.map .int ∧ ∀ z ∈ zs, PySem.Builtin.Int.intBits z ≤ 1048576) ⟨_, _, _, rfl, rfl, by omega, by omega, ns, rfl, hb⟩ ?_ ?_
  · rintro x ys env s ⟨m, e3, e4, rfl, rfl, m0, m1, zs, hz, hzb⟩
    cases zs with
    | nil => cases hz
    | cons z zs =>
      rw [List.map_cons] at hz
      obtain ⟨rfl, rfl⟩ := List.cons.inj hz
      simp only [w_var, a_var, w_con, w_glo, w_op, k_op1, k_op2, w_neg, k_neg, w_cmp, k_cm1, k_cm2, w_chain, k_ch1, k_ch2, w_and, k_and, w_or, k_or, w_not, k_not, w_ite, k_ite, w_tup, k_tup, w_lst, k_lst, w_call, k_call, w_prim, k_prim, w_isi, k_isi, w_ix, k_ix1, k_ix2, w_ts0, w_ts, k_ts1, k_ts2, w_ds0, w_ds, k_ds1d, k_ds1n, k_ds2, x_nil, x_cons, x_set, k_set, x_setM, k_setMt, k_setMn, x_expr, k_expr, x_ret, k_ret, x_retN, x_pass, x_ife, k_if, x_for, k_for, k_finN, k_finD, k_finL, st_t, st_n, rd_d, rd_ref, w_sl, k_sl, k_sl1, k_sl2, w_o0, w_o_var, w_o_con, w_o_op, k_o, w_it_var, w_it_con, w_it_ix, w_it_lst, w_it_tup, w_it_call, w_it_prim, w_it_sl, w_it_op, w_it_comp, w_it_ite, k_src, w_rng, k_rng, w_comp, k_comp, k_eltD, k_eltN, k_cond, body0, body1, x_setI, k_si1, k_si2, k_si3, w_meth, k_me1, k_me2, nxt_next, nxt_ret, nxt_brk, nxt_cont, wp_ok, wps_ok, w_dct0, a_dct1, wps_bt, a_bt, x_parM, w_evT, w_evF, a_alT, a_alN, a_stl, k_pm1, k_pm2, tB, oK_some, a_at, a_atB, a_atD, a_opb, a_opa, a_cmb, a_cma, a_ixb, a_ixa, a_neg, a_chT, a_chF, a_cha2, a_cha, a_brAT, a_brAF, a_brOT, a_brOF, a_brIT, a_brIF, a_brST, a_brSF, a_and, a_or, a_not, a_ite, a_if, a_prim, a_isi, a_set, a_slb, a_o, a_src, a_rng, a_bo0, a_bo1, a_brCT, a_brCF, a_cond, a_sid, a_sic, a_sib, a_mea, a_meb, a_mec, b_add, b_sub, c_lt, c_le, c_gt, c_ge, c_eqI, c_neI, c_eqS, c_neS, c_isB, c_isnotB, p_lenL, p_lenT, p_int, p_max, p_min, p_tupL, p_lstT, p_lstL, i_l, i_t, at0, at1, at2, t_bool, s_l, s_t, bp_nm, bp_tp, bps0, bps1, sr_l, sr_t, sr_n, startE, wipe, List.map_cons, List.map_nil, List.length_cons, List.length_nil, List.replicate, List.cons_append, List.nil_append, List.append_nil, Nat.reduceAdd, Nat.reduceSub, Nat.reduceMul, List.getElem?_cons_zero, List.getElem?_cons_succ, List.getElem?_nil, List.set_cons_zero, List.set_cons_succ, List.mapM_cons, List.mapM_nil, Option.pure_def, Option.bind_eq_bind, Option.bind_some, Bool.not_true, Bool.not_false]
      rw [b_mul (mul_small (by omega) (by omega))]
      simp only [w_var, a_var, w_con, w_glo, w_op, k_op1, k_op2, w_neg, k_neg, w_cmp, k_cm1, k_cm2, w_chain, k_ch1, k_ch2, w_and, k_and, w_or, k_or, w_not, k_not, w_ite, k_ite, w_tup, k_tup, w_lst, k_lst, w_call, k_call, w_prim, k_prim, w_isi, k_isi, w_ix, k_ix1, k_ix2, w_ts0, w_ts, k_ts1, k_ts2, w_ds0, w_ds, k_ds1d, k_ds1n, k_ds2, x_nil, x_cons, x_set, k_set, x_setM, k_setMt, k_setMn, x_expr, k_expr, x_ret, k_ret, x_retN, x_pass, x_ife, k_if, x_for, k_for, k_finN, k_finD, k_finL, st_t, st_n, rd_d, rd_ref, w_sl, k_sl, k_sl1, k_sl2, w_o0, w_o_var, w_o_con, w_o_op, k_o, w_it_var, w_it_con, w_it_ix, w_it_lst, w_it_tup, w_it_call, w_it_prim, w_it_sl, w_it_op, w_it_comp, w_it_ite, k_src, w_rng, k_rng, w_comp, k_comp, k_eltD, k_eltN, k_cond, body0, body1, x_setI, k_si1, k_si2, k_si3, w_meth, k_me1, k_me2, nxt_next, nxt_ret, nxt_brk, nxt_cont, wp_ok, wps_ok, w_dct0, a_dct1, wps_bt, a_bt, x_parM, w_evT, w_evF, a_alT, a_alN, a_stl, k_pm1, k_pm2, tB, oK_some, a_at, a_atB, a_atD, a_opb, a_opa, a_cmb, a_cma, a_ixb, a_ixa, a_neg, a_chT, a_chF, a_cha2, a_cha, a_brAT, a_brAF, a_brOT, a_brOF, a_brIT, a_brIF, a_brST, a_brSF, a_and, a_or, a_not, a_ite, a_if, a_prim, a_isi, a_set, a_slb, a_o, a_src, a_rng, a_bo0, a_bo1, a_brCT, a_brCF, a_cond, a_sid, a_sic, a_sib, a_mea, a_meb, a_mec, b_add, b_sub, c_lt, c_le, c_gt, c_ge, c_eqI, c_neI, c_eqS, c_neS, c_isB, c_isnotB, p_lenL, p_lenT, p_int, p_max, p_min, p_tupL, p_lstT, p_lstL, i_l, i_t, at0, at1, at2, t_bool, s_l, s_t, bp_nm, bp_tp, bps0, bps1, sr_l, sr_t, sr_n, startE, wipe, List.map_cons, List.map_nil, List.length_cons, List.length_nil, List.replicate, List.cons_append, List.nil_append, List.append_nil, Nat.reduceAdd, Nat.reduceSub, Nat.reduceMul, List.getElem?_cons_zero, List.getElem?_cons_succ, List.getElem?_nil, List.set_cons_zero, List.set_cons_succ, List.mapM_cons, List.mapM_nil, Option.pure_def, Option.bind_eq_bind, Option.bind_some, Bool.not_true, Bool.not_false]
      have bz := bits_lt (hzb z (by simp))
      have bw : PySem.Builtin.Int.intBits (m * 50021 + z) ≤ 1048577 := by
        apply bits_small
        have h1 : (m * 50021 + z).natAbs ≤ (m * 50021).natAbs + z.natAbs := Int.natAbs_add_le _ _
        have h2 : (m * 50021).natAbs ≤ 2 ^ 64 := by
          have : (2 : Nat) ^ 64 = 18446744073709551616 := by decide
          omega
        have h3 : (2 : Nat) ^ 64 ≤ 2 ^ 1048576 := Nat.pow_le_pow_right (by decide) (by decide)
        have h4 : (2 : Nat) ^ 1048577 = 2 ^ 1048576 + 2 ^ 1048576 := by rw [Nat.pow_succ]; omega
        rw [h4]
        omega
      have hp : powOk (m * 50021 + z) 3 = true := by
        unfold powOk
        rw [decide_eq_true (by decide : (0 : Int) ≤ 3), Bool.true_and]
        refine decide_eq_true ?_
        omega
      rw [b_pow hp]
      simp only [w_var, a_var, w_con, w_glo, w_op, k_op1, k_op2, w_neg, k_neg, w_cmp, k_cm1, k_cm2, w_chain, k_ch1, k_ch2, w_and, k_and, w_or, k_or, w_not, k_not, w_ite, k_ite, w_tup, k_tup, w_lst, k_lst, w_call, k_call, w_prim, k_prim, w_isi, k_isi, w_ix, k_ix1, k_ix2, w_ts0, w_ts, k_ts1, k_ts2, w_ds0, w_ds, k_ds1d, k_ds1n, k_ds2, x_nil, x_cons, x_set, k_set, x_setM, k_setMt, k_setMn, x_expr, k_expr, x_ret, k_ret, x_retN, x_pass, x_ife, k_if, x_for, k_for, k_finN, k_finD, k_finL, st_t, st_n, rd_d, rd_ref, w_sl, k_sl, k_sl1, k_sl2, w_o0, w_o_var, w_o_con, w_o_op, k_o, w_it_var, w_it_con, w_it_ix, w_it_lst, w_it_tup, w_it_call, w_it_prim, w_it_sl, w_it_op, w_it_comp, w_it_ite, k_src, w_rng, k_rng, w_comp, k_comp, k_eltD, k_eltN, k_cond, body0, body1, x_setI, k_si1, k_si2, k_si3, w_meth, k_me1, k_me2, nxt_next, nxt_ret, nxt_brk, nxt_cont, wp_ok, wps_ok, w_dct0, a_dct1, wps_bt, a_bt, x_parM, w_evT, w_evF, a_alT, a_alN, a_stl, k_pm1, k_pm2, tB, oK_some, a_at, a_atB, a_atD, a_opb, a_opa, a_cmb, a_cma, a_ixb, a_ixa, a_neg, a_chT, a_chF, a_cha2, a_cha, a_brAT, a_brAF, a_brOT, a_brOF, a_brIT, a_brIF, a_brST, a_brSF, a_and, a_or, a_not, a_ite, a_if, a_prim, a_isi, a_set, a_slb, a_o, a_src, a_rng, a_bo0, a_bo1, a_brCT, a_brCF, a_cond, a_sid, a_sic, a_sib, a_mea, a_meb, a_mec, b_add, b_sub, c_lt, c_le, c_gt, c_ge, c_eqI, c_neI, c_eqS, c_neS, c_isB, c_isnotB, p_lenL, p_lenT, p_int, p_max, p_min, p_tupL, p_lstT, p_lstL, i_l, i_t, at0, at1, at2, t_bool, s_l, s_t, bp_nm, bp_tp, bps0, bps1, sr_l, sr_t, sr_n, startE, wipe, List.map_cons, List.map_nil, List.length_cons, List.length_nil, List.replicate, List.cons_append, List.nil_append, List.append_nil, Nat.reduceAdd, Nat.reduceSub, Nat.reduceMul, List.getElem?_cons_zero, List.getElem?_cons_succ, List.getElem?_nil, List.set_cons_zero, List.set_cons_succ, List.mapM_cons, List.mapM_nil, Option.pure_def, Option.bind_eq_bind, Option.bind_some, Bool.not_true, Bool.not_false]
      rw [b_mod (by decide)]
      simp only [w_var, a_var, w_con, w_glo, w_op, k_op1, k_op2, w_neg, k_neg, w_cmp, k_cm1, k_cm2, w_chain, k_ch1, k_ch2, w_and, k_and, w_or, k_or, w_not, k_not, w_ite, k_ite, w_tup, k_tup, w_lst, k_lst, w_call, k_call, w_prim, k_prim, w_isi, k_isi, w_ix, k_ix1, k_ix2, w_ts0, w_ts, k_ts1, k_ts2, w_ds0, w_ds, k_ds1d, k_ds1n, k_ds2, x_nil, x_cons, x_set, k_set, x_setM, k_setMt, k_setMn, x_expr, k_expr, x_ret, k_ret, x_retN, x_pass, x_ife, k_if, x_for, k_for, k_finN, k_finD, k_finL, st_t, st_n, rd_d, rd_ref, w_sl, k_sl, k_sl1, k_sl2, w_o0, w_o_var, w_o_con, w_o_op, k_o, w_it_var, w_it_con, w_it_ix, w_it_lst, w_it_tup, w_it_call, w_it_prim, w_it_sl, w_it_op, w_it_comp, w_it_ite, k_src, w_rng, k_rng, w_comp, k_comp, k_eltD, k_eltN, k_cond, body0, body1, x_setI, k_si1, k_si2, k_si3, w_meth, k_me1, k_me2, nxt_next, nxt_ret, nxt_brk, nxt_cont, wp_ok, wps_ok, w_dct0, a_dct1, wps_bt, a_bt, x_parM, w_evT, w_evF, a_alT, a_alN, a_stl, k_pm1, k_pm2, tB, oK_some, a_at, a_atB, a_atD, a_opb, a_opa, a_cmb, a_cma, a_ixb, a_ixa, a_neg, a_chT, a_chF, a_cha2, a_cha, a_brAT, a_brAF, a_brOT, a_brOF, a_brIT, a_brIF, a_brST, a_brSF, a_and, a_or, a_not, a_ite, a_if, a_prim, a_isi, a_set, a_slb, a_o, a_src, a_rng, a_bo0, a_bo1, a_brCT, a_brCF, a_cond, a_sid, a_sic, a_sib, a_mea, a_meb, a_mec, b_add, b_sub, c_lt, c_le, c_gt, c_ge, c_eqI, c_neI, c_eqS, c_neS, c_isB, c_isnotB, p_lenL, p_lenT, p_int, p_max, p_min, p_tupL, p_lstT, p_lstL, i_l, i_t, at0, at1, at2, t_bool, s_l, s_t, bp_nm, bp_tp, bps0, bps1, sr_l, sr_t, sr_n, startE, wipe, List.map_cons, List.map_nil, List.length_cons, List.length_nil, List.replicate, List.cons_append, List.nil_append, List.append_nil, Nat.reduceAdd, Nat.reduceSub, Nat.reduceMul, List.getElem?_cons_zero, List.getElem?_cons_succ, List.getElem?_nil, List.set_cons_zero, List.set_cons_succ, List.mapM_cons, List.mapM_nil, Option.pure_def, Option.bind_eq_bind, Option.bind_some, Bool.not_true, Bool.not_false]
      have w0 := Int.emod_nonneg ((m * 50021 + z) ^ (3 : Int).toNat) (show (2147483563 : Int) ≠ 0 by decide)
      have w1 := Int.emod_lt_of_pos ((m * 50021 + z) ^ (3 : Int).toNat) (show (0 : Int) < 2147483563 by decide)
      exact ⟨.inl trivial, _, _, _, rfl, trivial, by omega, by omega, zs, rfl, fun y hy => hzb y (by simp [hy])⟩
  · rintro env s ⟨m, e3, e4, rfl, rfl, m0, m1, _⟩
    simp only [nxt_next]
    simp only [w_var, a_var, w_con, w_glo, w_op, k_op1, k_op2, w_neg, k_neg, w_cmp, k_cm1, k_cm2, w_chain, k_ch1, k_ch2, w_and, k_and, w_or, k_or, w_not, k_not, w_ite, k_ite, w_tup, k_tup, w_lst, k_lst, w_call, k_call, w_prim, k_prim, w_isi, k_isi, w_ix, k_ix1, k_ix2, w_ts0, w_ts, k_ts1, k_ts2, w_ds0, w_ds, k_ds1d, k_ds1n, k_ds2, x_nil, x_cons, x_set, k_set, x_setM, k_setMt, k_setMn, x_expr, k_expr, x_ret, k_ret, x_retN, x_pass, x_ife, k_if, x_for, k_for, k_finN, k_finD, k_finL, st_t, st_n, rd_d, rd_ref, w_sl, k_sl, k_sl1, k_sl2, w_o0, w_o_var, w_o_con, w_o_op, k_o, w_it_var, w_it_con, w_it_ix, w_it_lst, w_it_tup, w_it_call, w_it_prim, w_it_sl, w_it_op, w_it_comp, w_it_ite, k_src, w_rng, k_rng, w_comp, k_comp, k_eltD, k_eltN, k_cond, body0, body1, x_setI, k_si1, k_si2, k_si3, w_meth, k_me1, k_me2, nxt_next, nxt_ret, nxt_brk, nxt_cont, wp_ok, wps_ok, w_dct0, a_dct1, wps_bt, a_bt, x_parM, w_evT, w_evF, a_alT, a_alN, a_stl, k_pm1, k_pm2, tB, oK_some, a_at, a_atB, a_atD, a_opb, a_opa, a_cmb, a_cma, a_ixb, a_ixa, a_neg, a_chT, a_chF, a_cha2, a_cha, a_brAT, a_brAF, a_brOT, a_brOF, a_brIT, a_brIF, a_brST, a_brSF, a_and, a_or, a_not, a_ite, a_if, a_prim, a_isi, a_set, a_slb, a_o, a_src, a_rng, a_bo0, a_bo1, a_brCT, a_brCF, a_cond, a_sid, a_sic, a_sib, a_mea, a_meb, a_mec, b_add, b_sub, c_lt, c_le, c_gt, c_ge, c_eqI, c_neI, c_eqS, c_neS, c_isB, c_isnotB, p_lenL, p_lenT, p_int, p_max, p_min, p_tupL, p_lstT, p_lstL, i_l, i_t, at0, at1, at2, t_bool, s_l, s_t, bp_nm, bp_tp, bps0, bps1, sr_l, sr_t, sr_n, startE, wipe, List.map_cons, List.map_nil, List.length_cons, List.length_nil, List.replicate, List.cons_append, List.nil_append, List.append_nil, Nat.reduceAdd, Nat.reduceSub, Nat.reduceMul, List.getElem?_cons_zero, List.getElem?_cons_succ, List.getElem?_nil, List.set_cons_zero, List.set_cons_succ, List.mapM_cons, List.mapM_nil, Option.pure_def, Option.bind_eq_bind, Option.bind_some, Bool.not_true, Bool.not_false]
    have hp : powOk 10 18 = true := by decide +kernel
    by_cases hlt : start < (ns.map PyData.int).length
    · obtain ⟨y, ey, _, hy⟩ := at_ok (xs := ns.map PyData.int) s0 hlt
      obtain ⟨z, hz, rfl⟩ := List.mem_map.mp hy
      simp only [w_var, a_var, w_con, w_glo, w_op, k_op1, k_op2, w_neg, k_neg, w_cmp, k_cm1, k_cm2, w_chain, k_ch1, k_ch2, w_and, k_and, w_or, k_or, w_not, k_not, w_ite, k_ite, w_tup, k_tup, w_lst, k_lst, w_call, k_call, w_prim, k_prim, w_isi, k_isi, w_ix, k_ix1, k_ix2, w_ts0, w_ts, k_ts1, k_ts2, w_ds0, w_ds, k_ds1d, k_ds1n, k_ds2, x_nil, x_cons, x_set, k_set, x_setM, k_setMt, k_setMn, x_expr, k_expr, x_ret, k_ret, x_retN, x_pass, x_ife, k_if, x_for, k_for, k_finN, k_finD, k_finL, st_t, st_n, rd_d, rd_ref, w_sl, k_sl, k_sl1, k_sl2, w_o0, w_o_var, w_o_con, w_o_op, k_o, w_it_var, w_it_con, w_it_ix, w_it_lst, w_it_tup, w_it_call, w_it_prim, w_it_sl, w_it_op, w_it_comp, w_it_ite, k_src, w_rng, k_rng, w_comp, k_comp, k_eltD, k_eltN, k_cond, body0, body1, x_setI, k_si1, k_si2, k_si3, w_meth, k_me1, k_me2, nxt_next, nxt_ret, nxt_brk, nxt_cont, wp_ok, wps_ok, w_dct0, a_dct1, wps_bt, a_bt, x_parM, w_evT, w_evF, a_alT, a_alN, a_stl, k_pm1, k_pm2, tB, oK_some, a_at, a_atB, a_atD, a_opb, a_opa, a_cmb, a_cma, a_ixb, a_ixa, a_neg, a_chT, a_chF, a_cha2, a_cha, a_brAT, a_brAF, a_brOT, a_brOF, a_brIT, a_brIF, a_brST, a_brSF, a_and, a_or, a_not, a_ite, a_if, a_prim, a_isi, a_set, a_slb, a_o, a_src, a_rng, a_bo0, a_bo1, a_brCT, a_brCF, a_cond, a_sid, a_sic, a_sib, a_mea, a_meb, a_mec, b_add, b_sub, c_lt, c_le, c_gt, c_ge, c_eqI, c_neI, c_eqS, c_neS, c_isB, c_isnotB, p_lenL, p_lenT, p_int, p_max, p_min, p_tupL, p_lstT, p_lstL, i_l, i_t, at0, at1, at2, t_bool, s_l, s_t, bp_nm, bp_tp, bps0, bps1, sr_l, sr_t, sr_n, startE, wipe, List.map_cons, List.map_nil, List.length_cons, List.length_nil, List.replicate, List.cons_append, List.nil_append, List.append_nil, Nat.reduceAdd, Nat.reduceSub, Nat.reduceMul, List.getElem?_cons_zero, List.getElem?_cons_succ, List.getElem?_nil, List.set_cons_zero, List.set_cons_succ, List.mapM_cons, List.mapM_nil, Option.pure_def, Option.bind_eq_bind, Option.bind_some, Bool.not_true, Bool.not_false, decide_eq_true hlt, ey, b_pow hp]
      by_cases hge : (10 : Int) ^ (18 : Int).toNat ≤ z
      · simp only [w_var, a_var, w_con, w_glo, w_op, k_op1, k_op2, w_neg, k_neg, w_cmp, k_cm1, k_cm2, w_chain, k_ch1, k_ch2, w_and, k_and, w_or, k_or, w_not, k_not, w_ite, k_ite, w_tup, k_tup, w_lst, k_lst, w_call, k_call, w_prim, k_prim, w_isi, k_isi, w_ix, k_ix1, k_ix2, w_ts0, w_ts, k_ts1, k_ts2, w_ds0, w_ds, k_ds1d, k_ds1n, k_ds2, x_nil, x_cons, x_set, k_set, x_setM, k_setMt, k_setMn, x_expr, k_expr, x_ret, k_ret, x_retN, x_pass, x_ife, k_if, x_for, k_for, k_finN, k_finD, k_finL, st_t, st_n, rd_d, rd_ref, w_sl, k_sl, k_sl1, k_sl2, w_o0, w_o_var, w_o_con, w_o_op, k_o, w_it_var, w_it_con, w_it_ix, w_it_lst, w_it_tup, w_it_call, w_it_prim, w_it_sl, w_it_op, w_it_comp, w_it_ite, k_src, w_rng, k_rng, w_comp, k_comp, k_eltD, k_eltN, k_cond, body0, body1, x_setI, k_si1, k_si2, k_si3, w_meth, k_me1, k_me2, nxt_next, nxt_ret, nxt_brk, nxt_cont, wp_ok, wps_ok, w_dct0, a_dct1, wps_bt, a_bt, x_parM, w_evT, w_evF, a_alT, a_alN, a_stl, k_pm1, k_pm2, tB, oK_some, a_at, a_atB, a_atD, a_opb, a_opa, a_cmb, a_cma, a_ixb, a_ixa, a_neg, a_chT, a_chF, a_cha2, a_cha, a_brAT, a_brAF, a_brOT, a_brOF, a_brIT, a_brIF, a_brST, a_brSF, a_and, a_or, a_not, a_ite, a_if, a_prim, a_isi, a_set, a_slb, a_o, a_src, a_rng, a_bo0, a_bo1, a_brCT, a_brCF, a_cond, a_sid, a_sic, a_sib, a_mea, a_meb, a_mec, b_add, b_sub, c_lt, c_le, c_gt, c_ge, c_eqI, c_neI, c_eqS, c_neS, c_isB, c_isnotB, p_lenL, p_lenT, p_int, p_max, p_min, p_tupL, p_lstT, p_lstL, i_l, i_t, at0, at1, at2, t_bool, s_l, s_t, bp_nm, bp_tp, bps0, bps1, sr_l, sr_t, sr_n, startE, wipe, List.map_cons, List.map_nil, List.length_cons, List.length_nil, List.replicate, List.cons_append, List.nil_append, List.append_nil, Nat.reduceAdd, Nat.reduceSub, Nat.reduceMul, List.getElem?_cons_zero, List.getElem?_cons_succ, List.getElem?_nil, List.set_cons_zero, List.set_cons_succ, List.mapM_cons, List.mapM_nil, Option.pure_def, Option.bind_eq_bind, Option.bind_some, Bool.not_true, Bool.not_false, decide_eq_true hge, ey, b_pow hp, List.take_length]
        exact ⟨⟨_, _, rfl, by omega, m0, m1⟩, trivial⟩
      · simp only [w_var, a_var, w_con, w_glo, w_op, k_op1, k_op2, w_neg, k_neg, w_cmp, k_cm1, k_cm2, w_chain, k_ch1, k_ch2, w_and, k_and, w_or, k_or, w_not, k_not, w_ite, k_ite, w_tup, k_tup, w_lst, k_lst, w_call, k_call, w_prim, k_prim, w_isi, k_isi, w_ix, k_ix1, k_ix2, w_ts0, w_ts, k_ts1, k_ts2, w_ds0, w_ds, k_ds1d, k_ds1n, k_ds2, x_nil, x_cons, x_set, k_set, x_setM, k_setMt, k_setMn, x_expr, k_expr, x_ret, k_ret, x_retN, x_pass, x_ife, k_if, x_for, k_for, k_finN, k_finD, k_finL, st_t, st_n, rd_d, rd_ref, w_sl, k_sl, k_sl1, k_sl2, w_o0, w_o_var, w_o_con, w_o_op, k_o, w_it_var, w_it_con, w_it_ix, w_it_lst, w_it_tup, w_it_call, w_it_prim, w_it_sl, w_it_op, w_it_comp, w_it_ite, k_src, w_rng, k_rng, w_comp, k_comp, k_eltD, k_eltN, k_cond, body0, body1, x_setI, k_si1, k_si2, k_si3, w_meth, k_me1, k_me2, nxt_next, nxt_ret, nxt_brk, nxt_cont, wp_ok, wps_ok, w_dct0, a_dct1, wps_bt, a_bt, x_parM, w_evT, w_evF, a_alT, a_alN, a_stl, k_pm1, k_pm2, tB, oK_some, a_at, a_atB, a_atD, a_opb, a_opa, a_cmb, a_cma, a_ixb, a_ixa, a_neg, a_chT, a_chF, a_cha2, a_cha, a_brAT, a_brAF, a_brOT, a_brOF, a_brIT, a_brIF, a_brST, a_brSF, a_and, a_or, a_not, a_ite, a_if, a_prim, a_isi, a_set, a_slb, a_o, a_src, a_rng, a_bo0, a_bo1, a_brCT, a_brCF, a_cond, a_sid, a_sic, a_sib, a_mea, a_meb, a_mec, b_add, b_sub, c_lt, c_le, c_gt, c_ge, c_eqI, c_neI, c_eqS, c_neS, c_isB, c_isnotB, p_lenL, p_lenT, p_int, p_max, p_min, p_tupL, p_lstT, p_lstL, i_l, i_t, at0, at1, at2, t_bool, s_l, s_t, bp_nm, bp_tp, bps0, bps1, sr_l, sr_t, sr_n, startE, wipe, List.map_cons, List.map_nil, List.length_cons, List.length_nil, List.replicate, List.cons_append, List.nil_append, List.append_nil, Nat.reduceAdd, Nat.reduceSub, Nat.reduceMul, List.getElem?_cons_zero, List.getElem?_cons_succ, List.getElem?_nil, List.set_cons_zero, List.set_cons_succ, List.mapM_cons, List.mapM_nil, Option.pure_def, Option.bind_eq_bind, Option.bind_some, Bool.not_true, Bool.not_false, decide_eq_false hge, List.take_length]
        exact ⟨⟨_, _, rfl, by omega, m0, m1⟩, trivial⟩
    · simp only [w_var, a_var, w_con, w_glo, w_op, k_op1, k_op2, w_neg, k_neg, w_cmp, k_cm1, k_cm2, w_chain, k_ch1, k_ch2, w_and, k_and, w_or, k_or, w_not, k_not, w_ite, k_ite, w_tup, k_tup, w_lst, k_lst, w_call, k_call, w_prim, k_prim, w_isi, k_isi, w_ix, k_ix1, k_ix2, w_ts0, w_ts, k_ts1, k_ts2, w_ds0, w_ds, k_ds1d, k_ds1n, k_ds2, x_nil, x_cons, x_set, k_set, x_setM, k_setMt, k_setMn, x_expr, k_expr, x_ret, k_ret, x_retN, x_pass, x_ife, k_if, x_for, k_for, k_finN, k_finD, k_finL, st_t, st_n, rd_d, rd_ref, w_sl, k_sl, k_sl1, k_sl2, w_o0, w_o_var, w_o_con, w_o_op, k_o, w_it_var, w_it_con, w_it_ix, w_it_lst, w_it_tup, w_it_call, w_it_prim, w_it_sl, w_it_op, w_it_comp, w_it_ite, k_src, w_rng, k_rng, w_comp, k_comp, k_eltD, k_eltN, k_cond, body0, body1, x_setI, k_si1, k_si2, k_si3, w_meth, k_me1, k_me2, nxt_next, nxt_ret, nxt_brk, nxt_cont, wp_ok, wps_ok, w_dct0, a_dct1, wps_bt, a_bt, x_parM, w_evT, w_evF, a_alT, a_alN, a_stl, k_pm1, k_pm2, tB, oK_some, a_at, a_atB, a_atD, a_opb, a_opa, a_cmb, a_cma, a_ixb, a_ixa, a_neg, a_chT, a_chF, a_cha2, a_cha, a_brAT, a_brAF, a_brOT, a_brOF, a_brIT, a_brIF, a_brST, a_brSF, a_and, a_or, a_not, a_ite, a_if, a_prim, a_isi, a_set, a_slb, a_o, a_src, a_rng, a_bo0, a_bo1, a_brCT, a_brCF, a_cond, a_sid, a_sic, a_sib, a_mea, a_meb, a_mec, b_add, b_sub, c_lt, c_le, c_gt, c_ge, c_eqI, c_neI, c_eqS, c_neS, c_isB, c_isnotB, p_lenL, p_lenT, p_int, p_max, p_min, p_tupL, p_lstT, p_lstL, i_l, i_t, at0, at1, at2, t_bool, s_l, s_t, bp_nm, bp_tp, bps0, bps1, sr_l, sr_t, sr_n, startE, wipe, List.map_cons, List.map_nil, List.length_cons, List.length_nil, List.replicate, List.cons_append, List.nil_append, List.append_nil, Nat.reduceAdd, Nat.reduceSub, Nat.reduceMul, List.getElem?_cons_zero, List.getElem?_cons_succ, List.getElem?_nil, List.set_cons_zero, List.set_cons_succ, List.mapM_cons, List.mapM_nil, Option.pure_def, Option.bind_eq_bind, Option.bind_some, Bool.not_true, Bool.not_false, decide_eq_false hlt, List.take_length]
      exact ⟨⟨_, _, rfl, by omega, m0, m1⟩, trivial⟩
end
end Lw


namespace Lw
open MP
open PySem (PyData)
/-- the things that one turn judges -/
theorem judge {n wf : Nat} {cs : Nat} {env0 : Env} {e6 e7 : Option T} {a0 a1 a2 a3 a4 a5 : Option T} {st : Store} {P : KS} {things : List D} (he : env0 = [a0, a1, a2, a3, a4, a5, e6, e7]) (ht : ∀ x ∈ things, Thing x) (k : ∀ e6 e7, P .next [a0, a1, a2, a3, a4, a5, e6, e7] st) :
    (forL (fun x env st => bindThen (bindP st (.nm 6) (.d x) env) fun env' => execs (callN tbl wf (n + 4)) wf [(.set (.nm 7) (.prim .repr [(.var 6)])), (.ife (.or (.not (.call 11 [(.call 3 [(.var 6)]), (.call 17 [(.var 6)])])) (.cmp .ne (.prim .repr [(.var 6)]) (.var 7))) [(.ret (.con (.bool false)))] [])] env' st) things env0 st).wp P := by
  subst he
  refine forL_inv (fun ys env s => ∃ e6 e7 : Option T, env = [a0, a1, a2, a3, a4, a5, e6, e7] ∧ s = st ∧ ∀ y ∈ ys, Thing y) ⟨_, _, rfl, rfl, ht⟩ ?_ ?_
  · rintro x xs env s ⟨e6, e7, rfl, rfl, hx⟩
    have tx : reprOk x = true := hx x (by simp)
    simp only [w_var, a_var, w_con, w_glo, w_op, k_op1, k_op2, w_neg, k_neg, w_cmp, k_cm1, k_cm2, w_chain, k_ch1, k_ch2, w_and, k_and, w_or, k_or, w_not, k_not, w_ite, k_ite, w_tup, k_tup, w_lst, k_lst, w_call, k_call, w_prim, k_prim, w_isi, k_isi, w_ix, k_ix1, k_ix2, w_ts0, w_ts, k_ts1, k_ts2, w_ds0, w_ds, k_ds1d, k_ds1n, k_ds2, x_nil, x_cons, x_set, k_set, x_setM, k_setMt, k_setMn, x_expr, k_expr, x_ret, k_ret, x_retN, x_pass, x_ife, k_if, x_for, k_for, k_finN, k_finD, k_finL, st_t, st_n, rd_d, rd_ref, w_sl, k_sl, k_sl1, k_sl2, w_o0, w_o_var, w_o_con, w_o_op, k_o, w_it_var, w_it_con, w_it_ix, w_it_lst, w_it_tup, w_it_call, w_it_prim, w_it_sl, w_it_op, w_it_comp, w_it_ite, k_src, w_rng, k_rng, w_comp, k_comp, k_eltD, k_eltN, k_cond, body0, body1, x_setI, k_si1, k_si2, k_si3, w_meth, k_me1, k_me2, nxt_next, nxt_ret, nxt_brk, nxt_cont, wp_ok, wps_ok, w_dct0, a_dct1, wps_bt, a_bt, x_parM, w_evT, w_evF, a_alT, a_alN, a_stl, k_pm1, k_pm2, tB, oK_some, a_at, a_atB, a_atD, a_opb, a_opa, a_cmb, a_cma, a_ixb, a_ixa, a_neg, a_chT, a_chF, a_cha2, a_cha, a_brAT, a_brAF, a_brOT, a_brOF, a_brIT, a_brIF, a_brST, a_brSF, a_and, a_or, a_not, a_ite, a_if, a_prim, a_isi, a_set, a_slb, a_o, a_src, a_rng, a_bo0, a_bo1, a_brCT, a_brCF, a_cond, a_sid, a_sic, a_sib, a_mea, a_meb, a_mec, b_add, b_sub, c_lt, c_le, c_gt, c_ge, c_eqI, c_neI, c_eqS, c_neS, c_isB, c_isnotB, p_lenL, p_lenT, p_int, p_max, p_min, p_tupL, p_lstT, p_lstL, i_l, i_t, at0, at1, at2, t_bool, s_l, s_t, bp_nm, bp_tp, bps0, bps1, sr_l, sr_t, sr_n, startE, wipe, List.map_cons, List.map_nil, List.length_cons, List.length_nil, List.replicate, List.cons_append, List.nil_append, List.append_nil, Nat.reduceAdd, Nat.reduceSub, Nat.reduceMul, List.getElem?_cons_zero, List.getElem?_cons_succ, List.getElem?_nil, List.set_cons_zero, List.set_cons_succ, List.mapM_cons, List.mapM_nil, Option.pure_def, Option.bind_eq_bind, Option.bind_some, Bool.not_true, Bool.not_false, p_repr tx, p_net, q_net, same, decide_true]
    exact ⟨.inl trivial, _, _, rfl, trivial, fun y hy => hx y (by simp [hy])⟩
  · rintro env s ⟨e6, e7, rfl, rfl, _⟩
    exact k _ _
theorem the_law {ns : List Int} {wf : Nat} (hl : ns.length ≤ 63) (hb : ∀ z ∈ ns, PySem.Builtin.Int.intBits z ≤ 1048576) (hw : 1000 < wf) : (callN tbl wf 60 22 [.d (.list (ns.map .int))] []).wp fun v _ => v = .t (.d (.bool true)) := by
  rw [wp_callN (n := 59) (d := d_law) rfl rfl]
  unfold d_law
  simp only [w_var, a_var, w_con, w_glo, w_op, k_op1, k_op2, w_neg, k_neg, w_cmp, k_cm1, k_cm2, w_chain, k_ch1, k_ch2, w_and, k_and, w_or, k_or, w_not, k_not, w_ite, k_ite, w_tup, k_tup, w_lst, k_lst, w_call, k_call, w_prim, k_prim, w_isi, k_isi, w_ix, k_ix1, k_ix2, w_ts0, w_ts, k_ts1, k_ts2, w_ds0, w_ds, k_ds1d, k_ds1n, k_ds2, x_nil, x_cons, x_set, k_set, x_setM, k_setMt, k_setMn, x_expr, k_expr, x_ret, k_ret, x_retN, x_pass, x_ife, k_if, x_for, k_for, k_finN, k_finD, k_finL, st_t, st_n, rd_d, rd_ref, w_sl, k_sl, k_sl1, k_sl2, w_o0, w_o_var, w_o_con, w_o_op, k_o, w_it_var, w_it_con, w_it_ix, w_it_lst, w_it_tup, w_it_call, w_it_prim, w_it_sl, w_it_op, w_it_comp, w_it_ite, k_src, w_rng, k_rng, w_comp, k_comp, k_eltD, k_eltN, k_cond, body0, body1, x_setI, k_si1, k_si2, k_si3, w_meth, k_me1, k_me2, nxt_next, nxt_ret, nxt_brk, nxt_cont, wp_ok, wps_ok, w_dct0, a_dct1, wps_bt, a_bt, x_parM, w_evT, w_evF, a_alT, a_alN, a_stl, k_pm1, k_pm2, tB, oK_some, a_at, a_atB, a_atD, a_opb, a_opa, a_cmb, a_cma, a_ixb, a_ixa, a_neg, a_chT, a_chF, a_cha2, a_cha, a_brAT, a_brAF, a_brOT, a_brOF, a_brIT, a_brIF, a_brST, a_brSF, a_and, a_or, a_not, a_ite, a_if, a_prim, a_isi, a_set, a_slb, a_o, a_src, a_rng, a_bo0, a_bo1, a_brCT, a_brCF, a_cond, a_sid, a_sic, a_sib, a_mea, a_meb, a_mec, b_add, b_sub, c_lt, c_le, c_gt, c_ge, c_eqI, c_neI, c_eqS, c_neS, c_isB, c_isnotB, p_lenL, p_lenT, p_int, p_max, p_min, p_tupL, p_lstT, p_lstL, i_l, i_t, at0, at1, at2, t_bool, s_l, s_t, bp_nm, bp_tp, bps0, bps1, sr_l, sr_t, sr_n, startE, wipe, List.map_cons, List.map_nil, List.length_cons, List.length_nil, List.replicate, List.cons_append, List.nil_append, List.append_nil, Nat.reduceAdd, Nat.reduceSub, Nat.reduceMul, List.getElem?_cons_zero, List.getElem?_cons_succ, List.getElem?_nil, List.set_cons_zero, List.set_cons_succ, List.mapM_cons, List.mapM_nil, Option.pure_def, Option.bind_eq_bind, Option.bind_some, Bool.not_true, Bool.not_false]
  refine ⟨by simp only [big]; split <;> split <;> omega, ?_⟩
  refine forL_inv (fun ys env s => ∃ e1 e2 e3 e4 e5 e6 e7 : Option T, env = [some (.d (.list (ns.map .int))), e1, e2, e3, e4, e5, e6, e7] ∧ ∀ y ∈ ys, ∃ i : Int, y = .int i ∧ 0 ≤ i ∧ i ≤ 10) ⟨_, _, _, _, _, _, _, rfl, ?_⟩ ?_ ?_
  · intro y hy
    obtain ⟨i, e, i0, i1⟩ := ints_mem hy
    exact ⟨i, e, i0, by split at i1 <;> split at i1 <;> omega⟩
  · rintro x xs env s ⟨e1, e2, e3, e4, e5, e6, e7, rfl, hx⟩
    obtain ⟨i, rfl, i0, i1⟩ := hx x (by simp)
    simp only [w_var, a_var, w_con, w_glo, w_op, k_op1, k_op2, w_neg, k_neg, w_cmp, k_cm1, k_cm2, w_chain, k_ch1, k_ch2, w_and, k_and, w_or, k_or, w_not, k_not, w_ite, k_ite, w_tup, k_tup, w_lst, k_lst, w_call, k_call, w_prim, k_prim, w_isi, k_isi, w_ix, k_ix1, k_ix2, w_ts0, w_ts, k_ts1, k_ts2, w_ds0, w_ds, k_ds1d, k_ds1n, k_ds2, x_nil, x_cons, x_set, k_set, x_setM, k_setMt, k_setMn, x_expr, k_expr, x_ret, k_ret, x_retN, x_pass, x_ife, k_if, x_for, k_for, k_finN, k_finD, k_finL, st_t, st_n, rd_d, rd_ref, w_sl, k_sl, k_sl1, k_sl2, w_o0, w_o_var, w_o_con, w_o_op, k_o, w_it_var, w_it_con, w_it_ix, w_it_lst, w_it_tup, w_it_call, w_it_prim, w_it_sl, w_it_op, w_it_comp, w_it_ite, k_src, w_rng, k_rng, w_comp, k_comp, k_eltD, k_eltN, k_cond, body0, body1, x_setI, k_si1, k_si2, k_si3, w_meth, k_me1, k_me2, nxt_next, nxt_ret, nxt_brk, nxt_cont, wp_ok, wps_ok, w_dct0, a_dct1, wps_bt, a_bt, x_parM, w_evT, w_evF, a_alT, a_alN, a_stl, k_pm1, k_pm2, tB, oK_some, a_at, a_atB, a_atD, a_opb, a_opa, a_cmb, a_cma, a_ixb, a_ixa, a_neg, a_chT, a_chF, a_cha2, a_cha, a_brAT, a_brAF, a_brOT, a_brOF, a_brIT, a_brIF, a_brST, a_brSF, a_and, a_or, a_not, a_ite, a_if, a_prim, a_isi, a_set, a_slb, a_o, a_src, a_rng, a_bo0, a_bo1, a_brCT, a_brCF, a_cond, a_sid, a_sic, a_sib, a_mea, a_meb, a_mec, b_add, b_sub, c_lt, c_le, c_gt, c_ge, c_eqI, c_neI, c_eqS, c_neS, c_isB, c_isnotB, p_lenL, p_lenT, p_int, p_max, p_min, p_tupL, p_lstT, p_lstL, i_l, i_t, at0, at1, at2, t_bool, s_l, s_t, bp_nm, bp_tp, bps0, bps1, sr_l, sr_t, sr_n, startE, wipe, List.map_cons, List.map_nil, List.length_cons, List.length_nil, List.replicate, List.cons_append, List.nil_append, List.append_nil, Nat.reduceAdd, Nat.reduceSub, Nat.reduceMul, List.getElem?_cons_zero, List.getElem?_cons_succ, List.getElem?_nil, List.set_cons_zero, List.set_cons_succ, List.mapM_cons, List.mapM_nil, Option.pure_def, Option.bind_eq_bind, Option.bind_some, Bool.not_true, Bool.not_false]
    refine (source hb i0 i1).mono ?_
    rintro v s1 ⟨⟨a, b, rfl, a0, b0, b1⟩, rfl⟩
    have src : Sr (s1 ++ [.lst [.int a, .int b]]) s1.length := ⟨a, b, by rw [List.getElem?_append_right (Nat.le_refl _)]; simp, a0, b0, b1⟩
    simp only [w_var, a_var, w_con, w_glo, w_op, k_op1, k_op2, w_neg, k_neg, w_cmp, k_cm1, k_cm2, w_chain, k_ch1, k_ch2, w_and, k_and, w_or, k_or, w_not, k_not, w_ite, k_ite, w_tup, k_tup, w_lst, k_lst, w_call, k_call, w_prim, k_prim, w_isi, k_isi, w_ix, k_ix1, k_ix2, w_ts0, w_ts, k_ts1, k_ts2, w_ds0, w_ds, k_ds1d, k_ds1n, k_ds2, x_nil, x_cons, x_set, k_set, x_setM, k_setMt, k_setMn, x_expr, k_expr, x_ret, k_ret, x_retN, x_pass, x_ife, k_if, x_for, k_for, k_finN, k_finD, k_finL, st_t, st_n, rd_d, rd_ref, w_sl, k_sl, k_sl1, k_sl2, w_o0, w_o_var, w_o_con, w_o_op, k_o, w_it_var, w_it_con, w_it_ix, w_it_lst, w_it_tup, w_it_call, w_it_prim, w_it_sl, w_it_op, w_it_comp, w_it_ite, k_src, w_rng, k_rng, w_comp, k_comp, k_eltD, k_eltN, k_cond, body0, body1, x_setI, k_si1, k_si2, k_si3, w_meth, k_me1, k_me2, nxt_next, nxt_ret, nxt_brk, nxt_cont, wp_ok, wps_ok, w_dct0, a_dct1, wps_bt, a_bt, x_parM, w_evT, w_evF, a_alT, a_alN, a_stl, k_pm1, k_pm2, tB, oK_some, a_at, a_atB, a_atD, a_opb, a_opa, a_cmb, a_cma, a_ixb, a_ixa, a_neg, a_chT, a_chF, a_cha2, a_cha, a_brAT, a_brAF, a_brOT, a_brOF, a_brIT, a_brIF, a_brST, a_brSF, a_and, a_or, a_not, a_ite, a_if, a_prim, a_isi, a_set, a_slb, a_o, a_src, a_rng, a_bo0, a_bo1, a_brCT, a_brCF, a_cond, a_sid, a_sic, a_sib, a_mea, a_meb, a_mec, b_add, b_sub, c_lt, c_le, c_gt, c_ge, c_eqI, c_neI, c_eqS, c_neS, c_isB, c_isnotB, p_lenL, p_lenT, p_int, p_max, p_min, p_tupL, p_lstT, p_lstL, i_l, i_t, at0, at1, at2, t_bool, s_l, s_t, bp_nm, bp_tp, bps0, bps1, sr_l, sr_t, sr_n, startE, wipe, List.map_cons, List.map_nil, List.length_cons, List.length_nil, List.replicate, List.cons_append, List.nil_append, List.append_nil, Nat.reduceAdd, Nat.reduceSub, Nat.reduceMul, List.getElem?_cons_zero, List.getElem?_cons_succ, List.getElem?_nil, List.set_cons_zero, List.set_cons_succ, List.mapM_cons, List.mapM_nil, Option.pure_def, Option.bind_eq_bind, Option.bind_some, Bool.not_true, Bool.not_false]
    refine ⟨by decide, ?_⟩
    refine forL_inv (fun ys env s => ∃ e3 e4 e5 e6 e7 : Option T, env = [some (.d (.list (ns.map .int))), some (.d (.int i)), some (.ref s1.length), e3, e4, e5, e6, e7] ∧ Sr s s1.length) ⟨_, _, _, _, _, rfl, src⟩ ?_ ?_
    · rintro y ys env s ⟨e3, e4, e5, e6, e7, rfl, hs⟩
      simp only [w_var, a_var, w_con, w_glo, w_op, k_op1, k_op2, w_neg, k_neg, w_cmp, k_cm1, k_cm2, w_chain, k_ch1, k_ch2, w_and, k_and, w_or, k_or, w_not, k_not, w_ite, k_ite, w_tup, k_tup, w_lst, k_lst, w_call, k_call, w_prim, k_prim, w_isi, k_isi, w_ix, k_ix1, k_ix2, w_ts0, w_ts, k_ts1, k_ts2, w_ds0, w_ds, k_ds1d, k_ds1n, k_ds2, x_nil, x_cons, x_set, k_set, x_setM, k_setMt, k_setMn, x_expr, k_expr, x_ret, k_ret, x_retN, x_pass, x_ife, k_if, x_for, k_for, k_finN, k_finD, k_finL, st_t, st_n, rd_d, rd_ref, w_sl, k_sl, k_sl1, k_sl2, w_o0, w_o_var, w_o_con, w_o_op, k_o, w_it_var, w_it_con, w_it_ix, w_it_lst, w_it_tup, w_it_call, w_it_prim, w_it_sl, w_it_op, w_it_comp, w_it_ite, k_src, w_rng, k_rng, w_comp, k_comp, k_eltD, k_eltN, k_cond, body0, body1, x_setI, k_si1, k_si2, k_si3, w_meth, k_me1, k_me2, nxt_next, nxt_ret, nxt_brk, nxt_cont, wp_ok, wps_ok, w_dct0, a_dct1, wps_bt, a_bt, x_parM, w_evT, w_evF, a_alT, a_alN, a_stl, k_pm1, k_pm2, tB, oK_some, a_at, a_atB, a_atD, a_opb, a_opa, a_cmb, a_cma, a_ixb, a_ixa, a_neg, a_chT, a_chF, a_cha2, a_cha, a_brAT, a_brAF, a_brOT, a_brOF, a_brIT, a_brIF, a_brST, a_brSF, a_and, a_or, a_not, a_ite, a_if, a_prim, a_isi, a_set, a_slb, a_o, a_src, a_rng, a_bo0, a_bo1, a_brCT, a_brCF, a_cond, a_sid, a_sic, a_sib, a_mea, a_meb, a_mec, b_add, b_sub, c_lt, c_le, c_gt, c_ge, c_eqI, c_neI, c_eqS, c_neS, c_isB, c_isnotB, p_lenL, p_lenT, p_int, p_max, p_min, p_tupL, p_lstT, p_lstL, i_l, i_t, at0, at1, at2, t_bool, s_l, s_t, bp_nm, bp_tp, bps0, bps1, sr_l, sr_t, sr_n, startE, wipe, List.map_cons, List.map_nil, List.length_cons, List.length_nil, List.replicate, List.cons_append, List.nil_append, List.append_nil, Nat.reduceAdd, Nat.reduceSub, Nat.reduceMul, List.getElem?_cons_zero, List.getElem?_cons_succ, List.getElem?_nil, List.set_cons_zero, List.set_cons_succ, List.mapM_cons, List.mapM_nil, Option.pure_def, Option.bind_eq_bind, Option.bind_some, Bool.not_true, Bool.not_false]
      refine (net hs (by decide) (by decide) (by decide) (by decide) hw).mono ?_
      rintro v t1 ⟨⟨nt, rfl, hnt⟩, k1⟩
      simp only [w_var, a_var, w_con, w_glo, w_op, k_op1, k_op2, w_neg, k_neg, w_cmp, k_cm1, k_cm2, w_chain, k_ch1, k_ch2, w_and, k_and, w_or, k_or, w_not, k_not, w_ite, k_ite, w_tup, k_tup, w_lst, k_lst, w_call, k_call, w_prim, k_prim, w_isi, k_isi, w_ix, k_ix1, k_ix2, w_ts0, w_ts, k_ts1, k_ts2, w_ds0, w_ds, k_ds1d, k_ds1n, k_ds2, x_nil, x_cons, x_set, k_set, x_setM, k_setMt, k_setMn, x_expr, k_expr, x_ret, k_ret, x_retN, x_pass, x_ife, k_if, x_for, k_for, k_finN, k_finD, k_finL, st_t, st_n, rd_d, rd_ref, w_sl, k_sl, k_sl1, k_sl2, w_o0, w_o_var, w_o_con, w_o_op, k_o, w_it_var, w_it_con, w_it_ix, w_it_lst, w_it_tup, w_it_call, w_it_prim, w_it_sl, w_it_op, w_it_comp, w_it_ite, k_src, w_rng, k_rng, w_comp, k_comp, k_eltD, k_eltN, k_cond, body0, body1, x_setI, k_si1, k_si2, k_si3, w_meth, k_me1, k_me2, nxt_next, nxt_ret, nxt_brk, nxt_cont, wp_ok, wps_ok, w_dct0, a_dct1, wps_bt, a_bt, x_parM, w_evT, w_evF, a_alT, a_alN, a_stl, k_pm1, k_pm2, tB, oK_some, a_at, a_atB, a_atD, a_opb, a_opa, a_cmb, a_cma, a_ixb, a_ixa, a_neg, a_chT, a_chF, a_cha2, a_cha, a_brAT, a_brAF, a_brOT, a_brOF, a_brIT, a_brIF, a_brST, a_brSF, a_and, a_or, a_not, a_ite, a_if, a_prim, a_isi, a_set, a_slb, a_o, a_src, a_rng, a_bo0, a_bo1, a_brCT, a_brCF, a_cond, a_sid, a_sic, a_sib, a_mea, a_meb, a_mec, b_add, b_sub, c_lt, c_le, c_gt, c_ge, c_eqI, c_neI, c_eqS, c_neS, c_isB, c_isnotB, p_lenL, p_lenT, p_int, p_max, p_min, p_tupL, p_lstT, p_lstL, i_l, i_t, at0, at1, at2, t_bool, s_l, s_t, bp_nm, bp_tp, bps0, bps1, sr_l, sr_t, sr_n, startE, wipe, List.map_cons, List.map_nil, List.length_cons, List.length_nil, List.replicate, List.cons_append, List.nil_append, List.append_nil, Nat.reduceAdd, Nat.reduceSub, Nat.reduceMul, List.getElem?_cons_zero, List.getElem?_cons_succ, List.getElem?_nil, List.set_cons_zero, List.set_cons_succ, List.mapM_cons, List.mapM_nil, Option.pure_def, Option.bind_eq_bind, Option.bind_some, Bool.not_true, Bool.not_false]
      refine (bent_point k1.2.2 hnt).mono ?_
      rintro v t2 ⟨⟨bp, rfl, hbp⟩, k2⟩
      simp only [w_var, a_var, w_con, w_glo, w_op, k_op1, k_op2, w_neg, k_neg, w_cmp, k_cm1, k_cm2, w_chain, k_ch1, k_ch2, w_and, k_and, w_or, k_or, w_not, k_not, w_ite, k_ite, w_tup, k_tup, w_lst, k_lst, w_call, k_call, w_prim, k_prim, w_isi, k_isi, w_ix, k_ix1, k_ix2, w_ts0, w_ts, k_ts1, k_ts2, w_ds0, w_ds, k_ds1d, k_ds1n, k_ds2, x_nil, x_cons, x_set, k_set, x_setM, k_setMt, k_setMn, x_expr, k_expr, x_ret, k_ret, x_retN, x_pass, x_ife, k_if, x_for, k_for, k_finN, k_finD, k_finL, st_t, st_n, rd_d, rd_ref, w_sl, k_sl, k_sl1, k_sl2, w_o0, w_o_var, w_o_con, w_o_op, k_o, w_it_var, w_it_con, w_it_ix, w_it_lst, w_it_tup, w_it_call, w_it_prim, w_it_sl, w_it_op, w_it_comp, w_it_ite, k_src, w_rng, k_rng, w_comp, k_comp, k_eltD, k_eltN, k_cond, body0, body1, x_setI, k_si1, k_si2, k_si3, w_meth, k_me1, k_me2, nxt_next, nxt_ret, nxt_brk, nxt_cont, wp_ok, wps_ok, w_dct0, a_dct1, wps_bt, a_bt, x_parM, w_evT, w_evF, a_alT, a_alN, a_stl, k_pm1, k_pm2, tB, oK_some, a_at, a_atB, a_atD, a_opb, a_opa, a_cmb, a_cma, a_ixb, a_ixa, a_neg, a_chT, a_chF, a_cha2, a_cha, a_brAT, a_brAF, a_brOT, a_brOF, a_brIT, a_brIF, a_brST, a_brSF, a_and, a_or, a_not, a_ite, a_if, a_prim, a_isi, a_set, a_slb, a_o, a_src, a_rng, a_bo0, a_bo1, a_brCT, a_brCF, a_cond, a_sid, a_sic, a_sib, a_mea, a_meb, a_mec, b_add, b_sub, c_lt, c_le, c_gt, c_ge, c_eqI, c_neI, c_eqS, c_neS, c_isB, c_isnotB, p_lenL, p_lenT, p_int, p_max, p_min, p_tupL, p_lstT, p_lstL, i_l, i_t, at0, at1, at2, t_bool, s_l, s_t, bp_nm, bp_tp, bps0, bps1, sr_l, sr_t, sr_n, startE, wipe, List.map_cons, List.map_nil, List.length_cons, List.length_nil, List.replicate, List.cons_append, List.nil_append, List.append_nil, Nat.reduceAdd, Nat.reduceSub, Nat.reduceMul, List.getElem?_cons_zero, List.getElem?_cons_succ, List.getElem?_nil, List.set_cons_zero, List.set_cons_succ, List.mapM_cons, List.mapM_nil, Option.pure_def, Option.bind_eq_bind, Option.bind_some, Bool.not_true, Bool.not_false]
      refine (bent_tie k2.2.2 hbp).mono ?_
      rintro v t3 ⟨⟨tw, rfl, htw⟩, k3⟩
      simp only [w_var, a_var, w_con, w_glo, w_op, k_op1, k_op2, w_neg, k_neg, w_cmp, k_cm1, k_cm2, w_chain, k_ch1, k_ch2, w_and, k_and, w_or, k_or, w_not, k_not, w_ite, k_ite, w_tup, k_tup, w_lst, k_lst, w_call, k_call, w_prim, k_prim, w_isi, k_isi, w_ix, k_ix1, k_ix2, w_ts0, w_ts, k_ts1, k_ts2, w_ds0, w_ds, k_ds1d, k_ds1n, k_ds2, x_nil, x_cons, x_set, k_set, x_setM, k_setMt, k_setMn, x_expr, k_expr, x_ret, k_ret, x_retN, x_pass, x_ife, k_if, x_for, k_for, k_finN, k_finD, k_finL, st_t, st_n, rd_d, rd_ref, w_sl, k_sl, k_sl1, k_sl2, w_o0, w_o_var, w_o_con, w_o_op, k_o, w_it_var, w_it_con, w_it_ix, w_it_lst, w_it_tup, w_it_call, w_it_prim, w_it_sl, w_it_op, w_it_comp, w_it_ite, k_src, w_rng, k_rng, w_comp, k_comp, k_eltD, k_eltN, k_cond, body0, body1, x_setI, k_si1, k_si2, k_si3, w_meth, k_me1, k_me2, nxt_next, nxt_ret, nxt_brk, nxt_cont, wp_ok, wps_ok, w_dct0, a_dct1, wps_bt, a_bt, x_parM, w_evT, w_evF, a_alT, a_alN, a_stl, k_pm1, k_pm2, tB, oK_some, a_at, a_atB, a_atD, a_opb, a_opa, a_cmb, a_cma, a_ixb, a_ixa, a_neg, a_chT, a_chF, a_cha2, a_cha, a_brAT, a_brAF, a_brOT, a_brOF, a_brIT, a_brIF, a_brST, a_brSF, a_and, a_or, a_not, a_ite, a_if, a_prim, a_isi, a_set, a_slb, a_o, a_src, a_rng, a_bo0, a_bo1, a_brCT, a_brCF, a_cond, a_sid, a_sic, a_sib, a_mea, a_meb, a_mec, b_add, b_sub, c_lt, c_le, c_gt, c_ge, c_eqI, c_neI, c_eqS, c_neS, c_isB, c_isnotB, p_lenL, p_lenT, p_int, p_max, p_min, p_tupL, p_lstT, p_lstL, i_l, i_t, at0, at1, at2, t_bool, s_l, s_t, bp_nm, bp_tp, bps0, bps1, sr_l, sr_t, sr_n, startE, wipe, List.map_cons, List.map_nil, List.length_cons, List.length_nil, List.replicate, List.cons_append, List.nil_append, List.append_nil, Nat.reduceAdd, Nat.reduceSub, Nat.reduceMul, List.getElem?_cons_zero, List.getElem?_cons_succ, List.getElem?_nil, List.set_cons_zero, List.set_cons_succ, List.mapM_cons, List.mapM_nil, Option.pure_def, Option.bind_eq_bind, Option.bind_some, Bool.not_true, Bool.not_false]
      refine (bent k3.2.2 hnt).mono ?_
      rintro v t4 ⟨⟨b1, rfl, hb1⟩, k4⟩
      simp only [w_var, a_var, w_con, w_glo, w_op, k_op1, k_op2, w_neg, k_neg, w_cmp, k_cm1, k_cm2, w_chain, k_ch1, k_ch2, w_and, k_and, w_or, k_or, w_not, k_not, w_ite, k_ite, w_tup, k_tup, w_lst, k_lst, w_call, k_call, w_prim, k_prim, w_isi, k_isi, w_ix, k_ix1, k_ix2, w_ts0, w_ts, k_ts1, k_ts2, w_ds0, w_ds, k_ds1d, k_ds1n, k_ds2, x_nil, x_cons, x_set, k_set, x_setM, k_setMt, k_setMn, x_expr, k_expr, x_ret, k_ret, x_retN, x_pass, x_ife, k_if, x_for, k_for, k_finN, k_finD, k_finL, st_t, st_n, rd_d, rd_ref, w_sl, k_sl, k_sl1, k_sl2, w_o0, w_o_var, w_o_con, w_o_op, k_o, w_it_var, w_it_con, w_it_ix, w_it_lst, w_it_tup, w_it_call, w_it_prim, w_it_sl, w_it_op, w_it_comp, w_it_ite, k_src, w_rng, k_rng, w_comp, k_comp, k_eltD, k_eltN, k_cond, body0, body1, x_setI, k_si1, k_si2, k_si3, w_meth, k_me1, k_me2, nxt_next, nxt_ret, nxt_brk, nxt_cont, wp_ok, wps_ok, w_dct0, a_dct1, wps_bt, a_bt, x_parM, w_evT, w_evF, a_alT, a_alN, a_stl, k_pm1, k_pm2, tB, oK_some, a_at, a_atB, a_atD, a_opb, a_opa, a_cmb, a_cma, a_ixb, a_ixa, a_neg, a_chT, a_chF, a_cha2, a_cha, a_brAT, a_brAF, a_brOT, a_brOF, a_brIT, a_brIF, a_brST, a_brSF, a_and, a_or, a_not, a_ite, a_if, a_prim, a_isi, a_set, a_slb, a_o, a_src, a_rng, a_bo0, a_bo1, a_brCT, a_brCF, a_cond, a_sid, a_sic, a_sib, a_mea, a_meb, a_mec, b_add, b_sub, c_lt, c_le, c_gt, c_ge, c_eqI, c_neI, c_eqS, c_neS, c_isB, c_isnotB, p_lenL, p_lenT, p_int, p_max, p_min, p_tupL, p_lstT, p_lstL, i_l, i_t, at0, at1, at2, t_bool, s_l, s_t, bp_nm, bp_tp, bps0, bps1, sr_l, sr_t, sr_n, startE, wipe, List.map_cons, List.map_nil, List.length_cons, List.length_nil, List.replicate, List.cons_append, List.nil_append, List.append_nil, Nat.reduceAdd, Nat.reduceSub, Nat.reduceMul, List.getElem?_cons_zero, List.getElem?_cons_succ, List.getElem?_nil, List.set_cons_zero, List.set_cons_succ, List.mapM_cons, List.mapM_nil, Option.pure_def, Option.bind_eq_bind, Option.bind_some, Bool.not_true, Bool.not_false]
      refine (bent k4.2.2 hnt).mono ?_
      rintro v t5 ⟨⟨b2, rfl, hb2⟩, k5⟩
      simp only [w_var, a_var, w_con, w_glo, w_op, k_op1, k_op2, w_neg, k_neg, w_cmp, k_cm1, k_cm2, w_chain, k_ch1, k_ch2, w_and, k_and, w_or, k_or, w_not, k_not, w_ite, k_ite, w_tup, k_tup, w_lst, k_lst, w_call, k_call, w_prim, k_prim, w_isi, k_isi, w_ix, k_ix1, k_ix2, w_ts0, w_ts, k_ts1, k_ts2, w_ds0, w_ds, k_ds1d, k_ds1n, k_ds2, x_nil, x_cons, x_set, k_set, x_setM, k_setMt, k_setMn, x_expr, k_expr, x_ret, k_ret, x_retN, x_pass, x_ife, k_if, x_for, k_for, k_finN, k_finD, k_finL, st_t, st_n, rd_d, rd_ref, w_sl, k_sl, k_sl1, k_sl2, w_o0, w_o_var, w_o_con, w_o_op, k_o, w_it_var, w_it_con, w_it_ix, w_it_lst, w_it_tup, w_it_call, w_it_prim, w_it_sl, w_it_op, w_it_comp, w_it_ite, k_src, w_rng, k_rng, w_comp, k_comp, k_eltD, k_eltN, k_cond, body0, body1, x_setI, k_si1, k_si2, k_si3, w_meth, k_me1, k_me2, nxt_next, nxt_ret, nxt_brk, nxt_cont, wp_ok, wps_ok, w_dct0, a_dct1, wps_bt, a_bt, x_parM, w_evT, w_evF, a_alT, a_alN, a_stl, k_pm1, k_pm2, tB, oK_some, a_at, a_atB, a_atD, a_opb, a_opa, a_cmb, a_cma, a_ixb, a_ixa, a_neg, a_chT, a_chF, a_cha2, a_cha, a_brAT, a_brAF, a_brOT, a_brOF, a_brIT, a_brIF, a_brST, a_brSF, a_and, a_or, a_not, a_ite, a_if, a_prim, a_isi, a_set, a_slb, a_o, a_src, a_rng, a_bo0, a_bo1, a_brCT, a_brCF, a_cond, a_sid, a_sic, a_sib, a_mea, a_meb, a_mec, b_add, b_sub, c_lt, c_le, c_gt, c_ge, c_eqI, c_neI, c_eqS, c_neS, c_isB, c_isnotB, p_lenL, p_lenT, p_int, p_max, p_min, p_tupL, p_lstT, p_lstL, i_l, i_t, at0, at1, at2, t_bool, s_l, s_t, bp_nm, bp_tp, bps0, bps1, sr_l, sr_t, sr_n, startE, wipe, List.map_cons, List.map_nil, List.length_cons, List.length_nil, List.replicate, List.cons_append, List.nil_append, List.append_nil, Nat.reduceAdd, Nat.reduceSub, Nat.reduceMul, List.getElem?_cons_zero, List.getElem?_cons_succ, List.getElem?_nil, List.set_cons_zero, List.set_cons_succ, List.mapM_cons, List.mapM_nil, Option.pure_def, Option.bind_eq_bind, Option.bind_some, Bool.not_true, Bool.not_false]
      refine (odd k5.2.2).mono ?_
      rintro v t6 ⟨⟨od, rfl, hod⟩, k6⟩
      simp only [w_var, a_var, w_con, w_glo, w_op, k_op1, k_op2, w_neg, k_neg, w_cmp, k_cm1, k_cm2, w_chain, k_ch1, k_ch2, w_and, k_and, w_or, k_or, w_not, k_not, w_ite, k_ite, w_tup, k_tup, w_lst, k_lst, w_call, k_call, w_prim, k_prim, w_isi, k_isi, w_ix, k_ix1, k_ix2, w_ts0, w_ts, k_ts1, k_ts2, w_ds0, w_ds, k_ds1d, k_ds1n, k_ds2, x_nil, x_cons, x_set, k_set, x_setM, k_setMt, k_setMn, x_expr, k_expr, x_ret, k_ret, x_retN, x_pass, x_ife, k_if, x_for, k_for, k_finN, k_finD, k_finL, st_t, st_n, rd_d, rd_ref, w_sl, k_sl, k_sl1, k_sl2, w_o0, w_o_var, w_o_con, w_o_op, k_o, w_it_var, w_it_con, w_it_ix, w_it_lst, w_it_tup, w_it_call, w_it_prim, w_it_sl, w_it_op, w_it_comp, w_it_ite, k_src, w_rng, k_rng, w_comp, k_comp, k_eltD, k_eltN, k_cond, body0, body1, x_setI, k_si1, k_si2, k_si3, w_meth, k_me1, k_me2, nxt_next, nxt_ret, nxt_brk, nxt_cont, wp_ok, wps_ok, w_dct0, a_dct1, wps_bt, a_bt, x_parM, w_evT, w_evF, a_alT, a_alN, a_stl, k_pm1, k_pm2, tB, oK_some, a_at, a_atB, a_atD, a_opb, a_opa, a_cmb, a_cma, a_ixb, a_ixa, a_neg, a_chT, a_chF, a_cha2, a_cha, a_brAT, a_brAF, a_brOT, a_brOF, a_brIT, a_brIF, a_brST, a_brSF, a_and, a_or, a_not, a_ite, a_if, a_prim, a_isi, a_set, a_slb, a_o, a_src, a_rng, a_bo0, a_bo1, a_brCT, a_brCF, a_cond, a_sid, a_sic, a_sib, a_mea, a_meb, a_mec, b_add, b_sub, c_lt, c_le, c_gt, c_ge, c_eqI, c_neI, c_eqS, c_neS, c_isB, c_isnotB, p_lenL, p_lenT, p_int, p_max, p_min, p_tupL, p_lstT, p_lstL, i_l, i_t, at0, at1, at2, t_bool, s_l, s_t, bp_nm, bp_tp, bps0, bps1, sr_l, sr_t, sr_n, startE, wipe, List.map_cons, List.map_nil, List.length_cons, List.length_nil, List.replicate, List.cons_append, List.nil_append, List.append_nil, Nat.reduceAdd, Nat.reduceSub, Nat.reduceMul, List.getElem?_cons_zero, List.getElem?_cons_succ, List.getElem?_nil, List.set_cons_zero, List.set_cons_succ, List.mapM_cons, List.mapM_nil, Option.pure_def, Option.bind_eq_bind, Option.bind_some, Bool.not_true, Bool.not_false]
      refine judge (cs := 0) rfl (all_cons hnt.nb.thing (all_cons hb1 (all_cons hb2 (all_cons htw (all_cons hod all_nil))))) fun e6 e7 => ?_
      simp only [w_var, a_var, w_con, w_glo, w_op, k_op1, k_op2, w_neg, k_neg, w_cmp, k_cm1, k_cm2, w_chain, k_ch1, k_ch2, w_and, k_and, w_or, k_or, w_not, k_not, w_ite, k_ite, w_tup, k_tup, w_lst, k_lst, w_call, k_call, w_prim, k_prim, w_isi, k_isi, w_ix, k_ix1, k_ix2, w_ts0, w_ts, k_ts1, k_ts2, w_ds0, w_ds, k_ds1d, k_ds1n, k_ds2, x_nil, x_cons, x_set, k_set, x_setM, k_setMt, k_setMn, x_expr, k_expr, x_ret, k_ret, x_retN, x_pass, x_ife, k_if, x_for, k_for, k_finN, k_finD, k_finL, st_t, st_n, rd_d, rd_ref, w_sl, k_sl, k_sl1, k_sl2, w_o0, w_o_var, w_o_con, w_o_op, k_o, w_it_var, w_it_con, w_it_ix, w_it_lst, w_it_tup, w_it_call, w_it_prim, w_it_sl, w_it_op, w_it_comp, w_it_ite, k_src, w_rng, k_rng, w_comp, k_comp, k_eltD, k_eltN, k_cond, body0, body1, x_setI, k_si1, k_si2, k_si3, w_meth, k_me1, k_me2, nxt_next, nxt_ret, nxt_brk, nxt_cont, wp_ok, wps_ok, w_dct0, a_dct1, wps_bt, a_bt, x_parM, w_evT, w_evF, a_alT, a_alN, a_stl, k_pm1, k_pm2, tB, oK_some, a_at, a_atB, a_atD, a_opb, a_opa, a_cmb, a_cma, a_ixb, a_ixa, a_neg, a_chT, a_chF, a_cha2, a_cha, a_brAT, a_brAF, a_brOT, a_brOF, a_brIT, a_brIF, a_brST, a_brSF, a_and, a_or, a_not, a_ite, a_if, a_prim, a_isi, a_set, a_slb, a_o, a_src, a_rng, a_bo0, a_bo1, a_brCT, a_brCF, a_cond, a_sid, a_sic, a_sib, a_mea, a_meb, a_mec, b_add, b_sub, c_lt, c_le, c_gt, c_ge, c_eqI, c_neI, c_eqS, c_neS, c_isB, c_isnotB, p_lenL, p_lenT, p_int, p_max, p_min, p_tupL, p_lstT, p_lstL, i_l, i_t, at0, at1, at2, t_bool, s_l, s_t, bp_nm, bp_tp, bps0, bps1, sr_l, sr_t, sr_n, startE, wipe, List.map_cons, List.map_nil, List.length_cons, List.length_nil, List.replicate, List.cons_append, List.nil_append, List.append_nil, Nat.reduceAdd, Nat.reduceSub, Nat.reduceMul, List.getElem?_cons_zero, List.getElem?_cons_succ, List.getElem?_nil, List.set_cons_zero, List.set_cons_succ, List.mapM_cons, List.mapM_nil, Option.pure_def, Option.bind_eq_bind, Option.bind_some, Bool.not_true, Bool.not_false]
      exact ⟨.inl trivial, _, _, _, _, _, rfl, k6.2.2⟩
    · rintro env s ⟨e3, e4, e5, e6, e7, rfl, hs⟩
      simp only [nxt_next]
      simp only [w_var, a_var, w_con, w_glo, w_op, k_op1, k_op2, w_neg, k_neg, w_cmp, k_cm1, k_cm2, w_chain, k_ch1, k_ch2, w_and, k_and, w_or, k_or, w_not, k_not, w_ite, k_ite, w_tup, k_tup, w_lst, k_lst, w_call, k_call, w_prim, k_prim, w_isi, k_isi, w_ix, k_ix1, k_ix2, w_ts0, w_ts, k_ts1, k_ts2, w_ds0, w_ds, k_ds1d, k_ds1n, k_ds2, x_nil, x_cons, x_set, k_set, x_setM, k_setMt, k_setMn, x_expr, k_expr, x_ret, k_ret, x_retN, x_pass, x_ife, k_if, x_for, k_for, k_finN, k_finD, k_finL, st_t, st_n, rd_d, rd_ref, w_sl, k_sl, k_sl1, k_sl2, w_o0, w_o_var, w_o_con, w_o_op, k_o, w_it_var, w_it_con, w_it_ix, w_it_lst, w_it_tup, w_it_call, w_it_prim, w_it_sl, w_it_op, w_it_comp, w_it_ite, k_src, w_rng, k_rng, w_comp, k_comp, k_eltD, k_eltN, k_cond, body0, body1, x_setI, k_si1, k_si2, k_si3, w_meth, k_me1, k_me2, nxt_next, nxt_ret, nxt_brk, nxt_cont, wp_ok, wps_ok, w_dct0, a_dct1, wps_bt, a_bt, x_parM, w_evT, w_evF, a_alT, a_alN, a_stl, k_pm1, k_pm2, tB, oK_some, a_at, a_atB, a_atD, a_opb, a_opa, a_cmb, a_cma, a_ixb, a_ixa, a_neg, a_chT, a_chF, a_cha2, a_cha, a_brAT, a_brAF, a_brOT, a_brOF, a_brIT, a_brIF, a_brST, a_brSF, a_and, a_or, a_not, a_ite, a_if, a_prim, a_isi, a_set, a_slb, a_o, a_src, a_rng, a_bo0, a_bo1, a_brCT, a_brCF, a_cond, a_sid, a_sic, a_sib, a_mea, a_meb, a_mec, b_add, b_sub, c_lt, c_le, c_gt, c_ge, c_eqI, c_neI, c_eqS, c_neS, c_isB, c_isnotB, p_lenL, p_lenT, p_int, p_max, p_min, p_tupL, p_lstT, p_lstL, i_l, i_t, at0, at1, at2, t_bool, s_l, s_t, bp_nm, bp_tp, bps0, bps1, sr_l, sr_t, sr_n, startE, wipe, List.map_cons, List.map_nil, List.length_cons, List.length_nil, List.replicate, List.cons_append, List.nil_append, List.append_nil, Nat.reduceAdd, Nat.reduceSub, Nat.reduceMul, List.getElem?_cons_zero, List.getElem?_cons_succ, List.getElem?_nil, List.set_cons_zero, List.set_cons_succ, List.mapM_cons, List.mapM_nil, Option.pure_def, Option.bind_eq_bind, Option.bind_some, Bool.not_true, Bool.not_false]
      refine (odd_net hs).mono ?_
      rintro v t1 ⟨⟨on, rfl, hon⟩, k1⟩
      have z0 : isNet (.tuple [.int 0, .tuple [], .tuple []]) = true := by decide +kernel
      simp only [w_var, a_var, w_con, w_glo, w_op, k_op1, k_op2, w_neg, k_neg, w_cmp, k_cm1, k_cm2, w_chain, k_ch1, k_ch2, w_and, k_and, w_or, k_or, w_not, k_not, w_ite, k_ite, w_tup, k_tup, w_lst, k_lst, w_call, k_call, w_prim, k_prim, w_isi, k_isi, w_ix, k_ix1, k_ix2, w_ts0, w_ts, k_ts1, k_ts2, w_ds0, w_ds, k_ds1d, k_ds1n, k_ds2, x_nil, x_cons, x_set, k_set, x_setM, k_setMt, k_setMn, x_expr, k_expr, x_ret, k_ret, x_retN, x_pass, x_ife, k_if, x_for, k_for, k_finN, k_finD, k_finL, st_t, st_n, rd_d, rd_ref, w_sl, k_sl, k_sl1, k_sl2, w_o0, w_o_var, w_o_con, w_o_op, k_o, w_it_var, w_it_con, w_it_ix, w_it_lst, w_it_tup, w_it_call, w_it_prim, w_it_sl, w_it_op, w_it_comp, w_it_ite, k_src, w_rng, k_rng, w_comp, k_comp, k_eltD, k_eltN, k_cond, body0, body1, x_setI, k_si1, k_si2, k_si3, w_meth, k_me1, k_me2, nxt_next, nxt_ret, nxt_brk, nxt_cont, wp_ok, wps_ok, w_dct0, a_dct1, wps_bt, a_bt, x_parM, w_evT, w_evF, a_alT, a_alN, a_stl, k_pm1, k_pm2, tB, oK_some, a_at, a_atB, a_atD, a_opb, a_opa, a_cmb, a_cma, a_ixb, a_ixa, a_neg, a_chT, a_chF, a_cha2, a_cha, a_brAT, a_brAF, a_brOT, a_brOF, a_brIT, a_brIF, a_brST, a_brSF, a_and, a_or, a_not, a_ite, a_if, a_prim, a_isi, a_set, a_slb, a_o, a_src, a_rng, a_bo0, a_bo1, a_brCT, a_brCF, a_cond, a_sid, a_sic, a_sib, a_mea, a_meb, a_mec, b_add, b_sub, c_lt, c_le, c_gt, c_ge, c_eqI, c_neI, c_eqS, c_neS, c_isB, c_isnotB, p_lenL, p_lenT, p_int, p_max, p_min, p_tupL, p_lstT, p_lstL, i_l, i_t, at0, at1, at2, t_bool, s_l, s_t, bp_nm, bp_tp, bps0, bps1, sr_l, sr_t, sr_n, startE, wipe, List.map_cons, List.map_nil, List.length_cons, List.length_nil, List.replicate, List.cons_append, List.nil_append, List.append_nil, Nat.reduceAdd, Nat.reduceSub, Nat.reduceMul, List.getElem?_cons_zero, List.getElem?_cons_succ, List.getElem?_nil, List.set_cons_zero, List.set_cons_succ, List.mapM_cons, List.mapM_nil, Option.pure_def, Option.bind_eq_bind, Option.bind_some, Bool.not_true, Bool.not_false, p_net, hon, z0, beq_self_eq_true]
      exact ⟨.inl trivial, _, _, _, _, _, _, _, rfl, fun y hy => hx y (by simp [hy])⟩
  · rintro env s ⟨e1, e2, e3, e4, e5, e6, e7, rfl, _⟩
    simp only [nxt_next]
    simp only [w_var, a_var, w_con, w_glo, w_op, k_op1, k_op2, w_neg, k_neg, w_cmp, k_cm1, k_cm2, w_chain, k_ch1, k_ch2, w_and, k_and, w_or, k_or, w_not, k_not, w_ite, k_ite, w_tup, k_tup, w_lst, k_lst, w_call, k_call, w_prim, k_prim, w_isi, k_isi, w_ix, k_ix1, k_ix2, w_ts0, w_ts, k_ts1, k_ts2, w_ds0, w_ds, k_ds1d, k_ds1n, k_ds2, x_nil, x_cons, x_set, k_set, x_setM, k_setMt, k_setMn, x_expr, k_expr, x_ret, k_ret, x_retN, x_pass, x_ife, k_if, x_for, k_for, k_finN, k_finD, k_finL, st_t, st_n, rd_d, rd_ref, w_sl, k_sl, k_sl1, k_sl2, w_o0, w_o_var, w_o_con, w_o_op, k_o, w_it_var, w_it_con, w_it_ix, w_it_lst, w_it_tup, w_it_call, w_it_prim, w_it_sl, w_it_op, w_it_comp, w_it_ite, k_src, w_rng, k_rng, w_comp, k_comp, k_eltD, k_eltN, k_cond, body0, body1, x_setI, k_si1, k_si2, k_si3, w_meth, k_me1, k_me2, nxt_next, nxt_ret, nxt_brk, nxt_cont, wp_ok, wps_ok, w_dct0, a_dct1, wps_bt, a_bt, x_parM, w_evT, w_evF, a_alT, a_alN, a_stl, k_pm1, k_pm2, tB, oK_some, a_at, a_atB, a_atD, a_opb, a_opa, a_cmb, a_cma, a_ixb, a_ixa, a_neg, a_chT, a_chF, a_cha2, a_cha, a_brAT, a_brAF, a_brOT, a_brOF, a_brIT, a_brIF, a_brST, a_brSF, a_and, a_or, a_not, a_ite, a_if, a_prim, a_isi, a_set, a_slb, a_o, a_src, a_rng, a_bo0, a_bo1, a_brCT, a_brCF, a_cond, a_sid, a_sic, a_sib, a_mea, a_meb, a_mec, b_add, b_sub, c_lt, c_le, c_gt, c_ge, c_eqI, c_neI, c_eqS, c_neS, c_isB, c_isnotB, p_lenL, p_lenT, p_int, p_max, p_min, p_tupL, p_lstT, p_lstL, i_l, i_t, at0, at1, at2, t_bool, s_l, s_t, bp_nm, bp_tp, bps0, bps1, sr_l, sr_t, sr_n, startE, wipe, List.map_cons, List.map_nil, List.length_cons, List.length_nil, List.replicate, List.cons_append, List.nil_append, List.append_nil, Nat.reduceAdd, Nat.reduceSub, Nat.reduceMul, List.getElem?_cons_zero, List.getElem?_cons_succ, List.getElem?_nil, List.set_cons_zero, List.set_cons_succ, List.mapM_cons, List.mapM_nil, Option.pure_def, Option.bind_eq_bind, Option.bind_some, Bool.not_true, Bool.not_false]
    rw [b_mulT (by decide)]
    simp only [w_var, a_var, w_con, w_glo, w_op, k_op1, k_op2, w_neg, k_neg, w_cmp, k_cm1, k_cm2, w_chain, k_ch1, k_ch2, w_and, k_and, w_or, k_or, w_not, k_not, w_ite, k_ite, w_tup, k_tup, w_lst, k_lst, w_call, k_call, w_prim, k_prim, w_isi, k_isi, w_ix, k_ix1, k_ix2, w_ts0, w_ts, k_ts1, k_ts2, w_ds0, w_ds, k_ds1d, k_ds1n, k_ds2, x_nil, x_cons, x_set, k_set, x_setM, k_setMt, k_setMn, x_expr, k_expr, x_ret, k_ret, x_retN, x_pass, x_ife, k_if, x_for, k_for, k_finN, k_finD, k_finL, st_t, st_n, rd_d, rd_ref, w_sl, k_sl, k_sl1, k_sl2, w_o0, w_o_var, w_o_con, w_o_op, k_o, w_it_var, w_it_con, w_it_ix, w_it_lst, w_it_tup, w_it_call, w_it_prim, w_it_sl, w_it_op, w_it_comp, w_it_ite, k_src, w_rng, k_rng, w_comp, k_comp, k_eltD, k_eltN, k_cond, body0, body1, x_setI, k_si1, k_si2, k_si3, w_meth, k_me1, k_me2, nxt_next, nxt_ret, nxt_brk, nxt_cont, wp_ok, wps_ok, w_dct0, a_dct1, wps_bt, a_bt, x_parM, w_evT, w_evF, a_alT, a_alN, a_stl, k_pm1, k_pm2, tB, oK_some, a_at, a_atB, a_atD, a_opb, a_opa, a_cmb, a_cma, a_ixb, a_ixa, a_neg, a_chT, a_chF, a_cha2, a_cha, a_brAT, a_brAF, a_brOT, a_brOF, a_brIT, a_brIF, a_brST, a_brSF, a_and, a_or, a_not, a_ite, a_if, a_prim, a_isi, a_set, a_slb, a_o, a_src, a_rng, a_bo0, a_bo1, a_brCT, a_brCF, a_cond, a_sid, a_sic, a_sib, a_mea, a_meb, a_mec, b_add, b_sub, c_lt, c_le, c_gt, c_ge, c_eqI, c_neI, c_eqS, c_neS, c_isB, c_isnotB, p_lenL, p_lenT, p_int, p_max, p_min, p_tupL, p_lstT, p_lstL, i_l, i_t, at0, at1, at2, t_bool, s_l, s_t, bp_nm, bp_tp, bps0, bps1, sr_l, sr_t, sr_n, startE, wipe, List.map_cons, List.map_nil, List.length_cons, List.length_nil, List.replicate, List.cons_append, List.nil_append, List.append_nil, Nat.reduceAdd, Nat.reduceSub, Nat.reduceMul, List.getElem?_cons_zero, List.getElem?_cons_succ, List.getElem?_nil, List.set_cons_zero, List.set_cons_succ, List.mapM_cons, List.mapM_nil, Option.pure_def, Option.bind_eq_bind, Option.bind_some, Bool.not_true, Bool.not_false]
    rw [b_mulT (by decide)]
    have z1 : isNet (.tuple [.int 8, .tuple (repD [.tuple [.int 0, .int 8]] 7), .tuple (repD [.tuple [.int 0, .int 6, .int 8, .int 8]] 9)]) = true := by decide +kernel
    simp only [w_var, a_var, w_con, w_glo, w_op, k_op1, k_op2, w_neg, k_neg, w_cmp, k_cm1, k_cm2, w_chain, k_ch1, k_ch2, w_and, k_and, w_or, k_or, w_not, k_not, w_ite, k_ite, w_tup, k_tup, w_lst, k_lst, w_call, k_call, w_prim, k_prim, w_isi, k_isi, w_ix, k_ix1, k_ix2, w_ts0, w_ts, k_ts1, k_ts2, w_ds0, w_ds, k_ds1d, k_ds1n, k_ds2, x_nil, x_cons, x_set, k_set, x_setM, k_setMt, k_setMn, x_expr, k_expr, x_ret, k_ret, x_retN, x_pass, x_ife, k_if, x_for, k_for, k_finN, k_finD, k_finL, st_t, st_n, rd_d, rd_ref, w_sl, k_sl, k_sl1, k_sl2, w_o0, w_o_var, w_o_con, w_o_op, k_o, w_it_var, w_it_con, w_it_ix, w_it_lst, w_it_tup, w_it_call, w_it_prim, w_it_sl, w_it_op, w_it_comp, w_it_ite, k_src, w_rng, k_rng, w_comp, k_comp, k_eltD, k_eltN, k_cond, body0, body1, x_setI, k_si1, k_si2, k_si3, w_meth, k_me1, k_me2, nxt_next, nxt_ret, nxt_brk, nxt_cont, wp_ok, wps_ok, w_dct0, a_dct1, wps_bt, a_bt, x_parM, w_evT, w_evF, a_alT, a_alN, a_stl, k_pm1, k_pm2, tB, oK_some, a_at, a_atB, a_atD, a_opb, a_opa, a_cmb, a_cma, a_ixb, a_ixa, a_neg, a_chT, a_chF, a_cha2, a_cha, a_brAT, a_brAF, a_brOT, a_brOF, a_brIT, a_brIF, a_brST, a_brSF, a_and, a_or, a_not, a_ite, a_if, a_prim, a_isi, a_set, a_slb, a_o, a_src, a_rng, a_bo0, a_bo1, a_brCT, a_brCF, a_cond, a_sid, a_sic, a_sib, a_mea, a_meb, a_mec, b_add, b_sub, c_lt, c_le, c_gt, c_ge, c_eqI, c_neI, c_eqS, c_neS, c_isB, c_isnotB, p_lenL, p_lenT, p_int, p_max, p_min, p_tupL, p_lstT, p_lstL, i_l, i_t, at0, at1, at2, t_bool, s_l, s_t, bp_nm, bp_tp, bps0, bps1, sr_l, sr_t, sr_n, startE, wipe, List.map_cons, List.map_nil, List.length_cons, List.length_nil, List.replicate, List.cons_append, List.nil_append, List.append_nil, Nat.reduceAdd, Nat.reduceSub, Nat.reduceMul, List.getElem?_cons_zero, List.getElem?_cons_succ, List.getElem?_nil, List.set_cons_zero, List.set_cons_succ, List.mapM_cons, List.mapM_nil, Option.pure_def, Option.bind_eq_bind, Option.bind_some, Bool.not_true, Bool.not_false, p_net, z1, beq_self_eq_true]
theorem run_ok (ns : List Int) (hl : ns.length ≤ 63) (hb : ∀ z ∈ ns, PySem.Builtin.Int.intBits z ≤ 1048576) : ∃ st, callN tbl 100000 60 22 [.d (.list (ns.map .int))] [] = .ok (.t (.d (.bool true))) st := by
  obtain ⟨v, s, e, rfl⟩ := (the_law (wf := 100000) hl hb (by decide)).get
  exact ⟨s, e⟩
end Lw

theorem PySem.Challenge.cw_staybars_k01_nets_judged_holds : PySem.Challenge.rw_staybars_k01_nets_judged.Holds := by
  exact law_of_run Lw.run_ok
