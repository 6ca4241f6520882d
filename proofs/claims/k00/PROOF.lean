import PyProof.Rows.All
import Wide.All
import OpenK.AllK
import Wide.FinOn
import HandS.Base
import HandS.Call
import HandS.List
import HandS.Comp
import HandS.Ends
import HandS.Exc
import HandS.ExcOwn
import HandS.TryMany
import HandS.Words
import HandS.WordsList
import HandS.WordsExc
import HandS.CallSlots
import HandS.Iter
import HandS.Zip
import HandS.Walk
import HandS.Wide
import HandS.IsInst
import HandS.Defaults
import HandS.Small
import HandS.HeadHook1
import HandS.HeadHook2
import HandS.Head0
import HandS.Head1
import HandS.Head2
import HandS.HeadEnd
import HandS.More
import HandS.TupAny
import HandS.TupMul
import HandS.Style
import HandS.Flow
import HandS.ExcIs
import HandS.HeadHook3
import HandS.HeadHook4
import PySem.Challenge.RW_wholenear_k00_whole_fractions
set_option Elab.async false
set_option linter.all false
set_option maxRecDepth 100000
set_option maxHeartbeats 0
/-! Dx, part 1: data, the mini heap, how they lie in the abstract heap. -/
namespace Dx
open PySem PySem.Spec PyProof.Rows L2
/-- a value as a tree; ref i: the i-th object of the mini heap; fn i: the i-th def; scr: the script, a list that nobody changes -/
inductive D where
  | non | bl (b : Bool) | int (i : Int) | str (x : Str) | tup (xs : List D) | lst (xs : List D) | ref (i : Nat) | fn (i : Nat) | scr (xs : List D)
  deriving Inhabited
/-- an object that may be changed -/
inductive O where
  | lst (xs : List D)
  | gone
  deriving Inhabited
abbrev M := List O
/-- a list that nobody changes: known to the object, or the module's own -/
def SqF (K : PySem.W.Frag) (H : Hp) (a : Addr) (xs : List V) : Prop :=
  (∃ o, H a = some (.frz o (.lst xs))) ∨ ∃ (o : Obj) (its : Array Value) (n : Nat), K.lookup a = some o ∧ o.cls = .type "list" ∧ o.dict = none ∧ o.data = .seq its n ∧ its.size ≤ sizeLine ∧ Vals xs its.toList
theorem SqF.sq {K : PySem.W.Frag} {H : Hp} {a : Addr} {xs : List V} (h : SqF K H a xs) : SqL K H a xs := by
  rcases h with h | h
  · exact .inl (.inr h)
  · exact .inr h
section
variable (K : PySem.W.Frag) (fa : Nat → Addr) (ρ : List Addr) (Z : Addr → Prop) (H : Hp)
mutual
def RelD : D → V → Prop
  | .non, v => v = .non
  | .bl b, v => v = .bl b
  | .int i, v => v = .int i
  | .str x, v => v = .str x
  | .tup ds, v => ∃ p vs, v = .ref p ∧ SqT K H p vs ∧ RelDs ds vs
  | .lst ds, v => ∃ p vs, v = .ref p ∧ H p = some (.lst vs) ∧ ¬ Z p ∧ RelDs ds vs
  | .ref i, v => ∃ p, v = .ref p ∧ ρ[i]? = some p
  | .fn i, v => v = .ref (fa i)
  | .scr ds, v => ∃ p vs, v = .ref p ∧ SqF K H p vs ∧ RelDs ds vs
def RelDs : List D → List V → Prop
  | [], vs => vs = []
  | d :: ds, vs => ∃ v r, vs = v :: r ∧ RelD d v ∧ RelDs ds r
end
def RelO : O → Addr → Prop
  | .lst ds, p => ∃ vs, H p = some (.lst vs) ∧ RelDs K fa ρ Z H ds vs
  | .gone, _ => True
end
/-- the mini heap m lies in H: object i at ρ's i-th; Z: the addresses that nothing frozen names; W: those that may be written -/
structure MOk (K : PySem.W.Frag) (fa : Nat → Addr) (ρ : List Addr) (Z : Addr → Prop) (H : Hp) (m : List O) : Prop where
  len : ρ.length = m.length
  nd : ρ.Nodup
  there : ∀ a ∈ ρ, H a ≠ none
  hot : ∀ a, Z a → Mut (H a)
  live : ∀ (i : Nat) (o : O), m[i]? = some o → o ≠ .gone → ∀ p, ρ[i]? = some p → Z p ∧ RelO K fa ρ Z H o p
/-- from one state to a later one. live ones of m may have changed -/
structure Step (ρ : List Addr) (Z : Addr → Prop) (H : Hp) (ρ' : List Addr) (Z' : Addr → Prop) (H' : Hp) : Prop where
  pre : ∃ t, ρ' = ρ ++ t
  newr : ∀ a ∈ ρ', a ∉ ρ → H a = none
  newz : ∀ a, Z' a → ¬ Z a → H a = none
  keep : ∀ a o, H a = some o → (a ∉ ρ ∨ ¬ Z a) → H' a = some o
  hotk : ∀ a, Z a → a ∉ ρ → Z' a
end Dx
/-! Dx, part 2: the core language and its evaluator. -/
namespace Dx
open PySem
inductive Res (α : Type) where
  | ok (a : α) (m : M) | err (c : Nat) (m : M) | bad
def Res.bind {α β : Type} (r : Res α) (f : α → M → Res β) : Res β := match r with
  | .ok a m => f a m
  | .err c m => .err c m
  | .bad => .bad
/-- what a partial function gives -/
def Res.of {α : Type} (o : Option α) (m : M) : Res α := match o with
  | some a => .ok a m
  | none => .bad
def Res.noErr {α : Type} (r : Res α) : Res α := match r with
  | .err _ _ => .bad
  | r => r
inductive SRes where
  | nx (e : List (Option D)) (m : M) | ret (d : D) (m : M) | brk (e : List (Option D)) (m : M) | cnt (e : List (Option D)) (m : M) | err (c : Nat) (e : List (Option D)) (m : M) | bad
abbrev Env' := List (Option D)
/-- the built-in types that isinstance asks -/
inductive Ty where
  | tInt | tBool | tStr | tList | tTuple
  deriving DecidableEq
inductive Blt where
  | len | abs | toInt | all | any | toTuple | sum | max2 | min2
  deriving DecidableEq
inductive Tg where
  | name (i : Nat)
  | tup (ts : List Tg)
mutual
inductive CE where
  | var (i : Nat) | int (i : Int) | bl (b : Bool) | non | str (x : Str)
  | glob (i : Nat) | fn (i : Nat)
  | bin (o : Operator) (a b : CE) | neg (a : CE)
  | cmp (o : CmpOp) (a b : CE) | chain (o o' : CmpOp) (a b c : CE)
  | andV (es : CEs) | orV (es : CEs) | notV (a : CE) | orT (a b : CE)
  | ife (t : CT) (a b : CE)
  | tup (es : CEs)
  | lv (l : CL) | lm (l : CL) | frz (a : CE)
  | idx (a b : CE) | slc (a : CE) (lo hi : CO)
  | call (f : Nat) (es : CEs) | callL (i : Nat) (es : CEs) | callK (f : Nat) (es : CEs) (ks : CEs) (pm : List Nat)
  | blt (b : Blt) (es : CEs)
  | isI (a : CE) (ts : List Ty)
  | excIs (i : Nat)
inductive CEs where
  | nil | cons (e : CE) (es : CEs)
inductive CO where
  | none | some (e : CE)
inductive CL where
  | disp (es : CEs) | comp (elt : CE) (tg : Tg) (it : CI) (cond : CTo) (own : List Nat)
  | cat (a b : CE) | rep (a b : CE) | lst (a : CE) | slc (a : CE) (lo hi : CO)
inductive CI where
  | seq (a : CE) | rng1 (a : CE) | rng2 (a b : CE) | enum (a : CE) | zip (a b : CE)
inductive CT where
  | val (a : CE) | tru (a : CE) | cmp (o : CmpOp) (a b : CE) | chain (o o' : CmpOp) (a b c : CE) | and (ts : CTs) | or (ts : CTs) | not (a : CT)
inductive CTs where
  | nil | cons (t : CT) (ts : CTs)
inductive CTo where
  | none | some (t : CT)
end
/-- what an except suite does: x = e, or return e -/
inductive HAct where
  | asg (j : Nat) (e : CE) | ret (e : CE)
inductive CHs where
  | nil | cons (c : Nat) (i : Option Nat) (a : HAct) (hs : CHs)
mutual
inductive CS where
  | expr (e : CE) | ret (e : CE) | retN | asg (t : Tg) (e : CE)
  | par2 (i j : Nat) (a b : CE)
  | setI (o i e : CE)
  | swap (o1 i1 o2 i2 a b : CE)
  | app (o e : CE) | ext (o e : CE)
  | ife (t : CT) (a b : CSs) | for_ (tg : Tg) (it : CI) (body : CSs) | while_ (t : CT) (body : CSs)
  | brk | cnt | pass | raise (c : Nat) | try_ (body : CSs) (hs : CHs)
inductive CSs where
  | nil | cons (s : CS) (ss : CSs)
end
/-! ### values -/
def mulOk (i j : Int) : Bool := (decide (-(2 ^ 64) < i) && decide (i < 2 ^ 64)) || (decide (-(2 ^ 64) < j) && decide (j < 2 ^ 64)) || decide (i.natAbs.log2 + j.natAbs.log2 < 1000000)
def divOk (j : Int) : Bool := decide (0 < j) && decide (j.natAbs.log2 < 9000)
def powOk (i j : Int) : Bool := decide (0 ≤ j) && decide (j ≤ 1000000) && decide (i.natAbs < 2 ^ 64)
def lineOk (n : Nat) : Bool := decide (n ≤ 1000000)
/-- the items of a list or tuple, read now -/
def itemsOf (m : M) : D → Option (List D)
  | .tup xs => some xs
  | .lst xs => some xs
  | .scr xs => some xs
  | .ref r => match m[r]? with
    | some (.lst xs) => some xs
    | _ => none
  | _ => none
def lstOf (m : M) : D → Option (List D)
  | .lst xs => some xs
  | .ref r => match m[r]? with
    | some (.lst xs) => some xs
    | _ => none
  | _ => none
/-- the script, too -/
def lstOfS (m : M) : D → Option (List D)
  | .scr xs => some xs
  | d => lstOf m d
def evCatL (m : M) (a b : D) : Option (List D) := (lstOf m a).bind fun xs => (lstOf m b).bind fun ys => if lineOk (xs.length + ys.length) then some (xs ++ ys) else none
def evRepL (m : M) (a b : D) : Option (List D) := (lstOf m a).bind fun xs => match b with
  | .int k => if decide (k ≤ 1000000) && lineOk (xs.length * k.toNat) && decide (-(2 ^ 63) ≤ k) then some (List.replicate k.toNat xs).flatten else none
  | _ => none
def evAdd (m : M) (a b : D) : Option D := match a, b with
  | .int i, .int j => some (.int (i + j))
  | .tup xs, .tup ys => if lineOk (xs.length + ys.length) then some (.tup (xs ++ ys)) else none
  | a, b => (evCatL m a b).map .lst
def evSub : D → D → Option D
  | .int i, .int j => some (.int (i - j))
  | _, _ => none
def evMul (m : M) (a b : D) : Option D := match a, b with
  | .int i, .int j => if mulOk i j then some (.int (i * j)) else none
  | .tup xs, .int k => if !xs.isEmpty && decide (2 ≤ k) && decide (k ≤ 1000) && decide (xs.length ≤ 1000) then some (.tup (List.replicate k.toNat xs).flatten) else none
  | a, b => (evRepL m a b).map .lst
def evFdiv : D → D → Option D
  | .int i, .int j => if divOk j then some (.int (i / j)) else none
  | _, _ => none
def evMod : D → D → Option D
  | .int i, .int j => if 0 < j then some (.int (i % j)) else none
  | _, _ => none
def evPow : D → D → Option D
  | .int i, .int j => if powOk i j then some (.int (i ^ j.toNat)) else none
  | _, _ => none
def evBin (m : M) : Operator → D → D → Option D
  | .Add => evAdd m
  | .Sub => evSub
  | .Mult => evMul m
  | .FloorDiv => evFdiv
  | .Mod => evMod
  | .Pow => evPow
  | _ => fun _ _ => none
mutual
/-- a tree of data: no objects that change, no defs; its depth at most n -/
def okD : D → Nat → Bool
  | .non, _ | .bl _, _ | .int _, _ => true
  | .str x, _ => PyData.strOk x
  | .tup xs, n + 1 => okDs xs n
  | .lst xs, n + 1 => okDs xs n
  | _, _ => false
def okDs : List D → Nat → Bool
  | [], _ => true
  | d :: ds, n => okD d n && okDs ds n
end
mutual
def eqd : D → D → Bool
  | .non, .non => true
  | .bl a, .bl b => a == b
  | .bl a, .int j => (if a then 1 else 0) == j
  | .int i, .bl b => i == (if b then 1 else 0)
  | .int i, .int j => i == j
  | .str x, .str y => x == y
  | .lst xs, .lst ys => eqds xs ys
  | .tup xs, .tup ys => eqds xs ys
  | _, _ => false
def eqds : List D → List D → Bool
  | [], [] => true
  | x :: xs, y :: ys => eqd x y && eqds xs ys
  | _, _ => false
end
def isNon : D → Bool
  | .non => true
  | _ => false
def cmpI (p : Int → Int → Bool) : D → D → Option Bool
  | .int i, .int j => some (p i j)
  | _, _ => none
def evEq (a b : D) : Option Bool := if okD a 40 && okD b 40 then some (eqd a b) else none
def evIs (a : D) : D → Option Bool
  | .non => some (isNon a)
  | _ => none
def evCmp : CmpOp → D → D → Option Bool
  | .Lt => cmpI fun i j => decide (i < j)
  | .LtE => cmpI fun i j => decide (i ≤ j)
  | .Gt => cmpI fun i j => decide (j < i)
  | .GtE => cmpI fun i j => decide (j ≤ i)
  | .Eq => evEq
  | .NotEq => fun a b => (evEq a b).map (!·)
  | .Is => evIs
  | .IsNot => fun a b => (evIs a b).map (!·)
  | _ => fun _ _ => none
/-- an index of any sign -/
def ixD (n : Nat) (i : Int) : Option Nat := if 0 ≤ i then (if i < n then some i.toNat else none) else if -(n : Int) ≤ i then some (i + n).toNat else none
def evIdx (m : M) (a i : D) : Option D := match i with
  | .int k => (itemsOf m a).bind fun xs => (ixD xs.length k).bind fun j => xs[j]?
  | _ => none
/-- a bound of a slice -/
def cutIx (n d : Nat) : Option Int → Nat
  | none => d
  | some v => if v < 0 then (v + (n : Int)).toNat else min v.toNat n
def cutD (xs : List D) (lo hi : Option Int) : List D := (xs.drop (cutIx xs.length 0 lo)).take (cutIx xs.length xs.length hi - cutIx xs.length 0 lo)
def evSlc (m : M) (d : D) (lo hi : Option Int) : Option D := match d with
  | .tup xs => some (.tup (cutD xs lo hi))
  | d => (lstOfS m d).map fun xs => .lst (cutD xs lo hi)
def tyOf (m : M) : D → Option Ty
  | .bl _ => some .tBool
  | .int _ => some .tInt
  | .str _ => some .tStr
  | .tup _ => some .tTuple
  | .lst _ => some .tList
  | .ref r => match m[r]? with
    | some (.lst _) => some .tList
    | _ => none
  | _ => none
def isTy (t : Ty) (ts : List Ty) : Bool := ts.any fun u => decide (u = t) || (decide (u = .tInt) && decide (t = .tBool))
def evIsI (m : M) (d : D) (ts : List Ty) : Option Bool := match d with
  | .non => some false
  | d => (tyOf m d).map fun t => isTy t ts
def allBl : List D → Option (List Bool)
  | [] => some []
  | .bl b :: r => (allBl r).map (b :: ·)
  | _ => none
def allInt : List D → Option (List Int)
  | [] => some []
  | .int b :: r => (allInt r).map (b :: ·)
  | _ => none
def one (f : D → Option D) : List D → Option D
  | [a] => f a
  | _ => none
def two (f : D → D → Option D) : List D → Option D
  | [a, b] => f a b
  | _ => none
def evAbs : D → Option D
  | .int i => some (.int (if i < 0 then -i else i))
  | _ => none
def evToInt : D → Option D
  | .int i => some (.int i)
  | .bl b => some (.int (if b then 1 else 0))
  | _ => none
def evMax2 : D → D → Option D
  | .int i, .int j => some (.int (if j > i then j else i))
  | _, _ => none
def evMin2 : D → D → Option D
  | .int i, .int j => some (.int (if j < i then j else i))
  | _, _ => none
def evBlt (m : M) : Blt → List D → Option D
  | .len => one fun a => (itemsOf m a).map fun xs => .int xs.length
  | .abs => one evAbs
  | .toInt => one evToInt
  | .all => one fun a => (lstOf m a).bind fun xs => (allBl xs).map fun bs => .bl (bs.all id)
  | .any => one fun a => (lstOf m a).bind fun xs => (allBl xs).map fun bs => .bl (bs.any id)
  | .sum => one fun a => (lstOf m a).bind fun xs => (allInt xs).map fun ns => .int ns.sum
  | .toTuple => one fun a => (itemsOf m a).map .tup
  | .max2 => two evMax2
  | .min2 => two evMin2
/-- truth of a value, by its kind -/
def evTru (m : M) : D → Option Bool
  | .non => some false
  | .bl b => some b
  | .int i => some (i != 0)
  | .tup xs => some (!xs.isEmpty)
  | .lst xs => some (!xs.isEmpty)
  | .ref r => match m[r]? with
    | some (.lst xs) => some (!xs.isEmpty)
    | _ => none
  | _ => none
mutual
/-- no object that changes is named -/
def nrD : D → Bool
  | .ref _ => false
  | .tup xs | .lst xs | .scr xs => nrDs xs
  | _ => true
def nrDs : List D → Bool
  | [] => true
  | d :: ds => nrD d && nrDs ds
end
mutual
/-- the objects from n on read as g tells -/
def mapRef (g : Nat → Option D) : D → Option D
  | .ref i => g i
  | .tup xs => (mapRefs g xs).map .tup
  | .lst xs => (mapRefs g xs).map .lst
  | .scr _ => none
  | d => some d
def mapRefs (g : Nat → Option D) : List D → Option (List D)
  | [] => some []
  | d :: ds => (mapRef g d).bind fun e => (mapRefs g ds).map fun es => e :: es
end
/-- a value with its own frame's objects (from n on) read off -/
def fz (m : M) (n : Nat) : Nat → D → Option D
  | 0 => mapRef fun i => if i < n then some (.ref i) else none
  | k + 1 => mapRef fun i => if i < n then some (.ref i) else match m[i]? with
    | some (.lst xs) => (mapRefs (fun j => fz m n k (.ref j)) xs).map .lst
    | _ => none
def isRef : D → Option Nat
  | .ref i => some i
  | _ => none
/-- a call's end: n objects stood at its start; rm: what it hands back is to be changed further -/
def finish (rm : Bool) (n : Nat) (d : D) (m : M) : Res D :=
  if rm then match d with
    | .ref i => if n ≤ i then (match m[i]? with
      | some (.lst xs) => if nrDs xs then .ok (.ref n) (m.take n ++ [.lst xs]) else .bad
      | _ => .bad) else .bad
    | _ => .bad
  else if m.length ≤ n then .ok d m else match fz m n 4 d with
    | some e => .ok e (m.take n)
    | none => .bad
/-! ### walks -/
mutual
def assignTg : Tg → D → Env' → Option Env'
  | .name i, d, e => some (e.set i (some d))
  | .tup ts, .tup ds, e => assignTgs ts ds e
  | _, _, _ => none
def assignTgs : List Tg → List D → Env' → Option Env'
  | [], [], e => some e
  | t :: ts, d :: ds, e => (assignTg t d e).bind fun e' => assignTgs ts ds e'
  | _, _, _ => none
end
def wipeE (e : Env') : List Nat → Env'
  | [] => e
  | v :: vs => (wipeE e vs).set v none
inductive Src where
  | seq (xs : List D) | rf (r : Nat) (n : Nat)
def getV (e : Env') (i : Nat) : Option D := match e[i]? with
  | some (some d) => some d
  | _ => none
/-- a for over fixed items -/
def forL (step : D → Env' → M → SRes) : List D → Env' → M → SRes
  | [], e, m => .nx e m
  | x :: xs, e, m => match step x e m with
    | .nx e m => forL step xs e m
    | .cnt e m => forL step xs e m
    | .brk e m => .nx e m
    | r => r
/-- a for over a list that may change: turn k, at most n turns -/
def forR (step : D → Env' → M → SRes) (r : Nat) : Nat → Nat → Env' → M → SRes
  | 0, k, e, m => match m[r]? with
    | some (.lst xs) => if xs.length ≤ k then .nx e m else .bad
    | _ => .bad
  | n + 1, k, e, m => match m[r]? with
    | some (.lst xs) => (match xs[k]? with
      | none => .nx e m
      | some x => match step x e m with
        | .nx e m => forR step r n (k + 1) e m
        | .cnt e m => forR step r n (k + 1) e m
        | .brk e m => .nx e m
        | r => r)
    | _ => .bad
def consO : Option D → List D → List D
  | some d, r => d :: r
  | none, r => r
/-- a comprehension over fixed items -/
def compL (f : D → M → Res (Option D)) : List D → M → Res (List D)
  | [], m => .ok [] m
  | x :: xs, m => (f x m).noErr.bind fun o m => (compL f xs m).bind fun r m => .ok (consO o r) m
def whileN (t : Env' → M → Res Bool) (b : Env' → M → SRes) : Nat → Env' → M → SRes
  | 0, _, _ => .bad
  | n + 1, e, m => match t e m with
    | .ok true m => (match b e m with
      | .nx e m => whileN t b n e m
      | .cnt e m => whileN t b n e m
      | .brk e m => .nx e m
      | r => r)
    | .ok false m => .nx e m
    | .err c m => .err c e m
    | .bad => .bad
def whileMost : Nat := 2 ^ 9100
structure Cfg where
  call : Nat → List D → M → Res D
  glob : Nat → Option D
  base : Nat
  nf : Nat
  nc : Nat
def Res.toS (r : Res D) (e : Env') (f : D → M → SRes) : SRes := match r with
  | .ok d m => f d m
  | .err c m => .err c e m
  | .bad => .bad
def pickL {α : Type} (xs : List α) : List Nat → Option (List α)
  | [] => some []
  | i :: is => (xs[i]?).bind fun x => (pickL xs is).map fun r => x :: r
/-! ### the evaluator -/
mutual
def evE (c : Cfg) : CE → Env' → M → Res D
  | .var i, e, m => .of (getV e i) m
  | .int i, _, m => .ok (.int i) m
  | .bl b, _, m => .ok (.bl b) m
  | .non, _, m => .ok .non m
  | .str x, _, m => .ok (.str x) m
  | .glob i, _, m => .of (c.glob i) m
  | .fn i, _, m => .ok (.fn i) m
  | .bin o a b, e, m => (evE c a e m).bind fun x m => (evE c b e m).bind fun y m => .of (evBin m o x y) m
  | .neg a, e, m => (evE c a e m).bind fun x m => match x with
    | .int i => .ok (.int (-i)) m
    | _ => .bad
  | .cmp o a b, e, m => (evE c a e m).bind fun x m => (evE c b e m).bind fun y m => .of ((evCmp o x y).map .bl) m
  | .chain o o' a b d, e, m => (evE c a e m).bind fun x m => (evE c b e m).bind fun y m => match evCmp o x y with
    | some true => (evE c d e m).bind fun z m => .of ((evCmp o' y z).map .bl) m
    | some false => .ok (.bl false) m
    | none => .bad
  | .andV es, e, m => evAnds c es e m
  | .orV es, e, m => evOrs c es e m
  | .notV a, e, m => (evE c a e m).bind fun x m => match x with
    | .bl b => .ok (.bl (!b)) m
    | _ => .bad
  | .orT a b, e, m => (evE c a e m).bind fun x m => match evTru m x with
    | some true => .ok x m
    | some false => evE c b e m
    | none => .bad
  | .ife t a b, e, m => (evT c t e m).bind fun k m => if k then evE c a e m else evE c b e m
  | .tup es, e, m => (evEs c es e m).bind fun ds m => if lineOk ds.length then .ok (.tup ds) m else .bad
  | .lv l, e, m => (evL c l e m).bind fun ds m => .ok (.lst ds) m
  | .lm l, e, m => (evL c l e m).bind fun ds m => .ok (.ref m.length) (m ++ [.lst ds])
  | .frz a, e, m => (evE c a e m).bind fun x m => match x with
    | .ref r => (match m[r]? with
      | some (.lst xs) => if c.base ≤ r then .ok (.lst xs) (m.set r .gone) else .bad
      | _ => .bad)
    | x => .ok x m
  | .idx a b, e, m => (evE c a e m).bind fun x m => (evE c b e m).bind fun y m => .of (evIdx m x y) m
  | .slc a lo hi, e, m => (evE c a e m).bind fun x m => (evO c lo e m).bind fun l m => (evO c hi e m).bind fun h m => .of (evSlc m x l h) m
  | .call f es, e, m => (evEs c es e m).bind fun ds m => c.call f ds m
  | .callL i es, e, m => match getV e i with
    | some (.fn f) => if f < c.nf then (evEs c es e m).bind fun ds m => c.call f ds m else .bad
    | _ => .bad
  | .callK f es ks pm, e, m => (evEs c es e m).bind fun ds m => (evEs c ks e m).bind fun zs m => match pickL (ds ++ zs) pm with
    | some vs => c.call f vs m
    | none => .bad
  | .blt b es, e, m => (evEs c es e m).bind fun ds m => .of (evBlt m b ds) m
  | .isI a ts, e, m => (evE c a e m).bind fun x m => .of ((evIsI m x ts).map .bl) m
  | .excIs _, _, m => .ok (.bl true) m
def evAnds (c : Cfg) : CEs → Env' → M → Res D
  | .nil, _, _ => .bad
  | .cons a es, e, m => match es with
    | .nil => evE c a e m
    | .cons _ _ => (evE c a e m).bind fun x m => match x with
      | .bl true => evAnds c es e m
      | .bl false => .ok (.bl false) m
      | _ => .bad
def evOrs (c : Cfg) : CEs → Env' → M → Res D
  | .nil, _, _ => .bad
  | .cons a es, e, m => match es with
    | .nil => evE c a e m
    | .cons _ _ => (evE c a e m).bind fun x m => match x with
      | .bl true => .ok (.bl true) m
      | .bl false => evOrs c es e m
      | _ => .bad
def evEs (c : Cfg) : CEs → Env' → M → Res (List D)
  | .nil, _, m => .ok [] m
  | .cons a es, e, m => (evE c a e m).bind fun d m => (evEs c es e m).bind fun ds m => .ok (d :: ds) m
def evO (c : Cfg) : CO → Env' → M → Res (Option Int)
  | .none, _, m => .ok none m
  | .some a, e, m => (evE c a e m).bind fun d m => match d with
    | .int i => .ok (some i) m
    | _ => .bad
def evL (c : Cfg) : CL → Env' → M → Res (List D)
  | .disp es, e, m => (evEs c es e m).bind fun ds m => if lineOk ds.length then .ok ds m else .bad
  | .comp elt tg it cond own, e, m => (evI c it e m).bind fun s m => match s with
    | .seq xs => if lineOk xs.length then compL (fun x m => match assignTg tg x (wipeE e own) with
      | some e' => (evTo c cond e' m).bind fun k m => if k then (evE c elt e' m).bind fun d m => .ok (some d) m else .ok none m
      | none => .bad) xs m else .bad
    | .rf _ _ => .bad
  | .cat a b, e, m => (evE c a e m).bind fun x m => (evE c b e m).bind fun y m => .of (evCatL m x y) m
  | .rep a b, e, m => (evE c a e m).bind fun x m => (evE c b e m).bind fun y m => .of (evRepL m x y) m
  | .lst a, e, m => (evE c a e m).bind fun x m => .of (itemsOf m x) m
  | .slc a lo hi, e, m => (evE c a e m).bind fun x m => (evO c lo e m).bind fun l m => (evO c hi e m).bind fun h m => .of ((lstOfS m x).map fun xs => cutD xs l h) m
def evI (c : Cfg) : CI → Env' → M → Res Src
  | .seq a, e, m => (evE c a e m).bind fun x m => match x with
    | .tup xs => .ok (.seq xs) m
    | .lst xs => .ok (.seq xs) m
    | .ref r => (match m[r]? with
      | some (.lst xs) => .ok (.rf r xs.length) m
      | _ => .bad)
    | _ => .bad
  | .rng1 a, e, m => (evE c a e m).bind fun x m => match x with
    | .int j => if decide (-(2 ^ 62) ≤ j) && decide (j < 2 ^ 62) then .ok (.seq ((List.range j.toNat).map fun (i : Nat) => .int i)) m else .bad
    | _ => .bad
  | .rng2 a b, e, m => (evE c a e m).bind fun x m => (evE c b e m).bind fun y m => match x, y with
    | .int i, .int j => if decide (-(2 ^ 62) ≤ i) && decide (i < 2 ^ 62) && decide (-(2 ^ 62) ≤ j) && decide (j < 2 ^ 62) then .ok (.seq ((List.range (j - i).toNat).map fun (k : Nat) => .int (i + k))) m else .bad
    | _, _ => .bad
  | .enum a, e, m => (evE c a e m).bind fun x m => match x with
    | .lst xs => .ok (.seq ((xs.zipIdx).map fun p => .tup [.int p.2, p.1])) m
    | _ => .bad
  | .zip a b, e, m => (evE c a e m).bind fun x m => (evE c b e m).bind fun y m => match x, y with
    | .lst xs, .lst ys => .ok (.seq (List.zipWith (fun p q => .tup [p, q]) xs ys)) m
    | .tup xs, .tup ys => .ok (.seq (List.zipWith (fun p q => .tup [p, q]) xs ys)) m
    | _, _ => .bad
def evT (c : Cfg) : CT → Env' → M → Res Bool
  | .val a, e, m => (evE c a e m).bind fun x m => match x with
    | .bl b => .ok b m
    | _ => .bad
  | .tru a, e, m => (evE c a e m).bind fun x m => .of (evTru m x) m
  | .cmp o a b, e, m => (evE c a e m).bind fun x m => (evE c b e m).bind fun y m => .of (evCmp o x y) m
  | .chain o o' a b d, e, m => (evE c a e m).bind fun x m => (evE c b e m).bind fun y m => match evCmp o x y with
    | some true => (evE c d e m).bind fun z m => .of (evCmp o' y z) m
    | some false => .ok false m
    | none => .bad
  | .and ts, e, m => evTAnd c ts e m
  | .or ts, e, m => evTOr c ts e m
  | .not a, e, m => (evT c a e m).bind fun k m => .ok (!k) m
def evTAnd (c : Cfg) : CTs → Env' → M → Res Bool
  | .nil, _, _ => .bad
  | .cons t ts, e, m => match ts with
    | .nil => evT c t e m
    | .cons _ _ => (evT c t e m).bind fun k m => if k then evTAnd c ts e m else .ok false m
def evTOr (c : Cfg) : CTs → Env' → M → Res Bool
  | .nil, _, _ => .bad
  | .cons t ts, e, m => match ts with
    | .nil => evT c t e m
    | .cons _ _ => (evT c t e m).bind fun k m => if k then .ok true m else evTOr c ts e m
def evTo (c : Cfg) : CTo → Env' → M → Res Bool
  | .none, _, m => .ok true m
  | .some t, e, m => evT c t e m
end
/-- an object changed: what is stored names nothing that changes, if the object is a caller's -/
def store (c : Cfg) (m : M) (r : Nat) (xs : List D) (d : D) (e : Env') : SRes := if decide (c.base ≤ r) || nrD d then .nx e (m.set r (.lst xs)) else .bad
def storeI (c : Cfg) (m : M) (o i d : D) (e : Env') : SRes := match o, i with
  | .ref r, .int k => (match m[r]? with
    | some (.lst xs) => (match ixD xs.length k with
      | some j => store c m r (xs.set j d) d e
      | none => .bad)
    | _ => .bad)
  | _, _ => .bad
def dropN (e : Env') : Option Nat → Env'
  | some i => e.set i none
  | none => e
def evH (c : Cfg) : CHs → Nat → Env' → M → SRes
  | .nil, x, e, m => .err x e m
  | .cons y i a hs, x, e, m => if x = y then (match a with
    | .asg j a => (match evE c a (dropN e i) m with
      | .ok d m => .nx ((dropN e i).set j (some d)) m
      | _ => .bad)
    | .ret a => (match evE c a (dropN e i) m with
      | .ok d m => .ret d m
      | _ => .bad)) else evH c hs x e m
mutual
def evS (c : Cfg) : CS → Env' → M → SRes
  | .expr a, e, m => (evE c a e m).toS e fun _ m => .nx e m
  | .ret a, e, m => (evE c a e m).toS e fun d m => .ret d m
  | .retN, _, m => .ret .non m
  | .asg t a, e, m => (evE c a e m).toS e fun d m => match assignTg t d e with
    | some e' => .nx e' m
    | none => .bad
  | .par2 i j a b, e, m => (evE c a e m).toS e fun x m => (evE c b e m).toS e fun y m => .nx ((e.set i (some x)).set j (some y)) m
  | .setI o i a, e, m => (evE c a e m).toS e fun d m => (evE c o e m).toS e fun o m => (evE c i e m).toS e fun i m => storeI c m o i d e
  | .swap o1 i1 o2 i2 a b, e, m => (evE c a e m).toS e fun x m => (evE c b e m).toS e fun y m =>
    (evE c o1 e m).toS e fun p m => (evE c i1 e m).toS e fun i m => match storeI c m p i x e with
      | .nx e m => (evE c o2 e m).toS e fun q m => (evE c i2 e m).toS e fun j m => storeI c m q j y e
      | r => r
  | .app o a, e, m => (evE c o e m).toS e fun o m => match o with
    | .ref r => (match m[r]? with
      | some (.lst _) => (evE c a e m).toS e fun d m => (match m[r]? with
        | some (.lst xs) => if lineOk xs.length then store c m r (xs ++ [d]) d e else .bad
        | _ => .bad)
      | _ => .bad)
    | _ => .bad
  | .ext o a, e, m => (evE c o e m).toS e fun o m => match o with
    | .ref r => (match m[r]? with
      | some (.lst _) => (evE c a e m).toS e fun d m => (match m[r]?, lstOf m d with
        | some (.lst xs), some ys => if lineOk (xs.length + ys.length) then store c m r (xs ++ ys) (.lst ys) e else .bad
        | _, _ => .bad)
      | _ => .bad)
    | _ => .bad
  | .ife t a b, e, m => match evT c t e m with
    | .ok k m => if k then evSs c a e m else evSs c b e m
    | .err x m => .err x e m
    | .bad => .bad
  | .for_ tg it body, e, m => match evI c it e m with
    | .ok (.seq xs) m => forL (fun x e m => match assignTg tg x e with
      | some e' => evSs c body e' m
      | none => .bad) xs e m
    | .ok (.rf r n) m => forR (fun x e m => match assignTg tg x e with
      | some e' => evSs c body e' m
      | none => .bad) r n 0 e m
    | .err x m => .err x e m
    | .bad => .bad
  | .while_ t body, e, m => whileN (evT c t) (evSs c body) whileMost e m
  | .brk, e, m => .brk e m
  | .cnt, e, m => .cnt e m
  | .pass, e, m => .nx e m
  | .raise x, e, m => .err x e m
  | .try_ body hs, e, m => match evSs c body e m with
    | .err x e m => if x < c.nc then evH c hs x e m else .bad
    | r => r
def evSs (c : Cfg) : CSs → Env' → M → SRes
  | .nil, e, m => .nx e m
  | .cons s ss, e, m => match evS c s e m with
    | .nx e m => evSs c ss e m
    | r => r
end
/-- a def: parameters, slots, body, whether it hands back an object that is changed further -/
structure CDef where
  np : Nat
  ns : Nat
  body : CSs
  rm : Bool := false
def callF (defs : List CDef) (glob : Nat → Option D) (nc : Nat) : Nat → Nat → List D → M → Res D
  | 0, _, _, _ => .bad
  | k + 1, f, ds, m => match defs[f]? with
    | some d => if ds.length = d.np then (match evSs ⟨callF defs glob nc k, glob, m.length, defs.length, nc⟩ d.body (ds.map some ++ List.replicate (d.ns - d.np) none) m with
      | .ret v m' => finish d.rm m.length v m'
      | .nx _ m' => finish d.rm m.length .non m'
      | .err x _ m' => .err x (m'.take m.length)
      | _ => .bad) else .bad
    | none => .bad
end Dx
/-! Dx, part 3: an older frame's objects never come to name a younger one's. -/
namespace Dx
open PySem
mutual
def ltD (b : Nat) : D → Bool
  | .ref i => decide (i < b)
  | .tup xs | .lst xs | .scr xs => ltDs b xs
  | _ => true
def ltDs (b : Nat) : List D → Bool
  | [] => true
  | d :: ds => ltD b d && ltDs b ds
end
mutual
theorem nr_lt (b : Nat) : ∀ d : D, nrD d = true → ltD b d = true
  | .non, _ => rfl
  | .bl _, _ => rfl
  | .int _, _ => rfl
  | .str _, _ => rfl
  | .fn _, _ => rfl
  | .ref i, h => by simp [nrD] at h
  | .tup xs, h => nrs_lt b xs (by simpa [nrD] using h)
  | .lst xs, h => nrs_lt b xs (by simpa [nrD] using h)
  | .scr xs, h => nrs_lt b xs (by simpa [nrD] using h)
theorem nrs_lt (b : Nat) : ∀ ds : List D, nrDs ds = true → ltDs b ds = true
  | [], _ => rfl
  | d :: ds, h => by
    have h' : (nrD d && nrDs ds) = true := by simpa [nrDs] using h
    rw [Bool.and_eq_true] at h'
    show (ltD b d && ltDs b ds) = true
    rw [nr_lt b d h'.1, nrs_lt b ds h'.2]; rfl
end
theorem ltDs_iff {b : Nat} : ∀ {ds : List D}, ltDs b ds = true ↔ ∀ d ∈ ds, ltD b d = true
  | [] => by simp [ltDs]
  | d :: ds => by
    show (ltD b d && ltDs b ds) = true ↔ _
    rw [Bool.and_eq_true, ltDs_iff]
    simp
theorem nrDs_iff : ∀ {ds : List D}, nrDs ds = true ↔ ∀ d ∈ ds, nrD d = true
  | [] => by simp [nrDs]
  | d :: ds => by
    show (nrD d && nrDs ds) = true ↔ _
    rw [Bool.and_eq_true, nrDs_iff]
    simp
def Low (b : Nat) (m : M) : Prop := ∀ j, j < b → ∀ xs, m[j]? = some (.lst xs) → ltDs b xs = true
/-- from m to m': nothing is lost, and older frames stay closed -/
def LowR (base : Nat) (m m' : M) : Prop := m.length ≤ m'.length ∧ ∀ b, b ≤ base → Low b m → Low b m'
theorem LowR.refl {base : Nat} (m : M) : LowR base m m := ⟨Nat.le_refl _, fun _ _ h => h⟩
theorem LowR.trans {base : Nat} {a b c : M} (h : LowR base a b) (h' : LowR base b c) : LowR base a c := ⟨Nat.le_trans h.1 h'.1, fun n l z => h'.2 n l (h.2 n l z)⟩
theorem LowR.mono {b b' : Nat} {m m' : M} (h : LowR b m m') (l : b' ≤ b) : LowR b' m m' := ⟨h.1, fun n k => h.2 n (Nat.le_trans k l)⟩
theorem LowR.push {base : Nat} {m : M} (o : O) (h : base ≤ m.length) : LowR base m (m ++ [o]) := by
  refine ⟨by simp, fun b hb l j hj xs e => l j hj xs ?_⟩
  rw [List.getElem?_append_left (by omega)] at e
  exact e
theorem LowR.set {base r : Nat} {m : M} {xs ys : List D} (h : m[r]? = some (.lst xs)) (hk : base ≤ r ∨ ∀ b, ltDs b xs = true → ltDs b ys = true) : LowR base m (m.set r (.lst ys)) := by
  refine ⟨by simp, fun b hb l j hj zs e => ?_⟩
  by_cases q : r = j
  · subst q
    have hr : r < m.length := (List.getElem?_eq_some_iff.mp h).1
    rw [List.getElem?_set_self hr] at e
    cases e
    rcases hk with hk | hk
    · omega
    · exact hk b (l r hj xs h)
  · rw [List.getElem?_set_ne q] at e
    exact l j hj zs e
theorem LowR.gone {base r : Nat} {m : M} : LowR base m (m.set r .gone) := by
  refine ⟨by simp, fun b hb l j hj zs e => ?_⟩
  by_cases q : r = j
  · subst q
    by_cases hr : r < m.length
    · rw [List.getElem?_set_self hr] at e; cases e
    · rw [List.getElem?_eq_none (by simp; omega)] at e; cases e
  · rw [List.getElem?_set_ne q] at e
    exact l j hj zs e
def LowRes {α : Type} (base : Nat) (m : M) (r : Res α) : Prop := match r with
  | .ok _ m' => LowR base m m'
  | .err _ m' => LowR base m m'
  | .bad => True
def LowS (base : Nat) (m : M) (r : SRes) : Prop := match r with
  | .nx _ m' | .ret _ m' | .brk _ m' | .cnt _ m' | .err _ _ m' => LowR base m m'
  | .bad => True
section
variable {α β : Type} {base : Nat} {m : M}
theorem LowRes.pre {m0 : M} {r : Res α} (h : LowR base m0 m) (q : LowRes base m r) : LowRes base m0 r := by
  cases r with
  | ok a m' => exact h.trans q
  | err c m' => exact h.trans q
  | bad => trivial
theorem LowS.pre {m0 : M} {r : SRes} (h : LowR base m0 m) (q : LowS base m r) : LowS base m0 r := by
  cases r <;> first | exact h.trans q | trivial
theorem LowRes.bind {r : Res α} {f : α → M → Res β} (h : LowRes base m r) (hf : ∀ a m', LowR base m m' → LowRes base m' (f a m')) : LowRes base m (r.bind f) := by
  cases r with
  | ok a m' => exact (hf a m' h).pre h
  | err c m' => exact h
  | bad => trivial
theorem LowRes.ok (a : α) : LowRes base m (.ok a m) := LowR.refl m
theorem LowRes.of (o : Option α) : LowRes base m (.of o m) := by
  cases o with
  | none => trivial
  | some a => exact LowR.refl m
theorem LowRes.noErr {r : Res α} (h : LowRes base m r) : LowRes base m r.noErr := by
  cases r with
  | ok a m' => exact h
  | err c m' => trivial
  | bad => trivial
theorem LowRes.toS {r : Res D} {e : Env'} {f : D → M → SRes} (h : LowRes base m r) (hf : ∀ a m', LowR base m m' → LowS base m' (f a m')) : LowS base m (r.toS e f) := by
  cases r with
  | ok a m' => exact (hf a m' h).pre h
  | err c m' => exact h
  | bad => trivial
end
theorem low_forL {base : Nat} {step : D → Env' → M → SRes} (hs : ∀ x e m, base ≤ m.length → LowS base m (step x e m)) : ∀ (xs : List D) (e : Env') (m : M), base ≤ m.length → LowS base m (forL step xs e m)
  | [], _, m, _ => LowR.refl m
  | x :: xs, e, m, hb => by
    have h := hs x e m hb
    unfold forL
    cases q : step x e m with
    | nx e' m' => rw [q] at h; exact (low_forL hs xs e' m' (Nat.le_trans hb h.1)).pre h
    | cnt e' m' => rw [q] at h; exact (low_forL hs xs e' m' (Nat.le_trans hb h.1)).pre h
    | brk e' m' => rw [q] at h; exact h
    | ret d m' => rw [q] at h; exact h
    | err c e' m' => rw [q] at h; exact h
    | bad => trivial
theorem low_forR {base : Nat} {step : D → Env' → M → SRes} {r : Nat} (hs : ∀ x e m, base ≤ m.length → LowS base m (step x e m)) : ∀ (n k : Nat) (e : Env') (m : M), base ≤ m.length → LowS base m (forR step r n k e m)
  | 0, k, e, m, _ => by
    unfold forR
    split
    · split
      · exact LowR.refl m
      · trivial
    · trivial
  | n + 1, k, e, m, hb => by
    unfold forR
    split
    · split
      · exact LowR.refl m
      · rename_i x _
        have h := hs x e m hb
        cases q : step x e m with
        | nx e' m' => rw [q] at h; exact (low_forR hs n (k + 1) e' m' (Nat.le_trans hb h.1)).pre h
        | cnt e' m' => rw [q] at h; exact (low_forR hs n (k + 1) e' m' (Nat.le_trans hb h.1)).pre h
        | brk e' m' => rw [q] at h; exact h
        | ret d m' => rw [q] at h; exact h
        | err c e' m' => rw [q] at h; exact h
        | bad => trivial
    · trivial
theorem low_compL {base : Nat} {f : D → M → Res (Option D)} (hs : ∀ x m, base ≤ m.length → LowRes base m (f x m)) : ∀ (xs : List D) (m : M), base ≤ m.length → LowRes base m (compL f xs m)
  | [], m, _ => LowR.refl m
  | x :: xs, m, hb => by
    unfold compL
    exact (hs x m hb).noErr.bind fun o m' h => (low_compL hs xs m' (Nat.le_trans hb h.1)).bind fun r m'' _ => LowRes.ok _
theorem low_whileN {base : Nat} {t : Env' → M → Res Bool} {b : Env' → M → SRes} (ht : ∀ e m, base ≤ m.length → LowRes base m (t e m)) (hs : ∀ e m, base ≤ m.length → LowS base m (b e m)) :
    ∀ (n : Nat) (e : Env') (m : M), base ≤ m.length → LowS base m (whileN t b n e m)
  | 0, _, _, _ => trivial
  | n + 1, e, m, hb => by
    have h := ht e m hb
    unfold whileN
    cases q : t e m with
    | ok k m' =>
      rw [q] at h
      cases k with
      | false => exact h
      | true =>
        have hb' := Nat.le_trans hb h.1
        have h2 := hs e m' hb'
        simp only
        cases q2 : b e m' with
        | nx e' m'' => rw [q2] at h2; exact ((low_whileN ht hs n e' m'' (Nat.le_trans hb' h2.1)).pre h2).pre h
        | cnt e' m'' => rw [q2] at h2; exact ((low_whileN ht hs n e' m'' (Nat.le_trans hb' h2.1)).pre h2).pre h
        | brk e' m'' => rw [q2] at h2; exact h.trans h2
        | ret d m'' => rw [q2] at h2; exact h.trans h2
        | err c e' m'' => rw [q2] at h2; exact h.trans h2
        | bad => trivial
    | err c m' => rw [q] at h; exact h
    | bad => trivial
structure Cfg.Low (c : Cfg) : Prop where
  call : ∀ f ds m, LowRes m.length m (c.call f ds m)
section
variable {c : Cfg} (L : c.Low)
include L
theorem Cfg.Low.at_ {m : M} (hb : c.base ≤ m.length) (f : Nat) (ds : List D) : LowRes c.base m (c.call f ds m) := by
  have h := L.call f ds m
  cases q : c.call f ds m with
  | ok d m' => rw [q] at h; exact LowR.mono h hb
  | err x m' => rw [q] at h; exact LowR.mono h hb
  | bad => trivial
mutual
theorem low_E : ∀ (a : CE) (e : Env') (m : M), c.base ≤ m.length → LowRes c.base m (evE c a e m)
  | .var i, e, m, _ => LowRes.of _
  | .int i, _, m, _ => LowRes.ok _
  | .bl b, _, m, _ => LowRes.ok _
  | .non, _, m, _ => LowRes.ok _
  | .str x, _, m, _ => LowRes.ok _
  | .glob i, _, m, _ => LowRes.of _
  | .fn i, _, m, _ => LowRes.ok _
  | .bin o a b, e, m, hb => by
    unfold evE
    exact (low_E a e m hb).bind fun x m1 h1 => (low_E b e m1 (Nat.le_trans hb h1.1)).bind fun y m2 h2 => LowRes.of _
  | .neg a, e, m, hb => by
    unfold evE
    refine (low_E a e m hb).bind fun x m1 h1 => ?_
    split <;> first | exact LowRes.ok _ | trivial
  | .cmp o a b, e, m, hb => by
    unfold evE
    exact (low_E a e m hb).bind fun x m1 h1 => (low_E b e m1 (Nat.le_trans hb h1.1)).bind fun y m2 h2 => LowRes.of _
  | .chain o o' a b d, e, m, hb => by
    unfold evE
    refine (low_E a e m hb).bind fun x m1 h1 => (low_E b e m1 (Nat.le_trans hb h1.1)).bind fun y m2 h2 => ?_
    split
    · exact (low_E d e m2 (Nat.le_trans (Nat.le_trans hb h1.1) h2.1)).bind fun z m3 h3 => LowRes.of _
    · exact LowRes.ok _
    · trivial
  | .andV es, e, m, hb => low_Ands es e m hb
  | .orV es, e, m, hb => low_Ors es e m hb
  | .notV a, e, m, hb => by
    unfold evE
    refine (low_E a e m hb).bind fun x m1 h1 => ?_
    split <;> first | exact LowRes.ok _ | trivial
  | .orT a b, e, m, hb => by
    unfold evE
    refine (low_E a e m hb).bind fun x m1 h1 => ?_
    split
    · exact LowRes.ok _
    · exact low_E b e m1 (Nat.le_trans hb h1.1)
    · trivial
  | .ife t a b, e, m, hb => by
    unfold evE
    refine (low_T t e m hb).bind fun k m1 h1 => ?_
    cases k
    · exact low_E b e m1 (Nat.le_trans hb h1.1)
    · exact low_E a e m1 (Nat.le_trans hb h1.1)
  | .tup es, e, m, hb => by
    unfold evE
    refine (low_Es es e m hb).bind fun ds m1 h1 => ?_
    split <;> first | exact LowRes.ok _ | trivial
  | .lv l, e, m, hb => by
    unfold evE
    exact (low_L l e m hb).bind fun ds m1 h1 => LowRes.ok _
  | .lm l, e, m, hb => by
    unfold evE
    exact (low_L l e m hb).bind fun ds m1 h1 => LowR.push _ (Nat.le_trans hb h1.1)
  | .frz a, e, m, hb => by
    unfold evE
    refine (low_E a e m hb).bind fun x m1 h1 => ?_
    split
    · split
      · split
        · exact LowR.gone
        · trivial
      · trivial
    · exact LowRes.ok _
  | .idx a b, e, m, hb => by
    unfold evE
    exact (low_E a e m hb).bind fun x m1 h1 => (low_E b e m1 (Nat.le_trans hb h1.1)).bind fun y m2 h2 => LowRes.of _
  | .slc a lo hi, e, m, hb => by
    unfold evE
    exact (low_E a e m hb).bind fun x m1 h1 => (low_O lo e m1 (Nat.le_trans hb h1.1)).bind fun y m2 h2 => (low_O hi e m2 (Nat.le_trans (Nat.le_trans hb h1.1) h2.1)).bind fun z m3 h3 => LowRes.of _
  | .call f es, e, m, hb => by
    unfold evE
    exact (low_Es es e m hb).bind fun ds m1 h1 => L.at_ (Nat.le_trans hb h1.1) f ds
  | .callL i es, e, m, hb => by
    unfold evE
    split
    · split
      · exact (low_Es es e m hb).bind fun ds m1 h1 => L.at_ (Nat.le_trans hb h1.1) _ ds
      · trivial
    · trivial
  | .callK f es ks pm, e, m, hb => by
    unfold evE
    refine (low_Es es e m hb).bind fun ds m1 h1 => (low_Es ks e m1 (Nat.le_trans hb h1.1)).bind fun zs m2 h2 => ?_
    split
    · exact L.at_ (Nat.le_trans (Nat.le_trans hb h1.1) h2.1) f _
    · trivial
  | .blt b es, e, m, hb => by
    unfold evE
    exact (low_Es es e m hb).bind fun ds m1 h1 => LowRes.of _
  | .isI a ts, e, m, hb => by
    unfold evE
    exact (low_E a e m hb).bind fun ds m1 h1 => LowRes.of _
  | .excIs _, _, m, _ => LowRes.ok _
theorem low_Ands : ∀ (a : CEs) (e : Env') (m : M), c.base ≤ m.length → LowRes c.base m (evAnds c a e m)
  | .nil, _, m, _ => trivial
  | .cons a .nil, e, m, hb => by
    unfold evAnds
    exact low_E a e m hb
  | .cons a (.cons b es), e, m, hb => by
    unfold evAnds
    refine (low_E a e m hb).bind fun x m1 h1 => ?_
    split
    · exact low_Ands (.cons b es) e m1 (Nat.le_trans hb h1.1)
    · exact LowRes.ok _
    · trivial
theorem low_Ors : ∀ (a : CEs) (e : Env') (m : M), c.base ≤ m.length → LowRes c.base m (evOrs c a e m)
  | .nil, _, m, _ => trivial
  | .cons a .nil, e, m, hb => by
    unfold evOrs
    exact low_E a e m hb
  | .cons a (.cons b es), e, m, hb => by
    unfold evOrs
    refine (low_E a e m hb).bind fun x m1 h1 => ?_
    split
    · exact LowRes.ok _
    · exact low_Ors (.cons b es) e m1 (Nat.le_trans hb h1.1)
    · trivial
theorem low_Es : ∀ (a : CEs) (e : Env') (m : M), c.base ≤ m.length → LowRes c.base m (evEs c a e m)
  | .nil, _, m, _ => LowRes.ok _
  | .cons a es, e, m, hb => by
    unfold evEs
    exact (low_E a e m hb).bind fun d m1 h1 => (low_Es es e m1 (Nat.le_trans hb h1.1)).bind fun ds m2 h2 => LowRes.ok _
theorem low_O : ∀ (a : CO) (e : Env') (m : M), c.base ≤ m.length → LowRes c.base m (evO c a e m)
  | .none, _, m, _ => LowRes.ok _
  | .some a, e, m, hb => by
    unfold evO
    refine (low_E a e m hb).bind fun d m1 h1 => ?_
    split <;> first | exact LowRes.ok _ | trivial
theorem low_L : ∀ (a : CL) (e : Env') (m : M), c.base ≤ m.length → LowRes c.base m (evL c a e m)
  | .disp es, e, m, hb => by
    unfold evL
    refine (low_Es es e m hb).bind fun ds m1 h1 => ?_
    split <;> first | exact LowRes.ok _ | trivial
  | .comp elt tg it cond own, e, m, hb => by
    unfold evL
    refine (low_I it e m hb).bind fun s m1 h1 => ?_
    split
    · split
      · refine low_compL (fun x m2 hb2 => ?_) _ m1 (Nat.le_trans hb h1.1)
        split
        · rename_i e' _
          refine (low_To cond e' m2 hb2).bind fun k m3 h3 => ?_
          cases k
          · exact LowRes.ok _
          · exact (low_E elt e' m3 (Nat.le_trans hb2 h3.1)).bind fun d m4 h4 => LowRes.ok _
        · trivial
      · trivial
    · trivial
  | .cat a b, e, m, hb => by
    unfold evL
    exact (low_E a e m hb).bind fun x m1 h1 => (low_E b e m1 (Nat.le_trans hb h1.1)).bind fun y m2 h2 => LowRes.of _
  | .rep a b, e, m, hb => by
    unfold evL
    exact (low_E a e m hb).bind fun x m1 h1 => (low_E b e m1 (Nat.le_trans hb h1.1)).bind fun y m2 h2 => LowRes.of _
  | .lst a, e, m, hb => by
    unfold evL
    exact (low_E a e m hb).bind fun x m1 h1 => LowRes.of _
  | .slc a lo hi, e, m, hb => by
    unfold evL
    exact (low_E a e m hb).bind fun x m1 h1 => (low_O lo e m1 (Nat.le_trans hb h1.1)).bind fun y m2 h2 => (low_O hi e m2 (Nat.le_trans (Nat.le_trans hb h1.1) h2.1)).bind fun z m3 h3 => LowRes.of _
theorem low_I : ∀ (a : CI) (e : Env') (m : M), c.base ≤ m.length → LowRes c.base m (evI c a e m)
  | .seq a, e, m, hb => by
    unfold evI
    refine (low_E a e m hb).bind fun x m1 h1 => ?_
    split
    · exact LowRes.ok _
    · exact LowRes.ok _
    · split <;> first | exact LowRes.ok _ | trivial
    · trivial
  | .rng1 a, e, m, hb => by
    unfold evI
    refine (low_E a e m hb).bind fun x m1 h1 => ?_
    split
    · split <;> first | exact LowRes.ok _ | trivial
    · trivial
  | .rng2 a b, e, m, hb => by
    unfold evI
    refine (low_E a e m hb).bind fun x m1 h1 => (low_E b e m1 (Nat.le_trans hb h1.1)).bind fun y m2 h2 => ?_
    split
    · split <;> first | exact LowRes.ok _ | trivial
    · trivial
  | .enum a, e, m, hb => by
    unfold evI
    refine (low_E a e m hb).bind fun x m1 h1 => ?_
    split <;> first | exact LowRes.ok _ | trivial
  | .zip a b, e, m, hb => by
    unfold evI
    refine (low_E a e m hb).bind fun x m1 h1 => (low_E b e m1 (Nat.le_trans hb h1.1)).bind fun y m2 h2 => ?_
    split <;> first | exact LowRes.ok _ | trivial
theorem low_T : ∀ (a : CT) (e : Env') (m : M), c.base ≤ m.length → LowRes c.base m (evT c a e m)
  | .val a, e, m, hb => by
    unfold evT
    refine (low_E a e m hb).bind fun x m1 h1 => ?_
    split <;> first | exact LowRes.ok _ | trivial
  | .tru a, e, m, hb => by
    unfold evT
    exact (low_E a e m hb).bind fun x m1 h1 => LowRes.of _
  | .cmp o a b, e, m, hb => by
    unfold evT
    exact (low_E a e m hb).bind fun x m1 h1 => (low_E b e m1 (Nat.le_trans hb h1.1)).bind fun y m2 h2 => LowRes.of _
  | .chain o o' a b d, e, m, hb => by
    unfold evT
    refine (low_E a e m hb).bind fun x m1 h1 => (low_E b e m1 (Nat.le_trans hb h1.1)).bind fun y m2 h2 => ?_
    split
    · exact (low_E d e m2 (Nat.le_trans (Nat.le_trans hb h1.1) h2.1)).bind fun z m3 h3 => LowRes.of _
    · exact LowRes.ok _
    · trivial
  | .and ts, e, m, hb => low_TAnd ts e m hb
  | .or ts, e, m, hb => low_TOr ts e m hb
  | .not a, e, m, hb => by
    unfold evT
    exact (low_T a e m hb).bind fun k m1 h1 => LowRes.ok _
theorem low_TAnd : ∀ (a : CTs) (e : Env') (m : M), c.base ≤ m.length → LowRes c.base m (evTAnd c a e m)
  | .nil, _, m, _ => trivial
  | .cons a .nil, e, m, hb => by
    unfold evTAnd
    exact low_T a e m hb
  | .cons a (.cons b es), e, m, hb => by
    unfold evTAnd
    refine (low_T a e m hb).bind fun k m1 h1 => ?_
    cases k
    · exact LowRes.ok _
    · exact low_TAnd (.cons b es) e m1 (Nat.le_trans hb h1.1)
theorem low_TOr : ∀ (a : CTs) (e : Env') (m : M), c.base ≤ m.length → LowRes c.base m (evTOr c a e m)
  | .nil, _, m, _ => trivial
  | .cons a .nil, e, m, hb => by
    unfold evTOr
    exact low_T a e m hb
  | .cons a (.cons b es), e, m, hb => by
    unfold evTOr
    refine (low_T a e m hb).bind fun k m1 h1 => ?_
    cases k
    · exact low_TOr (.cons b es) e m1 (Nat.le_trans hb h1.1)
    · exact LowRes.ok _
theorem low_To : ∀ (a : CTo) (e : Env') (m : M), c.base ≤ m.length → LowRes c.base m (evTo c a e m)
  | .none, _, m, _ => LowRes.ok _
  | .some t, e, m, hb => by
    unfold evTo
    exact low_T t e m hb
end
omit L in
theorem low_store {m : M} {r : Nat} {xs ys : List D} {d : D} {e : Env'} (h : m[r]? = some (.lst xs)) (hk : nrD d = true → ∀ b, ltDs b xs = true → ltDs b ys = true) : LowS c.base m (store c m r ys d e) := by
  unfold store
  split
  · rename_i q
    rw [Bool.or_eq_true] at q
    refine LowR.set h ?_
    rcases q with q | q
    · exact .inl (of_decide_eq_true q)
    · exact .inr (hk q)
  · trivial
omit L in
theorem ltDs_set {b : Nat} {xs : List D} {j : Nat} {d : D} (h : ltDs b xs = true) (hd : ltD b d = true) : ltDs b (xs.set j d) = true := by
  rw [ltDs_iff] at h ⊢
  intro x hx
  rcases List.mem_or_eq_of_mem_set hx with q | q
  · exact h x q
  · rw [q]; exact hd
omit L in
theorem low_storeI {m : M} {o i d : D} {e : Env'} : LowS c.base m (storeI c m o i d e) := by
  unfold storeI
  split
  · split
    · split
      · rename_i h _ _ _
        exact low_store h fun q b l => ltDs_set l (nr_lt b d q)
      · trivial
    · trivial
  · trivial
omit L in
theorem ltDs_append {b : Nat} {xs ys : List D} (h : ltDs b xs = true) (h' : ltDs b ys = true) : ltDs b (xs ++ ys) = true := by
  rw [ltDs_iff] at h h' ⊢
  intro x hx
  rcases List.mem_append.mp hx with q | q
  · exact h x q
  · exact h' x q
theorem low_H : ∀ (a : CHs) (x : Nat) (e : Env') (m : M), c.base ≤ m.length → LowS c.base m (evH c a x e m)
  | .nil, x, e, m, hb => LowR.refl _
  | .cons y i a hs, x, e, m, hb => by
    unfold evH
    split
    · split
      · rename_i a
        have h := low_E L a (dropN e i) m hb
        split
        · rename_i q; rw [q] at h; exact h
        · trivial
      · rename_i a
        have h := low_E L a (dropN e i) m hb
        split
        · rename_i q; rw [q] at h; exact h
        · trivial
    · exact low_H hs x e m hb
mutual
theorem low_S : ∀ (a : CS) (e : Env') (m : M), c.base ≤ m.length → LowS c.base m (evS c a e m)
  | .expr a, e, m, hb => by
    unfold evS
    exact (low_E L a e m hb).toS fun x m1 h1 => LowR.refl _
  | .ret a, e, m, hb => by
    unfold evS
    exact (low_E L a e m hb).toS fun x m1 h1 => LowR.refl _
  | .retN, e, m, hb => LowR.refl _
  | .asg t a, e, m, hb => by
    unfold evS
    refine (low_E L a e m hb).toS fun x m1 h1 => ?_
    split <;> first | exact LowR.refl _ | trivial
  | .par2 i j a b, e, m, hb => by
    unfold evS
    exact (low_E L a e m hb).toS fun x m1 h1 => (low_E L b e m1 (Nat.le_trans hb h1.1)).toS fun y m2 h2 => LowR.refl _
  | .setI o i a, e, m, hb => by
    unfold evS
    exact (low_E L a e m hb).toS fun x m1 h1 => (low_E L o e m1 (Nat.le_trans hb h1.1)).toS fun y m2 h2 => (low_E L i e m2 (Nat.le_trans (Nat.le_trans hb h1.1) h2.1)).toS fun z m3 h3 => low_storeI
  | .swap o1 i1 o2 i2 a b, e, m, hb => by
    unfold evS
    refine (low_E L a e m hb).toS fun x m1 h1 => (low_E L b e m1 (Nat.le_trans hb h1.1)).toS fun y m2 h2 => ?_
    have hb2 := Nat.le_trans (Nat.le_trans hb h1.1) h2.1
    refine (low_E L o1 e m2 hb2).toS fun p m3 h3 => (low_E L i1 e m3 (Nat.le_trans hb2 h3.1)).toS fun z m4 h4 => ?_
    have hb4 := Nat.le_trans (Nat.le_trans hb2 h3.1) h4.1
    have hs : LowS c.base m4 (storeI c m4 p z x e) := low_storeI
    cases q : storeI c m4 p z x e with
    | nx e' m5 =>
      rw [q] at hs
      have hb5 := Nat.le_trans hb4 hs.1
      exact ((low_E L o2 e' m5 hb5).toS fun p m6 h6 => (low_E L i2 e' m6 (Nat.le_trans hb5 h6.1)).toS fun z m7 h7 => low_storeI).pre hs
    | ret d m5 => rw [q] at hs; exact hs
    | brk e' m5 => rw [q] at hs; exact hs
    | cnt e' m5 => rw [q] at hs; exact hs
    | err x' e' m5 => rw [q] at hs; exact hs
    | bad => trivial
  | .app o a, e, m, hb => by
    unfold evS
    refine (low_E L o e m hb).toS fun x m1 h1 => ?_
    split
    · split
      · refine (low_E L a e m1 (Nat.le_trans hb h1.1)).toS fun d m2 h2 => ?_
        split
        · split
          · rename_i h _
            refine low_store h fun q b l => ltDs_append l ?_
            rw [ltDs_iff]
            intro z hz
            rw [List.mem_singleton.mp hz]
            exact nr_lt b d q
          · trivial
        · trivial
      · trivial
    · trivial
  | .ext o a, e, m, hb => by
    unfold evS
    refine (low_E L o e m hb).toS fun x m1 h1 => ?_
    split
    · split
      · refine (low_E L a e m1 (Nat.le_trans hb h1.1)).toS fun d m2 h2 => ?_
        split
        · split
          · rename_i h _ _
            refine low_store h fun q b l => ltDs_append l ?_
            exact nrs_lt b _ (by simpa [nrD] using q)
          · trivial
        · trivial
      · trivial
    · trivial
  | .ife t a b, e, m, hb => by
    unfold evS
    have h := low_T L t e m hb
    cases q : evT c t e m with
    | ok k m1 =>
      rw [q] at h
      cases k
      · exact (low_Ss b e m1 (Nat.le_trans hb h.1)).pre h
      · exact (low_Ss a e m1 (Nat.le_trans hb h.1)).pre h
    | err x m1 => rw [q] at h; exact h
    | bad => trivial
  | .for_ tg it body, e, m, hb => by
    unfold evS
    have h := low_I L it e m hb
    have st : ∀ (x : D) (e : Env') (m : M), c.base ≤ m.length → LowS c.base m (match assignTg tg x e with
      | some e' => evSs c body e' m
      | none => .bad) := fun x e m hb => by
      split
      · exact low_Ss body _ m hb
      · trivial
    cases q : evI c it e m with
    | ok s m1 =>
      rw [q] at h
      cases s with
      | seq xs => exact (low_forL st xs e m1 (Nat.le_trans hb h.1)).pre h
      | rf r n => exact (low_forR st n 0 e m1 (Nat.le_trans hb h.1)).pre h
    | err x m1 => rw [q] at h; exact h
    | bad => trivial
  | .while_ t body, e, m, hb => by
    unfold evS
    exact low_whileN (fun e m hb => low_T L t e m hb) (fun e m hb => low_Ss body e m hb) _ e m hb
  | .brk, e, m, hb => LowR.refl _
  | .cnt, e, m, hb => LowR.refl _
  | .pass, e, m, hb => LowR.refl _
  | .raise x, e, m, hb => LowR.refl _
  | .try_ body hs, e, m, hb => by
    unfold evS
    have h := low_Ss body e m hb
    cases q : evSs c body e m with
    | err x e' m1 =>
      rw [q] at h
      dsimp only
      split
      · exact (low_H L hs x e' m1 (Nat.le_trans hb h.1)).pre h
      · trivial
    | nx e' m1 => rw [q] at h; exact h
    | ret d m1 => rw [q] at h; exact h
    | brk e' m1 => rw [q] at h; exact h
    | cnt e' m1 => rw [q] at h; exact h
    | bad => trivial
theorem low_Ss : ∀ (a : CSs) (e : Env') (m : M), c.base ≤ m.length → LowS c.base m (evSs c a e m)
  | .nil, e, m, hb => LowR.refl _
  | .cons s ss, e, m, hb => by
    unfold evSs
    have h := low_S s e m hb
    cases q : evS c s e m with
    | nx e' m1 => rw [q] at h; exact (low_Ss ss e' m1 (Nat.le_trans hb h.1)).pre h
    | err x e' m1 => rw [q] at h; exact h
    | ret d m1 => rw [q] at h; exact h
    | brk e' m1 => rw [q] at h; exact h
    | cnt e' m1 => rw [q] at h; exact h
    | bad => trivial
end
end
theorem low_take {m m' : M} {n : Nat} (hn : n = m.length) (h : LowR n m m') : LowR n m (m'.take n) := by
  refine ⟨by simp [hn]; have := h.1; omega, fun b hb l j hj xs e => ?_⟩
  rw [List.getElem?_take_of_lt (by omega)] at e
  exact h.2 b hb l j hj xs e
theorem low_finish {rm : Bool} {m m' : M} {d : D} (h : LowR m.length m m') : LowRes m.length m (finish rm m.length d m') := by
  unfold finish
  split
  · split
    · split
      · split
        · split
          · exact (low_take rfl h).trans (LowR.push _ (by simp; have := h.1; omega))
          · trivial
        · trivial
      · trivial
    · trivial
  · split
    · exact h
    · split
      · exact low_take rfl h
      · trivial
theorem low_call (defs : List CDef) (glob : Nat → Option D) (nc : Nat) : ∀ (k f : Nat) (ds : List D) (m : M), LowRes m.length m (callF defs glob nc k f ds m)
  | 0, _, _, _ => trivial
  | k + 1, f, ds, m => by
    unfold callF
    split
    · rename_i d _
      split
      · have h := low_Ss (c := ⟨callF defs glob nc k, glob, m.length, defs.length, nc⟩) ⟨fun f ds m => low_call defs glob nc k f ds m⟩ d.body (ds.map some ++ List.replicate (d.ns - d.np) none) m (Nat.le_refl _)
        split
        · rename_i q; rw [q] at h; exact low_finish h
        · rename_i q; rw [q] at h; exact low_finish h
        · rename_i q; rw [q] at h; exact low_take rfl h
        · trivial
      · trivial
    · trivial
end Dx
/-! Dx, part 4: how data lies, through steps. -/
namespace Dx
open PySem PySem.Spec PyProof.Rows L2
abbrev Hot (Z : Addr → Prop) (H : Hp) : Prop := ∀ a, Z a → Mut (H a)
section
variable {K : PySem.W.Frag} {fa : Nat → Addr} {ρ ρ1 ρ2 : List Addr} {Z Z1 Z2 : Addr → Prop} {H H1 H2 : Hp}
theorem Step.refl : Step ρ Z H ρ Z H := ⟨⟨[], by simp⟩, fun _ h n => absurd h n, fun _ h n => absurd h n, fun _ _ h _ => h, fun _ h _ => h⟩
theorem Step.old (s : Step ρ Z H ρ1 Z1 H1) {a : Addr} (h : a ∈ ρ) : a ∈ ρ1 := by
  obtain ⟨t, e⟩ := s.pre
  rw [e]
  exact List.mem_append_left _ h
theorem Step.ix (s : Step ρ Z H ρ1 Z1 H1) {i : Nat} {a : Addr} (h : ρ[i]? = some a) : ρ1[i]? = some a := by
  obtain ⟨t, e⟩ := s.pre
  rw [e, List.getElem?_append_left (List.getElem?_eq_some_iff.mp h).1]
  exact h
theorem Step.trans (hot : Hot Z H) (s : Step ρ Z H ρ1 Z1 H1) (t : Step ρ1 Z1 H1 ρ2 Z2 H2) : Step ρ Z H ρ2 Z2 H2 where
  pre := by
    obtain ⟨a, ea⟩ := s.pre
    obtain ⟨b, eb⟩ := t.pre
    exact ⟨a ++ b, by rw [eb, ea, List.append_assoc]⟩
  newr := fun a h n => by
    by_cases q : a ∈ ρ1
    · exact s.newr a q n
    · have e := t.newr a h q
      cases z : H a with
      | none => rfl
      | some o => rw [s.keep a o z (.inl n)] at e; cases e
  newz := fun a h n => by
    by_cases q : Z1 a
    · exact s.newz a q n
    · have e := t.newz a h q
      cases z : H a with
      | none => rfl
      | some o => rw [s.keep a o z (.inr n)] at e; cases e
  keep := fun a o h n => by
    refine t.keep a o (s.keep a o h n) ?_
    rcases n with n | n
    · refine .inl fun q => ?_
      rw [s.newr a q n] at h; cases h
    · refine .inr fun q => ?_
      rw [s.newz a q n] at h; cases h
  hotk := fun a h n => by
    refine t.hotk a (s.hotk a h n) fun q => ?_
    have e := s.newr a q n
    have z := hot a h
    rw [e] at z
    exact z
/-- a new object that is not to change is laid -/
theorem Step.laid {p : Addr} {o : HO} (hp : H p = none) : Step ρ Z H ρ Z (upd H p o) :=
  ⟨⟨[], by simp⟩, fun _ h n => absurd h n, fun _ h n => absurd h n, fun a o h _ => by rw [upd_ne (ne_of_none h hp)]; exact h, fun _ h _ => h⟩
theorem Hot.laid (hot : Hot Z H) {p : Addr} {o : HO} (hp : H p = none) : Hot Z (upd H p o) := fun a h => by
  have q := hot a h
  rw [upd_ne (fun e => by rw [e, hp] at q; exact q)]
  exact q
theorem lst_mono (s : Step ρ Z H ρ1 Z1 H1) {p : Addr} {vs : List V} (h : H p = some (.lst vs)) (n : ¬ Z p) : H1 p = some (.lst vs) ∧ ¬ Z1 p :=
  ⟨s.keep p _ h (.inr n), fun q => by rw [s.newz p q n] at h; cases h⟩
theorem frz_mono (s : Step ρ Z H ρ1 Z1 H1) (hot : Hot Z H) {p : Addr} {o : Obj} {u : HO} (h : H p = some (.frz o u)) : H1 p = some (.frz o u) :=
  s.keep p _ h (.inr fun z => by have q := hot p z; rw [h] at q; exact q)
theorem SqF.mono (s : Step ρ Z H ρ1 Z1 H1) (hot : Hot Z H) {p : Addr} {vs : List V} (h : SqF K H p vs) : SqF K H1 p vs := by
  rcases h with ⟨o, h⟩ | h
  · exact .inl ⟨o, frz_mono s hot h⟩
  · exact .inr h
theorem SqT.mono (s : Step ρ Z H ρ1 Z1 H1) (hot : Hot Z H) {p : Addr} {vs : List V} (h : SqT K H p vs) : SqT K H1 p vs := by
  rcases h with (h | ⟨o, h⟩) | h
  · exact .inl (.inl (s.keep p _ h (.inr fun z => by have q := hot p z; rw [h] at q; exact q)))
  · exact .inl (.inr ⟨o, s.keep p _ h (.inr fun z => by have q := hot p z; rw [h] at q; exact q)⟩)
  · exact .inr h
mutual
theorem RelD.mono (s : Step ρ Z H ρ1 Z1 H1) (hot : Hot Z H) : ∀ (d : D) (v : V), RelD K fa ρ Z H d v → RelD K fa ρ1 Z1 H1 d v
  | .non, _, h => h
  | .bl _, _, h => h
  | .int _, _, h => h
  | .str _, _, h => h
  | .fn _, _, h => h
  | .ref i, _, h => by
    obtain ⟨p, e, q⟩ := h
    exact ⟨p, e, s.ix q⟩
  | .tup ds, _, h => by
    obtain ⟨p, vs, e, q, r⟩ := h
    exact ⟨p, vs, e, SqT.mono s hot q, RelDs.mono s hot ds vs r⟩
  | .lst ds, _, h => by
    obtain ⟨p, vs, e, q, n, r⟩ := h
    have z := lst_mono s q n
    exact ⟨p, vs, e, z.1, z.2, RelDs.mono s hot ds vs r⟩
  | .scr ds, _, h => by
    obtain ⟨p, vs, e, q, r⟩ := h
    exact ⟨p, vs, e, SqF.mono s hot q, RelDs.mono s hot ds vs r⟩
theorem RelDs.mono (s : Step ρ Z H ρ1 Z1 H1) (hot : Hot Z H) : ∀ (ds : List D) (vs : List V), RelDs K fa ρ Z H ds vs → RelDs K fa ρ1 Z1 H1 ds vs
  | [], _, h => h
  | d :: ds, _, h => by
    obtain ⟨v, r, e, q, t⟩ := h
    exact ⟨v, r, e, RelD.mono s hot d v q, RelDs.mono s hot ds r t⟩
end
theorem RelDs.length : ∀ {ds : List D} {vs : List V}, RelDs K fa ρ Z H ds vs → ds.length = vs.length
  | [], _, h => by have e : _ = [] := h; rw [e]; rfl
  | d :: ds, _, h => by
    obtain ⟨v, r, e, q, t⟩ := h
    rw [e, List.length_cons, List.length_cons, t.length]
theorem RelDs.get : ∀ {ds : List D} {vs : List V} {i : Nat} {d : D}, RelDs K fa ρ Z H ds vs → ds[i]? = some d → ∃ v, vs[i]? = some v ∧ RelD K fa ρ Z H d v
  | [], _, _, _, _, h => by simp at h
  | d :: ds, _, 0, _, h, e => by
    obtain ⟨v, r, rfl, q, t⟩ := h
    simp at e
    subst e
    exact ⟨v, rfl, q⟩
  | d :: ds, _, i + 1, _, h, e => by
    obtain ⟨v, r, rfl, q, t⟩ := h
    exact t.get (i := i) (by simpa using e)
theorem RelDs.getV : ∀ {ds : List D} {vs : List V} {i : Nat} {v : V}, RelDs K fa ρ Z H ds vs → vs[i]? = some v → ∃ d, ds[i]? = some d ∧ RelD K fa ρ Z H d v
  | [], _, _, _, h, e => by have z : _ = [] := h; rw [z] at e; simp at e
  | d :: ds, _, 0, _, h, e => by
    obtain ⟨v, r, rfl, q, t⟩ := h
    simp at e
    subst e
    exact ⟨d, rfl, q⟩
  | d :: ds, _, i + 1, _, h, e => by
    obtain ⟨v, r, rfl, q, t⟩ := h
    exact t.getV (i := i) (by simpa using e)
theorem RelDs.append : ∀ {ds es : List D} {vs ws : List V}, RelDs K fa ρ Z H ds vs → RelDs K fa ρ Z H es ws → RelDs K fa ρ Z H (ds ++ es) (vs ++ ws)
  | [], _, _, _, h, t => by have z : _ = [] := h; rw [z]; exact t
  | d :: ds, _, _, _, h, t => by
    obtain ⟨v, r, rfl, q, z⟩ := h
    exact ⟨v, r ++ _, rfl, q, z.append t⟩
theorem RelDs.one {d : D} {v : V} (h : RelD K fa ρ Z H d v) : RelDs K fa ρ Z H [d] [v] := ⟨v, [], rfl, h, rfl⟩
theorem RelDs.take : ∀ {ds : List D} {vs : List V} (n : Nat), RelDs K fa ρ Z H ds vs → RelDs K fa ρ Z H (ds.take n) (vs.take n)
  | _, _, 0, _ => by simp [RelDs]
  | [], _, n + 1, h => by have z : _ = [] := h; rw [z]; simp [RelDs]
  | d :: ds, _, n + 1, h => by
    obtain ⟨v, r, rfl, q, t⟩ := h
    exact ⟨v, r.take n, rfl, q, t.take n⟩
theorem RelDs.drop : ∀ {ds : List D} {vs : List V} (n : Nat), RelDs K fa ρ Z H ds vs → RelDs K fa ρ Z H (ds.drop n) (vs.drop n)
  | _, _, 0, h => h
  | [], _, n + 1, h => by have z : _ = [] := h; rw [z]; simp [RelDs]
  | d :: ds, _, n + 1, h => by
    obtain ⟨v, r, rfl, q, t⟩ := h
    exact t.drop n
theorem RelDs.set {d : D} {v : V} (hd : RelD K fa ρ Z H d v) : ∀ {ds : List D} {vs : List V} (n : Nat), RelDs K fa ρ Z H ds vs → RelDs K fa ρ Z H (ds.set n d) (vs.set n v)
  | [], _, n, h => by have z : _ = [] := h; rw [z]; simp [RelDs]
  | e :: ds, _, 0, h => by
    obtain ⟨w, r, rfl, q, t⟩ := h
    exact ⟨v, r, rfl, hd, t⟩
  | e :: ds, _, n + 1, h => by
    obtain ⟨w, r, rfl, q, t⟩ := h
    exact ⟨w, r.set n v, rfl, q, t.set hd n⟩
theorem RelDs.rep : ∀ (k : Nat) {ds : List D} {vs : List V}, RelDs K fa ρ Z H ds vs → RelDs K fa ρ Z H (List.replicate k ds).flatten (List.replicate k vs).flatten
  | 0, _, _, _ => by simp [RelDs]
  | k + 1, _, _, h => by
    rw [List.replicate_succ, List.replicate_succ, List.flatten_cons, List.flatten_cons]
    exact h.append (RelDs.rep k h)
theorem RelDs.nil_iff {ds : List D} {vs : List V} (h : RelDs K fa ρ Z H ds vs) : ds.isEmpty = vs.isEmpty := by
  have := h.length
  cases ds <;> cases vs <;> simp at this ⊢
/-- what the data is, by its value's form -/
theorem RelD.int {d : D} {i : Int} (h : RelD K fa ρ Z H d (.int i)) : d = .int i := by
  cases d with
  | int j => have e : V.int i = V.int j := h; cases e; rfl
  | non => cases (show V.int i = V.non from h)
  | bl b => cases (show V.int i = V.bl b from h)
  | str b => cases (show V.int i = V.str b from h)
  | fn b => cases (show V.int i = V.ref (fa b) from h)
  | ref b => obtain ⟨_, e, _⟩ := h; cases e
  | tup b => obtain ⟨_, _, e, _⟩ := h; cases e
  | lst b => obtain ⟨_, _, e, _⟩ := h; cases e
  | scr b => obtain ⟨_, _, e, _⟩ := h; cases e
theorem RelD.nonIff {d : D} {v : V} (h : RelD K fa ρ Z H d v) : decide (v = .non) = isNon d := by
  cases d with
  | non => have e : v = .non := h; rw [e]; rfl
  | int j => have e : v = V.int j := h; rw [e]; rfl
  | bl b => have e : v = V.bl b := h; rw [e]; rfl
  | str b => have e : v = V.str b := h; rw [e]; rfl
  | fn b => have e : v = V.ref (fa b) := h; rw [e]; rfl
  | ref b => obtain ⟨_, e, _⟩ := h; rw [e]; rfl
  | tup b => obtain ⟨_, _, e, _⟩ := h; rw [e]; rfl
  | lst b => obtain ⟨_, _, e, _⟩ := h; rw [e]; rfl
  | scr b => obtain ⟨_, _, e, _⟩ := h; rw [e]; rfl
end
/-! ### data that is compared -/
mutual
def toPy : D → PyData
  | .non => .none
  | .bl b => .bool b
  | .int i => .int i
  | .str x => .str x
  | .tup xs => .tuple (toPys xs)
  | .lst xs => .list (toPys xs)
  | _ => .none
def toPys : List D → List PyData
  | [] => []
  | d :: ds => toPy d :: toPys ds
end
mutual
theorem eqd_eqv : ∀ (a b : D) (n k : Nat), okD a n = true → okD b k = true → eqd a b = PyData.eqv (toPy a) (toPy b)
  | .non, b, n, k, ha, hb => by
    cases b <;> simp [okD] at hb <;> simp [eqd, toPy, PyData.eqv]
  | .bl _, b, n, k, ha, hb => by
    cases b <;> simp [okD] at hb <;> simp [eqd, toPy, PyData.eqv]
  | .int _, b, n, k, ha, hb => by
    cases b <;> simp [okD] at hb <;> simp [eqd, toPy, PyData.eqv]
  | .str _, b, n, k, ha, hb => by
    cases b <;> simp [okD] at hb <;> simp [eqd, toPy, PyData.eqv]
  | .ref _, b, n, k, ha, hb => by simp [okD] at ha
  | .fn _, b, n, k, ha, hb => by simp [okD] at ha
  | .scr _, b, n, k, ha, hb => by simp [okD] at ha
  | .tup xs, b, n, k, ha, hb => by
    cases n with
    | zero => simp [okD] at ha
    | succ n =>
      cases b with
      | tup ys =>
        cases k with
        | zero => simp [okD] at hb
        | succ k =>
          simp only [eqd, toPy, PyData.eqv]
          exact eqds_eqv xs ys n k (by simpa [okD] using ha) (by simpa [okD] using hb)
      | _ => simp [okD] at hb <;> simp [eqd, toPy, PyData.eqv]
  | .lst xs, b, n, k, ha, hb => by
    cases n with
    | zero => simp [okD] at ha
    | succ n =>
      cases b with
      | lst ys =>
        cases k with
        | zero => simp [okD] at hb
        | succ k =>
          simp only [eqd, toPy, PyData.eqv]
          exact eqds_eqv xs ys n k (by simpa [okD] using ha) (by simpa [okD] using hb)
      | _ => simp [okD] at hb <;> simp [eqd, toPy, PyData.eqv]
theorem eqds_eqv : ∀ (a b : List D) (n k : Nat), okDs a n = true → okDs b k = true → eqds a b = PyData.eqvAll (toPys a) (toPys b)
  | [], [], _, _, _, _ => by simp [eqds, toPys, PyData.eqvAll]
  | [], _ :: _, _, _, _, _ => by simp [eqds, toPys, PyData.eqvAll]
  | _ :: _, [], _, _, _, _ => by simp [eqds, toPys, PyData.eqvAll]
  | a :: as, b :: bs, n, k, ha, hb => by
    have ha' : (okD a n && okDs as n) = true := by simpa [okDs] using ha
    have hb' : (okD b k && okDs bs k) = true := by simpa [okDs] using hb
    rw [Bool.and_eq_true] at ha' hb'
    simp only [eqds, toPys, PyData.eqvAll]
    rw [eqd_eqv a b n k ha'.1 hb'.1, eqds_eqv as bs n k ha'.2 hb'.2]
end
mutual
theorem okD_lay : ∀ (a : D) (n : Nat), okD a n = true → (toPy a).canLay0 = true ∧ (toPy a).depth ≤ n
  | .non, n, h => by simp [toPy, PyData.canLay0, PyData.depth]
  | .bl _, n, h => by simp [toPy, PyData.canLay0, PyData.depth]
  | .int _, n, h => by simp [toPy, PyData.canLay0, PyData.depth]
  | .str _, n, h => by simpa [toPy, PyData.canLay0, PyData.depth, okD] using h
  | .ref _, n, h => by simp [okD] at h
  | .fn _, n, h => by simp [okD] at h
  | .scr _, n, h => by simp [okD] at h
  | .tup xs, 0, h => by simp [okD] at h
  | .lst xs, 0, h => by simp [okD] at h
  | .tup xs, n + 1, h => by
    have q := okDs_lay xs n (by simpa [okD] using h)
    refine ⟨by simpa [toPy, PyData.canLay0] using q.1, ?_⟩
    simp only [toPy, PyData.depth]
    omega
  | .lst xs, n + 1, h => by
    have q := okDs_lay xs n (by simpa [okD] using h)
    refine ⟨by simpa [toPy, PyData.canLay0] using q.1, ?_⟩
    simp only [toPy, PyData.depth]
    omega
theorem okDs_lay : ∀ (a : List D) (n : Nat), okDs a n = true → PyData.canLayAll0 (toPys a) = true ∧ PyData.depthAll (toPys a) ≤ n
  | [], n, h => by simp [toPys, PyData.canLayAll0, PyData.depthAll]
  | a :: as, n, h => by
    have h' : (okD a n && okDs as n) = true := by simpa [okDs] using h
    rw [Bool.and_eq_true] at h'
    have q := okD_lay a n h'.1
    have r := okDs_lay as n h'.2
    refine ⟨by simp [toPys, PyData.canLayAll0, q.1, r.1], ?_⟩
    simp only [toPys, PyData.depthAll]
    omega
end
theorem okD_shaped {a : D} (h : okD a 40 = true) : SeqAt.shaped (toPy a) = true := by
  have q := okD_lay a 40 h
  unfold SeqAt.shaped
  rw [q.1, decide_eq_true (Nat.le_trans q.2 (by decide))]
  rfl
section
variable {K : PySem.W.Frag} {fa : Nat → Addr} {ρ : List Addr} {Z : Addr → Prop} {H : Hp}
mutual
theorem RelD.dp : ∀ (a : D) (n : Nat) (v : V), okD a n = true → RelD K fa ρ Z H a v → Dp K H v (toPy a)
  | .non, n, v, _, h => by have e : v = .non := h; rw [e]; exact .non
  | .bl b, n, v, _, h => by have e : v = .bl b := h; rw [e]; exact .bl b
  | .int i, n, v, _, h => by have e : v = .int i := h; rw [e]; exact .int i
  | .str x, n, v, _, h => by have e : v = .str x := h; rw [e]; exact .str x
  | .ref _, n, v, q, h => by simp [okD] at q
  | .fn _, n, v, q, h => by simp [okD] at q
  | .scr _, n, v, q, h => by simp [okD] at q
  | .tup xs, 0, v, q, h => by simp [okD] at q
  | .lst xs, 0, v, q, h => by simp [okD] at q
  | .tup xs, n + 1, v, q, h => by
    obtain ⟨p, vs, e, s, r⟩ := h
    rw [e]
    exact .tup s (RelDs.dp xs n vs (by simpa [okD] using q) r)
  | .lst xs, n + 1, v, q, h => by
    obtain ⟨p, vs, e, s, _, r⟩ := h
    rw [e]
    exact .lst (SqL.of s) (RelDs.dp xs n vs (by simpa [okD] using q) r)
theorem RelDs.dp : ∀ (a : List D) (n : Nat) (vs : List V), okDs a n = true → RelDs K fa ρ Z H a vs → DpAll K H vs (toPys a)
  | [], n, vs, q, h => by have e : vs = [] := h; rw [e]; exact .nil
  | a :: as, n, vs, q, h => by
    have h' : (okD a n && okDs as n) = true := by simpa [okDs] using q
    rw [Bool.and_eq_true] at h'
    obtain ⟨v, r, e, s, t⟩ := h
    rw [e]
    exact .cons (RelD.dp a n v h'.1 s) (RelDs.dp as n r h'.2 t)
end
end
/-! ### the mini heap -/
section
variable {K : PySem.W.Frag} {fa : Nat → Addr} {ρ ρ1 : List Addr} {Z Z1 : Addr → Prop} {H H1 : Hp} {m : M}
theorem RelO.mono (s : Step ρ Z H ρ1 Z1 H1) (hot : Hot Z H) {xs : List D} {p : Addr} {vs : List V} (h : H1 p = some (.lst vs)) (r : RelDs K fa ρ Z H xs vs) : RelO K fa ρ1 Z1 H1 (.lst xs) p :=
  ⟨vs, h, RelDs.mono s hot xs vs r⟩
/-- the heap m as it stands, behind a step that leaves the live ones -/
theorem MOk.same (I : MOk K fa ρ Z H m) (s : Step ρ Z H ρ Z1 H1) (hot1 : Hot Z1 H1) (k : ∀ a, a ∈ ρ → Z a → Z1 a ∧ H1 a = H a) : MOk K fa ρ Z1 H1 m where
  len := I.len
  nd := I.nd
  there := fun a h => by
    by_cases z : Z a
    · rw [(k a h z).2]; exact I.there a h
    · cases q : H a with
      | none => exact absurd q (I.there a h)
      | some o => rw [s.keep a o q (.inr z)]; intro z; cases z
  hot := hot1
  live := fun i o e ne p hp => by
    obtain ⟨z, r⟩ := I.live i o e ne p hp
    obtain ⟨z1, e1⟩ := k p (List.mem_of_getElem? hp) z
    refine ⟨z1, ?_⟩
    cases o with
    | gone => trivial
    | lst xs =>
      obtain ⟨vs, hv, r⟩ := r
      exact RelO.mono s I.hot (by rw [e1]; exact hv) r
theorem MOk.laid (I : MOk K fa ρ Z H m) {p : Addr} {o : HO} (hp : H p = none) : MOk K fa ρ Z (upd H p o) m :=
  I.same (Step.laid hp) (Hot.laid I.hot hp) fun a _ z => ⟨z, by rw [upd_ne (fun e => by have q := I.hot a z; rw [e, hp] at q; exact q)]⟩
/-- a live list -/
theorem MOk.get (I : MOk K fa ρ Z H m) {r : Nat} {xs : List D} (h : m[r]? = some (.lst xs)) : ∃ p vs, ρ[r]? = some p ∧ Z p ∧ H p = some (.lst vs) ∧ RelDs K fa ρ Z H xs vs := by
  have hr : r < ρ.length := by rw [I.len]; exact (List.getElem?_eq_some_iff.mp h).1
  have e : ρ[r]? = some ρ[r] := List.getElem?_eq_getElem hr
  obtain ⟨z, vs, hv, q⟩ := I.live r _ h (by intro z; cases z) _ e
  exact ⟨_, vs, e, z, hv, q⟩
theorem MOk.ixne (I : MOk K fa ρ Z H m) {i j : Nat} {a b : Addr} (ha : ρ[i]? = some a) (hb : ρ[j]? = some b) (h : i ≠ j) : a ≠ b := fun z => by
  subst z
  obtain ⟨h1, e1⟩ := List.getElem?_eq_some_iff.mp ha
  obtain ⟨h2, e2⟩ := List.getElem?_eq_some_iff.mp hb
  exact h ((List.getElem_inj I.nd).mp (e1.trans e2.symm))
/-- the object at r changed: its address is written -/
theorem MOk.set (I : MOk K fa ρ Z H m) {r : Nat} {p : Addr} {xs ys : List D} {ws : List V} (h : m[r]? = some (.lst xs)) (hp : ρ[r]? = some p) (q : RelDs K fa ρ Z H ys ws) :
    MOk K fa ρ Z (upd H p (.lst ws)) (m.set r (.lst ys)) ∧ Step ρ Z H ρ Z (upd H p (.lst ws)) := by
  have hz : Z p := (I.live r _ h (by intro z; cases z) p hp).1
  have s : Step ρ Z H ρ Z (upd H p (.lst ws)) := ⟨⟨[], by simp⟩, fun _ h n => absurd h n, fun _ h n => absurd h n, fun a o e n => by
    have ne : a ≠ p := fun z => by
      subst z
      rcases n with n | n
      · exact n (List.mem_of_getElem? hp)
      · exact n hz
    rw [upd_ne ne]; exact e, fun _ h _ => h⟩
  refine ⟨⟨by rw [List.length_set]; exact I.len, I.nd, fun a ha => ?_, fun a z => ?_, fun i o e ne a ha => ?_⟩, s⟩
  · by_cases e : a = p
    · rw [e, upd_same]; intro z; cases z
    · rw [upd_ne e]; exact I.there a ha
  · by_cases e : a = p
    · rw [e, upd_same]; trivial
    · rw [upd_ne e]; exact I.hot a z
  · by_cases hi : r = i
    · subst hi
      have hr : r < m.length := (List.getElem?_eq_some_iff.mp h).1
      rw [List.getElem?_set_self hr] at e
      cases e
      rw [hp] at ha
      cases ha
      exact ⟨hz, ws, upd_same, RelDs.mono s I.hot ys ws q⟩
    · rw [List.getElem?_set_ne hi] at e
      obtain ⟨z, ro⟩ := I.live i o e ne a ha
      refine ⟨z, ?_⟩
      have nap : a ≠ p := I.ixne ha hp (fun e => hi e.symm)
      cases o with
      | gone => trivial
      | lst zs =>
        obtain ⟨vs, hv, rr⟩ := ro
        exact ⟨vs, by rw [upd_ne nap]; exact hv, RelDs.mono s I.hot zs vs rr⟩
/-- a new list that is to change -/
theorem MOk.push (I : MOk K fa ρ Z H m) {p : Addr} {xs : List D} {vs : List V} (hp : H p = none) (q : RelDs K fa ρ Z H xs vs) :
    MOk K fa (ρ ++ [p]) (fun a => Z a ∨ a = p) (upd H p (.lst vs)) (m ++ [.lst xs]) ∧ Step ρ Z H (ρ ++ [p]) (fun a => Z a ∨ a = p) (upd H p (.lst vs)) := by
  have s : Step ρ Z H (ρ ++ [p]) (fun a => Z a ∨ a = p) (upd H p (.lst vs)) := ⟨⟨[p], rfl⟩, fun a h n => by
    rcases List.mem_append.mp h with h | h
    · exact absurd h n
    · rw [List.mem_singleton.mp h]; exact hp, fun a h n => by
    rcases h with h | h
    · exact absurd h n
    · rw [h]; exact hp, fun a o e n => by rw [upd_ne (ne_of_none e hp)]; exact e, fun a h _ => .inl h⟩
  have np : p ∉ ρ := fun h => I.there p h hp
  refine ⟨⟨by simp [I.len], ?_, fun a ha => ?_, fun a z => ?_, fun i o e ne a ha => ?_⟩, s⟩
  · rw [List.nodup_append]
    refine ⟨I.nd, by simp, fun a ha b hb => ?_⟩
    rw [List.mem_singleton.mp hb]
    exact fun z => np (z ▸ ha)
  · by_cases e : a = p
    · rw [e, upd_same]; intro z; cases z
    · rw [upd_ne e]
      rcases List.mem_append.mp ha with h | h
      · exact I.there a h
      · exact absurd (List.mem_singleton.mp h) e
  · by_cases e : a = p
    · rw [e, upd_same]; trivial
    · rw [upd_ne e]
      rcases z with z | z
      · exact I.hot a z
      · exact absurd z e
  · by_cases hi : i < m.length
    · rw [List.getElem?_append_left hi] at e
      rw [List.getElem?_append_left (by rw [I.len]; exact hi)] at ha
      obtain ⟨z, ro⟩ := I.live i o e ne a ha
      refine ⟨.inl z, ?_⟩
      have nap : a ≠ p := fun z => np (z ▸ List.mem_of_getElem? ha)
      cases o with
      | gone => trivial
      | lst zs =>
        obtain ⟨vs, hv, rr⟩ := ro
        exact ⟨vs, by rw [upd_ne nap]; exact hv, RelDs.mono s I.hot zs vs rr⟩
    · have hi' : i < (m ++ [O.lst xs]).length := (List.getElem?_eq_some_iff.mp e).1
      rw [List.length_append, List.length_singleton] at hi'
      have ei : i = m.length := by omega
      subst ei
      rw [List.getElem?_append_right (Nat.le_refl _), Nat.sub_self] at e
      rw [← I.len, List.getElem?_append_right (Nat.le_refl _), Nat.sub_self] at ha
      cases e
      cases ha
      exact ⟨.inr rfl, vs, upd_same, RelDs.mono s I.hot xs vs q⟩
/-- an object is read from now on, never changed -/
theorem MOk.freeze (I : MOk K fa ρ Z H m) {r : Nat} {p : Addr} (hp : ρ[r]? = some p) :
    MOk K fa ρ (fun a => Z a ∧ a ≠ p) H (m.set r .gone) ∧ Step ρ Z H ρ (fun a => Z a ∧ a ≠ p) H := by
  have s : Step ρ Z H ρ (fun a => Z a ∧ a ≠ p) H := ⟨⟨[], by simp⟩, fun _ h n => absurd h n, fun _ h n => absurd h.1 n, fun a o e n => e, fun a h n => ⟨h, fun e => n (e ▸ List.mem_of_getElem? hp)⟩⟩
  refine ⟨⟨by rw [List.length_set]; exact I.len, I.nd, I.there, fun a z => I.hot a z.1, fun i o e ne a ha => ?_⟩, s⟩
  by_cases hi : r = i
  · subst hi
    by_cases hr : r < m.length
    · rw [List.getElem?_set_self hr] at e
      cases e
      exact absurd rfl ne
    · rw [List.getElem?_eq_none (by simpa using hr)] at e; cases e
  · rw [List.getElem?_set_ne hi] at e
    obtain ⟨z, ro⟩ := I.live i o e ne a ha
    refine ⟨⟨z, I.ixne ha hp (fun e => hi e.symm)⟩, ?_⟩
    cases o with
    | gone => trivial
    | lst zs =>
      obtain ⟨vs, hv, rr⟩ := ro
      exact ⟨vs, hv, RelDs.mono s I.hot zs vs rr⟩
end
end Dx
/-! Dx, part 5: a call's end; readings by data. -/
namespace Dx
open PySem PySem.Spec PyProof.Rows L2
section
variable {K : PySem.W.Frag} {fa : Nat → Addr} {ρ ρ0 ρ2 : List Addr} {Z Z0 Z2 Z' : Addr → Prop} {H H0 H2 : Hp} {m m0 m2 : M}
mutual
theorem RelD.lt : ∀ (d : D) (v : V), RelD K fa ρ Z H d v → ltD ρ.length d = true
  | .non, _, _ => rfl
  | .bl _, _, _ => rfl
  | .int _, _, _ => rfl
  | .str _, _, _ => rfl
  | .fn _, _, _ => rfl
  | .ref i, _, h => by
    obtain ⟨p, _, q⟩ := h
    exact decide_eq_true (List.getElem?_eq_some_iff.mp q).1
  | .tup ds, _, h => by
    obtain ⟨p, vs, _, _, r⟩ := h
    exact RelDs.lt ds vs r
  | .lst ds, _, h => by
    obtain ⟨p, vs, _, _, _, r⟩ := h
    exact RelDs.lt ds vs r
  | .scr ds, _, h => by
    obtain ⟨p, vs, _, _, r⟩ := h
    exact RelDs.lt ds vs r
theorem RelDs.lt : ∀ (ds : List D) (vs : List V), RelDs K fa ρ Z H ds vs → ltDs ρ.length ds = true
  | [], _, _ => rfl
  | d :: ds, _, h => by
    obtain ⟨v, r, _, q, t⟩ := h
    show (ltD _ d && ltDs _ ds) = true
    rw [RelD.lt d v q, RelDs.lt ds r t]; rfl
end
theorem MOk.low (I : MOk K fa ρ Z H m) : Low m.length m := fun j hj xs e => by
  obtain ⟨p, vs, _, _, _, r⟩ := I.get e
  rw [← I.len]
  exact RelDs.lt xs vs r
mutual
/-- seen from an older frame -/
theorem RelD.down {n : Nat} (hi : ∀ i, i < n → ρ2[i]? = ρ0[i]?) (hz : ∀ a, Z' a → Z2 a) : ∀ (d : D) (v : V), ltD n d = true → RelD K fa ρ2 Z2 H d v → RelD K fa ρ0 Z' H d v
  | .non, _, _, h => h
  | .bl _, _, _, h => h
  | .int _, _, _, h => h
  | .str _, _, _, h => h
  | .fn _, _, _, h => h
  | .ref i, _, l, h => by
    obtain ⟨p, e, q⟩ := h
    exact ⟨p, e, by rw [← hi i (of_decide_eq_true l)]; exact q⟩
  | .tup ds, _, l, h => by
    obtain ⟨p, vs, e, q, r⟩ := h
    exact ⟨p, vs, e, q, RelDs.down hi hz ds vs l r⟩
  | .lst ds, _, l, h => by
    obtain ⟨p, vs, e, q, n, r⟩ := h
    exact ⟨p, vs, e, q, fun z => n (hz p z), RelDs.down hi hz ds vs l r⟩
  | .scr ds, _, l, h => by
    obtain ⟨p, vs, e, q, r⟩ := h
    exact ⟨p, vs, e, q, RelDs.down hi hz ds vs l r⟩
theorem RelDs.down {n : Nat} (hi : ∀ i, i < n → ρ2[i]? = ρ0[i]?) (hz : ∀ a, Z' a → Z2 a) : ∀ (ds : List D) (vs : List V), ltDs n ds = true → RelDs K fa ρ2 Z2 H ds vs → RelDs K fa ρ0 Z' H ds vs
  | [], _, _, h => h
  | d :: ds, _, l, h => by
    obtain ⟨v, r, e, q, t⟩ := h
    have l' : (ltD n d && ltDs n ds) = true := l
    rw [Bool.and_eq_true] at l'
    exact ⟨v, r, e, RelD.down hi hz d v l'.1 q, RelDs.down hi hz ds r l'.2 t⟩
end
mutual
theorem mapRef_ok {g : Nat → Option D} (hg : ∀ i e v, RelD K fa ρ2 Z2 H (.ref i) v → g i = some e → RelD K fa ρ0 Z' H e v) (hz : ∀ a, Z' a → Z2 a) :
    ∀ (d e : D) (v : V), RelD K fa ρ2 Z2 H d v → mapRef g d = some e → RelD K fa ρ0 Z' H e v
  | .non, _, _, h, q => by cases (show some D.non = some _ from q); exact h
  | .bl _, _, _, h, q => by cases (show some (D.bl _) = some _ from q); exact h
  | .int _, _, _, h, q => by cases (show some (D.int _) = some _ from q); exact h
  | .str _, _, _, h, q => by cases (show some (D.str _) = some _ from q); exact h
  | .fn _, _, _, h, q => by cases (show some (D.fn _) = some _ from q); exact h
  | .ref i, e, v, h, q => hg i e v h q
  | .tup ds, e, v, h, q => by
    have q' : (mapRefs g ds).map D.tup = some e := q
    obtain ⟨es, q1, rfl⟩ := Option.map_eq_some_iff.mp q'
    obtain ⟨p, vs, ev, s, r⟩ := h
    exact ⟨p, vs, ev, s, mapRefs_ok hg hz ds es vs r q1⟩
  | .lst ds, e, v, h, q => by
    have q' : (mapRefs g ds).map D.lst = some e := q
    obtain ⟨es, q1, rfl⟩ := Option.map_eq_some_iff.mp q'
    obtain ⟨p, vs, ev, s, n, r⟩ := h
    exact ⟨p, vs, ev, s, fun z => n (hz p z), mapRefs_ok hg hz ds es vs r q1⟩
  | .scr ds, e, v, h, q => by cases (show (none : Option D) = some e from q)
theorem mapRefs_ok {g : Nat → Option D} (hg : ∀ i e v, RelD K fa ρ2 Z2 H (.ref i) v → g i = some e → RelD K fa ρ0 Z' H e v) (hz : ∀ a, Z' a → Z2 a) :
    ∀ (ds es : List D) (vs : List V), RelDs K fa ρ2 Z2 H ds vs → mapRefs g ds = some es → RelDs K fa ρ0 Z' H es vs
  | [], es, vs, h, q => by cases (show some ([] : List D) = some es from q); exact h
  | d :: ds, es, vs, h, q => by
    obtain ⟨v, r, rfl, h1, h2⟩ := h
    have q' : ((mapRef g d).bind fun e => (mapRefs g ds).map fun es => e :: es) = some es := q
    obtain ⟨e, q1, q2⟩ := Option.bind_eq_some_iff.mp q'
    obtain ⟨es', q3, rfl⟩ := Option.map_eq_some_iff.mp q2
    exact ⟨v, r, rfl, mapRef_ok hg hz d e v h1 q1, mapRefs_ok hg hz ds es' r h2 q3⟩
end
theorem fz_ok {n : Nat} (hi : ∀ i, i < n → ρ2[i]? = ρ0[i]?) (hz : ∀ a, Z' a → Z2 a) (hl : ∀ i p, n ≤ i → ρ2[i]? = some p → ¬ Z' p) (I : MOk K fa ρ2 Z2 H m2) :
    ∀ (k : Nat) (d e : D) (v : V), RelD K fa ρ2 Z2 H d v → fz m2 n k d = some e → RelD K fa ρ0 Z' H e v
  | 0, d, e, v, h, q => by
    refine mapRef_ok (fun i e v h q => ?_) hz d e v h q
    by_cases c : i < n
    · rw [if_pos c] at q
      cases q
      obtain ⟨p, e, z⟩ := h
      exact ⟨p, e, by rw [← hi i c]; exact z⟩
    · rw [if_neg c] at q; cases q
  | k + 1, d, e, v, h, q => by
    refine mapRef_ok (fun i e v h q => ?_) hz d e v h q
    by_cases c : i < n
    · rw [if_pos c] at q
      cases q
      obtain ⟨p, e, z⟩ := h
      exact ⟨p, e, by rw [← hi i c]; exact z⟩
    · rw [if_neg c] at q
      split at q
      · rename_i xs hx
        obtain ⟨es, q1, rfl⟩ := Option.map_eq_some_iff.mp q
        obtain ⟨p, rfl, hp⟩ := h
        obtain ⟨p', vs, hp', zp, hv, r⟩ := I.get hx
        rw [hp] at hp'
        cases hp'
        exact ⟨p, vs, rfl, hv, hl i p (by omega) hp, mapRefs_ok (fun j e v h q => fz_ok hi hz hl I k (.ref j) e v h q) hz xs es vs r q1⟩
      · cases q
theorem take_pre {n : Nat} (s : Step ρ0 Z0 H0 ρ2 Z2 H2) (hn : ρ0.length = n) : ρ2.take n = ρ0 := by
  obtain ⟨t, e⟩ := s.pre
  rw [e, ← hn, List.take_append_of_le_length (Nat.le_refl _), List.take_length]
/-- the older objects behind a call -/
theorem older {n : Nat} (I0 : MOk K fa ρ0 Z0 H0 m0) (s : Step ρ0 Z0 H0 ρ2 Z2 H2) (I2 : MOk K fa ρ2 Z2 H2 m2) (L : LowR n m0 m2) (hn : n = m0.length) {q : Addr → Prop} (hq : ∀ a, q a → a ∈ ρ2 ∧ a ∉ ρ0) :
    Step ρ0 Z0 H0 ρ0 (fun a => Z2 a ∧ (a ∈ ρ0 ∨ a ∉ ρ2 ∨ q a)) H2 ∧ MOk K fa ρ0 (fun a => Z2 a ∧ (a ∈ ρ0 ∨ a ∉ ρ2 ∨ q a)) H2 (m2.take n) := by
  have hi : ∀ i, i < n → ρ2[i]? = ρ0[i]? := fun i h => by
    obtain ⟨t, e⟩ := s.pre
    rw [e, List.getElem?_append_left (by rw [I0.len, ← hn]; exact h)]
  refine ⟨⟨⟨[], by simp⟩, fun _ h n => absurd h n, fun a h z => s.newz a h.1 z, s.keep, fun a h z => ⟨s.hotk a h z, ?_⟩⟩, ?_⟩
  · refine .inr (.inl fun z' => ?_)
    have q := s.newr a z' z
    have e := I0.hot a h
    rw [q] at e
    exact e
  · refine ⟨by rw [List.length_take, I0.len, hn]; have := L.1; omega, I0.nd, fun a h => I2.there a (s.old h), fun a h => I2.hot a h.1, fun i o e ne p hp => ?_⟩
    have hin : i < n := by
      have := (List.getElem?_eq_some_iff.mp hp).1
      rw [I0.len] at this
      omega
    rw [List.getElem?_take_of_lt hin] at e
    obtain ⟨z, r⟩ := I2.live i o e ne p (by rw [hi i hin]; exact hp)
    refine ⟨⟨z, .inl (List.mem_of_getElem? hp)⟩, ?_⟩
    cases o with
    | gone => trivial
    | lst xs =>
      obtain ⟨vs, hv, r⟩ := r
      exact ⟨vs, hv, RelDs.down hi (fun a h => h.1) xs vs (L.2 n (Nat.le_refl _) (by rw [hn]; exact I0.low) i hin xs e) r⟩
theorem finish_ok {rm : Bool} {n : Nat} {d e : D} {v : V} {m' : M} (I0 : MOk K fa ρ0 Z0 H0 m0) (s : Step ρ0 Z0 H0 ρ2 Z2 H2) (I2 : MOk K fa ρ2 Z2 H2 m2) (L : LowR n m0 m2) (hn : n = m0.length)
    (r : RelD K fa ρ2 Z2 H2 d v) (h : finish rm n d m2 = .ok e m') : ∃ ρ' Z', Step ρ0 Z0 H0 ρ' Z' H2 ∧ MOk K fa ρ' Z' H2 m' ∧ RelD K fa ρ' Z' H2 e v := by
  have hi : ∀ i, i < n → ρ2[i]? = ρ0[i]? := fun i h => by
    obtain ⟨t, e⟩ := s.pre
    rw [e, List.getElem?_append_left (by rw [I0.len, ← hn]; exact h)]
  unfold finish at h
  split at h
  · split at h
    · rename_i i
      split at h
      · rename_i hni
        split at h
        · rename_i xs hx
          split at h
          · rename_i hnr
            injection h with h1 h2
            subst h1 h2
            obtain ⟨p, rfl, hp⟩ := r
            obtain ⟨p', vs, hp', zp, hv, rr⟩ := I2.get hx
            rw [hp] at hp'
            cases hp'
            have hp0 : p ∉ ρ0 := fun z => by
              obtain ⟨j, hj, ej⟩ := List.getElem_of_mem z
              have e1 : ρ2[j]? = some p := by
                rw [hi j (by rw [hn, ← I0.len]; exact hj), List.getElem?_eq_getElem hj, ej]
              have : i ≠ j := by
                have := I0.len
                omega
              exact I2.ixne hp e1 this rfl
            obtain ⟨s', I'⟩ := older (q := fun a => a = p) I0 s I2 L hn (fun a e => by rw [e]; exact ⟨List.mem_of_getElem? hp, hp0⟩)
            refine ⟨ρ0 ++ [p], _, ⟨⟨[p], rfl⟩, fun a h n => ?_, s'.newz, s'.keep, s'.hotk⟩, ?_, ⟨p, rfl, ?_⟩⟩
            · rcases List.mem_append.mp h with h | h
              · exact absurd h n
              · rw [List.mem_singleton.mp h] at n ⊢
                exact s.newr p (List.mem_of_getElem? hp) n
            · refine ⟨?_, ?_, fun a h => ?_, I'.hot, fun j o e ne a ha => ?_⟩
              · rw [List.length_append, List.length_append, I'.len]; rfl
              · rw [List.nodup_append]
                refine ⟨I0.nd, by simp, fun a ha b hb => ?_⟩
                rw [List.mem_singleton.mp hb]
                exact fun z => hp0 (z ▸ ha)
              · rcases List.mem_append.mp h with h | h
                · exact I'.there a h
                · rw [List.mem_singleton.mp h, hv]; intro z; cases z
              · by_cases hj : j < (m2.take n).length
                · rw [List.getElem?_append_left hj] at e
                  rw [List.getElem?_append_left (by rw [I'.len]; exact hj)] at ha
                  obtain ⟨z, ro⟩ := I'.live j o e ne a ha
                  refine ⟨z, ?_⟩
                  cases o with
                  | gone => trivial
                  | lst zs =>
                    obtain ⟨ws, hw, rw_⟩ := ro
                    have lz := RelDs.lt zs ws rw_
                    exact ⟨ws, hw, RelDs.down (n := ρ0.length) (fun i h => by rw [List.getElem?_append_left h]) (fun a h => h) zs ws lz rw_⟩
                · have hj' : j < (m2.take n ++ [O.lst xs]).length := (List.getElem?_eq_some_iff.mp e).1
                  rw [List.length_append, List.length_singleton] at hj'
                  have ej : j = (m2.take n).length := by omega
                  rw [ej, List.getElem?_append_right (Nat.le_refl _), Nat.sub_self] at e
                  rw [ej, ← I'.len, List.getElem?_append_right (Nat.le_refl _), Nat.sub_self] at ha
                  cases e
                  cases ha
                  exact ⟨⟨zp, .inr (.inr rfl)⟩, vs, hv, RelDs.down (n := 0) (fun i h => by omega) (fun a h => h.1) xs vs (nrs_lt 0 xs hnr) rr⟩
            · rw [hn, ← I0.len, List.getElem?_append_right (Nat.le_refl _), Nat.sub_self]; rfl
          · cases h
        · cases h
      · cases h
    · cases h
  · split at h
    · rename_i hle
      injection h with h1 h2
      subst h1 h2
      exact ⟨ρ2, Z2, s, I2, r⟩
    · split at h
      · rename_i e' q
        injection h with h1 h2
        subst h1 h2
        obtain ⟨s', I'⟩ := older (q := fun _ => False) I0 s I2 L hn (fun a e => e.elim)
        refine ⟨ρ0, _, s', I', fz_ok hi (fun a h => h.1) (fun i p hni hp z => ?_) I2 4 d e' v r q⟩
        rcases z.2 with z | z | z
        · obtain ⟨j, hj, ej⟩ := List.getElem_of_mem z
          have e1 : ρ2[j]? = some p := by
            rw [hi j (by rw [hn, ← I0.len]; exact hj), List.getElem?_eq_getElem hj, ej]
          have : i ≠ j := by
            have := I0.len
            omega
          exact I2.ixne hp e1 this rfl
        · exact z (List.mem_of_getElem? hp)
        · exact z
      · cases h
end
/-! ### readings by data -/
/-- the frame and the mini heap -/
structure Sim (K : PySem.W.Frag) (fa : Nat → Addr) (ρ : List Addr) (Z : Addr → Prop) (H : Hp) (σ : L2.St) (e : Env') (m : M) : Prop where
  mok : MOk K fa ρ Z H m
  env : ∀ (i : Nat) (d : D), getV e i = some d → ∃ v, σ[i]? = some (some v) ∧ RelD K fa ρ Z H d v
  len : e.length = σ.length
section
variable {K : PySem.W.Frag} {fa ca : Nat → Addr} {ρ ρ1 : List Addr} {Z Z1 : Addr → Prop} {H H1 : Hp} {σ : L2.St} {e : Env'} {m m1 : M} {W : WX}
theorem Sim.step (S : Sim K fa ρ Z H σ e m) (s : Step ρ Z H ρ1 Z1 H1) (I : MOk K fa ρ1 Z1 H1 m1) : Sim K fa ρ1 Z1 H1 σ e m1 :=
  ⟨I, fun i d h => by obtain ⟨v, q, r⟩ := S.env i d h; exact ⟨v, q, RelD.mono s S.mok.hot d v r⟩, S.len⟩
theorem getV_set {e : Env'} {i j : Nat} {d d' : D} (h : getV (e.set i (some d)) j = some d') : (i = j ∧ d' = d) ∨ (i ≠ j ∧ getV e j = some d') := by
  unfold getV at h ⊢
  by_cases q : i = j
  · subst q
    by_cases l : i < e.length
    · rw [List.getElem?_set_self l] at h
      cases h
      exact .inl ⟨rfl, rfl⟩
    · rw [List.getElem?_eq_none (by simpa using l)] at h; cases h
  · rw [List.getElem?_set_ne q] at h
    exact .inr ⟨q, h⟩
theorem Sim.set (S : Sim K fa ρ Z H σ e m) {i : Nat} {d : D} {v : V} (r : RelD K fa ρ Z H d v) : Sim K fa ρ Z H (σ.set i (some v)) (e.set i (some d)) m := by
  refine ⟨S.mok, fun j d' h => ?_, by rw [List.length_set, List.length_set]; exact S.len⟩
  rcases getV_set h with ⟨rfl, rfl⟩ | ⟨q, h⟩
  · refine ⟨v, ?_, r⟩
    have l : i < e.length := by
      unfold getV at h
      by_cases l : i < e.length
      · exact l
      · rw [List.getElem?_eq_none (by simpa using l)] at h; cases h
    rw [List.getElem?_set_self (by rw [← S.len]; exact l)]
  · obtain ⟨w, q1, q2⟩ := S.env j d' h
    exact ⟨w, by rw [List.getElem?_set_ne q]; exact q1, q2⟩
theorem getV_none {e : Env'} {i j : Nat} {d' : D} (h : getV (e.set i none) j = some d') : i ≠ j ∧ getV e j = some d' := by
  unfold getV at h ⊢
  by_cases q : i = j
  · subst q
    by_cases l : i < e.length
    · rw [List.getElem?_set_self l] at h; cases h
    · rw [List.getElem?_eq_none (by simpa using l)] at h; cases h
  · rw [List.getElem?_set_ne q] at h
    exact ⟨q, h⟩
theorem Sim.drop (S : Sim K fa ρ Z H σ e m) {i : Nat} (o : Option V) : Sim K fa ρ Z H (σ.set i o) (e.set i none) m := by
  refine ⟨S.mok, fun j d' h => ?_, by rw [List.length_set, List.length_set]; exact S.len⟩
  obtain ⟨q, h⟩ := getV_none h
  obtain ⟨w, q1, q2⟩ := S.env j d' h
  exact ⟨w, by rw [List.getElem?_set_ne q]; exact q1, q2⟩
theorem Sim.wipe (S : Sim K fa ρ Z H σ e m) : ∀ (l : List Nat), Sim K fa ρ Z H (wipe σ l) (wipeE e l) m
  | [] => S
  | i :: l => (S.wipe l).drop none
abbrev Rl (α β : Type) := List Addr → (Addr → Prop) → Hp → α → β → Prop
/-- what is wanted of a result -/
def PR {α β : Type} (K : PySem.W.Frag) (fa ca : Nat → Addr) (W : WX) (σ : L2.St) (rel : Rl α β) (ρ : List Addr) (Z : Addr → Prop) (H : Hp) (r : Res α) (Q : β → Hp → Prop) : Prop := match r with
  | .ok a m => ∀ ρ' Z' H' b, Step ρ Z H ρ' Z' H' → MOk K fa ρ' Z' H' m → rel ρ' Z' H' a b → Q b H'
  | .err c m => ∀ ρ' Z' H', Step ρ Z H ρ' Z' H' → MOk K fa ρ' Z' H' m → W (.ref (ca c)) none σ H'
  | .bad => False
theorem PR.mono {α β : Type} {rel : Rl α β} {r : Res α} {Q Q' : β → Hp → Prop} (h : PR K fa ca W σ rel ρ Z H r Q) (k : ∀ b H', Q b H' → Q' b H') : PR K fa ca W σ rel ρ Z H r Q' := by
  cases r with
  | ok a m => exact fun ρ' Z' H' b s I q => k b H' (h ρ' Z' H' b s I q)
  | err c m => exact h
  | bad => exact h
theorem PR.step {α β : Type} {rel : Rl α β} {r : Res α} {Q : β → Hp → Prop} (hot : Hot Z H) (s : Step ρ Z H ρ1 Z1 H1) (h : PR K fa ca W σ rel ρ Z H r Q) : PR K fa ca W σ rel ρ1 Z1 H1 r Q := by
  cases r with
  | ok a m => exact fun ρ' Z' H' b t I q => h ρ' Z' H' b (s.trans hot t) I q
  | err c m => exact fun ρ' Z' H' t I => h ρ' Z' H' (s.trans hot t) I
  | bad => exact h
theorem PR.bind {α β γ δ : Type} {rel : Rl α β} {rel' : Rl γ δ} {r : Res α} {f : α → M → Res γ} {Q : δ → Hp → Prop} (hot : Hot Z H) (h : PR K fa ca W σ rel' ρ Z H (r.bind f) Q) :
    PR K fa ca W σ rel ρ Z H r fun b H1 => ∃ ρ1 Z1 a m1, r = .ok a m1 ∧ Step ρ Z H ρ1 Z1 H1 ∧ MOk K fa ρ1 Z1 H1 m1 ∧ rel ρ1 Z1 H1 a b ∧ PR K fa ca W σ rel' ρ1 Z1 H1 (f a m1) Q := by
  cases r with
  | ok a m => exact fun ρ' Z' H' b s I q => ⟨ρ', Z', a, m, rfl, s, I, q, PR.step hot s h⟩
  | err c m => exact h
  | bad => exact h
/-- the end of a chain -/
theorem PR.out {α β : Type} {rel : Rl α β} {a : α} {b : β} {Q : β → Hp → Prop} (h : PR K fa ca W σ rel ρ Z H (.ok a m) Q) (I : MOk K fa ρ Z H m) (q : rel ρ Z H a b) : Q b H := h ρ Z H b Step.refl I q
abbrev rD (K : PySem.W.Frag) (fa : Nat → Addr) : Rl D V := fun ρ Z H d v => RelD K fa ρ Z H d v
abbrev rDs (K : PySem.W.Frag) (fa : Nat → Addr) : Rl (List D) (List V) := fun ρ Z H d v => RelDs K fa ρ Z H d v
abbrev rEq (α : Type) : Rl α α := fun _ _ _ a b => a = b
/-- a reading by a function of the frame and the mini heap; P: what else is known of the slots -/
def tR {α β : Type} (K : PySem.W.Frag) (fa ca : Nat → Addr) (P : L2.St → Prop) (W : WX) (rel : Rl α β) (f : Env' → M → Res α) : L2.St → Hp → (β → Hp → Prop) → Prop :=
  fun σ H Q => P σ ∧ ∃ ρ Z e m, Sim K fa ρ Z H σ e m ∧ PR K fa ca W σ rel ρ Z H (f e m) Q
/-- the same of a list that is made anew -/
def PF (K : PySem.W.Frag) (fa ca : Nat → Addr) (W : WX) (σ : L2.St) (ρ : List Addr) (Z : Addr → Prop) (H : Hp) (r : Res (List D)) (F : List Addr → (Addr → Prop) → Hp → M → List D → Addr → Prop) (Q : VK) : Prop := match r with
  | .ok ds m => ∀ ρ' Z' H' p, F ρ' Z' H' m ds p → Q (.ref p) H'
  | .err c m => ∀ ρ' Z' H', Step ρ Z H ρ' Z' H' → MOk K fa ρ' Z' H' m → W (.ref (ca c)) none σ H'
  | .bad => False
end
section
variable {X : Cx}
theorem _root_.L2.PE.imp {e : Expr} {t t' : TE} (h : PE X e t) (k : ∀ σ H Q, t' σ H Q → t σ H Q) : PE X e t' := ⟨fun pins s σ H Q I q => h.run pins s σ H Q I (k σ H Q q)⟩
theorem _root_.L2.PT.imp {e : Expr} {t t' : TT} (h : PT X e t) (k : ∀ σ H Q, t' σ H Q → t σ H Q) : PT X e t' := ⟨fun pins s σ H Q I q => h.run pins s σ H Q I (k σ H Q q)⟩
theorem _root_.L2.PW.imp {e : Expr} {t t' : TT} (h : PW X e t) (k : ∀ σ H Q, t' σ H Q → t σ H Q) : PW X e t' := ⟨fun wh pins s σ H Q I q => h.run wh pins s σ H Q I (k σ H Q q)⟩
theorem _root_.L2.PA.imp {e : List Expr} {t t' : TA} (h : PA X e t) (k : ∀ σ H Q, t' σ H Q → t σ H Q) : PA X e t' := ⟨fun pos pins s σ H Q I q => h.run pos pins s σ H Q I (k σ H Q q)⟩
theorem _root_.L2.PS.imp {e : Stmt} {t t' : TS} (h : PS X e t) (k : ∀ D σ H, t' D σ H → t D σ H) : PS X e t' := ⟨fun pins s σ H D I q => h.run pins s σ H D I (k D σ H q)⟩
theorem _root_.L2.PSs.imp {e : List Stmt} {t t' : TS} (h : PSs X e t) (k : ∀ D σ H, t' D σ H → t D σ H) : PSs X e t' := ⟨fun pins s σ H D I q => h.run pins s σ H D I (k D σ H q)⟩
theorem _root_.L2.OpR.imp {f : Value → Value → Sem Value} {r r' : R2} (h : OpR X f r) (k : ∀ x y H Q, r' x y H Q → r x y H Q) : OpR X f r' := fun pins s σ H x y v u Q I rx ry q => h pins s σ H x y v u Q I rx ry (k x y H Q q)
theorem _root_.L2.CallR.imp {f : Value} {r r' : List V → Hp → VK → Prop} (h : CallR X f r) (k : ∀ xs H Q, r' xs H Q → r xs H Q) : CallR X f r' := fun pins s σ H xs us Q I rx q => h pins s σ H xs us Q I rx (k xs H Q q)
theorem _root_.L2.IxR.imp {r r' : R2} (h : IxR X r) (k : ∀ x y H Q, r' x y H Q → r x y H Q) : IxR X r' := fun va sl pins s σ H x y v u Q I rx ry q hs => h va sl pins s σ H x y v u Q I rx ry (k x y H Q q) hs
end
end Dx
/-! Dx, part 6: operators, subscripts, built-ins by data. -/
namespace Dx
open PySem PySem.Spec PyProof.Rows L2
section
variable (K : PySem.W.Frag) (fa : Nat → Addr)
def rBin (g : M → D → D → Option D) : R2 := fun x y H Q => ∃ ρ Z m dx dy d, MOk K fa ρ Z H m ∧ RelD K fa ρ Z H dx x ∧ RelD K fa ρ Z H dy y ∧ g m dx dy = some d ∧
  ∀ ρ' Z' H' v, Step ρ Z H ρ' Z' H' → MOk K fa ρ' Z' H' m → RelD K fa ρ' Z' H' d v → Q v H'
def rCmp (g : D → D → Option Bool) : R2 := fun x y H Q => ∃ ρ Z m dx dy b, MOk K fa ρ Z H m ∧ RelD K fa ρ Z H dx x ∧ RelD K fa ρ Z H dy y ∧ g dx dy = some b ∧ Q (.bl b) H
def rBlt (g : M → List D → Option D) : List V → Hp → VK → Prop := fun vs H Q => ∃ ρ Z m ds d, MOk K fa ρ Z H m ∧ RelDs K fa ρ Z H ds vs ∧ g m ds = some d ∧
  ∀ ρ' Z' H' v, Step ρ Z H ρ' Z' H' → MOk K fa ρ' Z' H' m → RelD K fa ρ' Z' H' d v → Q v H'
end
theorem line_le {n : Nat} (h : lineOk n = true) : n ≤ sizeLine := by
  have := of_decide_eq_true h
  rw [sizeLine_eq]; omega
theorem line_lt {n : Nat} (h : lineOk n = true) : n < sizeLine := by
  have := of_decide_eq_true h
  rw [sizeLine_eq]; omega
theorem catL_shape {m : M} {a b : D} {zs : List D} (h : evCatL m a b = some zs) : ∃ xs ys, lstOf m a = some xs ∧ lstOf m b = some ys ∧ lineOk (xs.length + ys.length) = true ∧ zs = xs ++ ys := by
  obtain ⟨xs, h1, h⟩ := Option.bind_eq_some_iff.mp h
  obtain ⟨ys, h2, h⟩ := Option.bind_eq_some_iff.mp h
  split at h
  · rename_i hl; cases h; exact ⟨xs, ys, h1, h2, hl, rfl⟩
  · cases h
theorem repL_shape {m : M} {a b : D} {zs : List D} (h : evRepL m a b = some zs) : ∃ xs k, lstOf m a = some xs ∧ b = .int k ∧ k ≤ 1000000 ∧ lineOk (xs.length * k.toNat) = true ∧ -(2 ^ 63) ≤ k ∧ zs = (List.replicate k.toNat xs).flatten := by
  obtain ⟨xs, h1, h⟩ := Option.bind_eq_some_iff.mp h
  split at h
  · split at h
    · rename_i hl
      simp only [Bool.and_eq_true, decide_eq_true_eq] at hl
      cases h
      exact ⟨xs, _, h1, rfl, hl.1.1, hl.1.2, hl.2, rfl⟩
    · cases h
  · cases h
theorem add_shape {m : M} {a b d : D} (h : evAdd m a b = some d) : (∃ i j, a = .int i ∧ b = .int j ∧ d = .int (i + j)) ∨ (∃ xs ys, a = .tup xs ∧ b = .tup ys ∧ lineOk (xs.length + ys.length) = true ∧ d = .tup (xs ++ ys)) ∨
    ∃ zs, evCatL m a b = some zs ∧ d = .lst zs := by
  unfold evAdd at h
  split at h
  · cases h; exact .inl ⟨_, _, rfl, rfl, rfl⟩
  · rename_i xs ys
    split at h
    · rename_i hl
      cases h
      exact .inr (.inl ⟨xs, ys, rfl, rfl, hl, rfl⟩)
    · cases h
  · obtain ⟨zs, h1, rfl⟩ := Option.map_eq_some_iff.mp h
    exact .inr (.inr ⟨zs, h1, rfl⟩)
theorem sub_shape {a b d : D} (h : evSub a b = some d) : ∃ i j, a = .int i ∧ b = .int j ∧ d = .int (i - j) := by
  unfold evSub at h
  split at h
  · cases h; exact ⟨_, _, rfl, rfl, rfl⟩
  · cases h
theorem mul_shape {m : M} {a b d : D} (h : evMul m a b = some d) : (∃ i j, a = .int i ∧ b = .int j ∧ mulOk i j = true ∧ d = .int (i * j)) ∨
    (∃ xs k, a = .tup xs ∧ b = .int k ∧ xs ≠ [] ∧ 2 ≤ k ∧ k ≤ 1000 ∧ xs.length ≤ 1000 ∧ d = .tup (List.replicate k.toNat xs).flatten) ∨ ∃ zs, evRepL m a b = some zs ∧ d = .lst zs := by
  unfold evMul at h
  split at h
  · split at h
    · rename_i hc; cases h; exact .inl ⟨_, _, rfl, rfl, hc, rfl⟩
    · cases h
  · rename_i xs k
    split at h
    · rename_i hl
      simp only [Bool.and_eq_true, decide_eq_true_eq] at hl
      cases h
      exact .inr (.inl ⟨xs, k, rfl, rfl, fun e => by rw [e] at hl; simp at hl, hl.1.1.2, hl.1.2, hl.2, rfl⟩)
    · cases h
  · obtain ⟨zs, h1, rfl⟩ := Option.map_eq_some_iff.mp h
    exact .inr (.inr ⟨zs, h1, rfl⟩)
theorem fdiv_shape {a b d : D} (h : evFdiv a b = some d) : ∃ i j, a = .int i ∧ b = .int j ∧ divOk j = true ∧ d = .int (i / j) := by
  unfold evFdiv at h
  split at h
  · split at h
    · rename_i hc; cases h; exact ⟨_, _, rfl, rfl, hc, rfl⟩
    · cases h
  · cases h
theorem mod_shape {a b d : D} (h : evMod a b = some d) : ∃ i j, a = .int i ∧ b = .int j ∧ 0 < j ∧ d = .int (i % j) := by
  unfold evMod at h
  split at h
  · split at h
    · rename_i hc; cases h; exact ⟨_, _, rfl, rfl, hc, rfl⟩
    · cases h
  · cases h
theorem pow_shape {a b d : D} (h : evPow a b = some d) : ∃ i j, a = .int i ∧ b = .int j ∧ powOk i j = true ∧ d = .int (i ^ j.toNat) := by
  unfold evPow at h
  split at h
  · split at h
    · rename_i hc; cases h; exact ⟨_, _, rfl, rfl, hc, rfl⟩
    · cases h
  · cases h
theorem cmpI_shape {p : Int → Int → Bool} {a b : D} {k : Bool} (h : cmpI p a b = some k) : ∃ i j, a = .int i ∧ b = .int j ∧ k = p i j := by
  unfold cmpI at h
  split at h
  · cases h; exact ⟨_, _, rfl, rfl, rfl⟩
  · cases h
/-! ### sequences -/
section
variable {K : PySem.W.Frag} {fa : Nat → Addr} {ρ : List Addr} {Z : Addr → Prop} {H : Hp} {m : M}
theorem items_seq (I : MOk K fa ρ Z H m) {d : D} {v : V} {xs : List D} (r : RelD K fa ρ Z H d v) (h : itemsOf m d = some xs) : ∃ p vs, v = .ref p ∧ (SqL K H p vs ∨ SqT K H p vs) ∧ RelDs K fa ρ Z H xs vs := by
  unfold itemsOf at h
  split at h
  · cases h
    obtain ⟨p, vs, e, q, t⟩ := r
    exact ⟨p, vs, e, .inr q, t⟩
  · cases h
    obtain ⟨p, vs, e, q, _, t⟩ := r
    exact ⟨p, vs, e, .inl (SqL.of q), t⟩
  · cases h
    obtain ⟨p, vs, e, q, t⟩ := r
    exact ⟨p, vs, e, .inl q.sq, t⟩
  · split at h
    · rename_i hx
      cases h
      obtain ⟨p, e, hp⟩ := r
      obtain ⟨p', vs, hp', _, hv, t⟩ := I.get hx
      rw [hp] at hp'
      cases hp'
      exact ⟨p, vs, e, .inl (SqL.of hv), t⟩
    · cases h
  · cases h
/-- a list: H itself holds it (never a locked one) or it is locked -/
theorem lst_seq (I : MOk K fa ρ Z H m) {d : D} {v : V} {xs : List D} (r : RelD K fa ρ Z H d v) (h : lstOf m d = some xs) : ∃ p vs, v = .ref p ∧ H p = some (.lst vs) ∧ RelDs K fa ρ Z H xs vs := by
  unfold lstOf at h
  split at h
  · cases h
    obtain ⟨p, vs, e, q, _, t⟩ := r
    exact ⟨p, vs, e, q, t⟩
  · split at h
    · rename_i hx
      cases h
      obtain ⟨p, e, hp⟩ := r
      obtain ⟨p', vs, hp', _, hv, t⟩ := I.get hx
      rw [hp] at hp'
      cases hp'
      exact ⟨p, vs, e, hv, t⟩
    · cases h
  · cases h
theorem atI_of {xs : List D} {vs : List V} {i : Int} {d : D} (r : RelDs K fa ρ Z H xs vs) (h : ((ixD xs.length i).bind fun j => xs[j]?) = some d) : ∃ v, atI vs i = some v ∧ RelD K fa ρ Z H d v := by
  obtain ⟨j, h1, h2⟩ := Option.bind_eq_some_iff.mp h
  obtain ⟨v, h3, h4⟩ := r.get h2
  refine ⟨v, ?_, h4⟩
  unfold atI
  have e : ixN vs.length i = some j := by
    rw [← r.length]
    exact h1
  rw [e]
  exact h3
theorem cut_rel {xs : List D} {vs : List V} (r : RelDs K fa ρ Z H xs vs) (lo hi : Option Int) : RelDs K fa ρ Z H (cutD xs lo hi) (cutV vs lo hi) := by
  have e : ∀ (n d : Nat) (o : Option Int), cutIx n d o = HT.sIx n d o := fun n d o => by
    cases o <;> rfl
  unfold cutD cutV
  rw [e, e, ← r.length]
  exact (r.drop _).take _
theorem allBl_rel : ∀ {xs : List D} {bs : List Bool} {vs : List V}, allBl xs = some bs → RelDs K fa ρ Z H xs vs → vs = bs.map V.bl
  | [], bs, vs, h, r => by
    cases (show some ([] : List Bool) = some bs from h)
    exact r
  | x :: xs, bs, vs, h, r => by
    obtain ⟨v, t, rfl, q, r⟩ := r
    cases x with
    | bl b =>
      have h' : (allBl xs).map (b :: ·) = some bs := h
      obtain ⟨cs, h1, rfl⟩ := Option.map_eq_some_iff.mp h'
      rw [allBl_rel h1 r, show v = .bl b from q]
      rfl
    | _ => cases h
theorem allInt_rel : ∀ {xs : List D} {bs : List Int} {vs : List V}, allInt xs = some bs → RelDs K fa ρ Z H xs vs → vs = bs.map V.int
  | [], bs, vs, h, r => by
    cases (show some ([] : List Int) = some bs from h)
    exact r
  | x :: xs, bs, vs, h, r => by
    obtain ⟨v, t, rfl, q, r⟩ := r
    cases x with
    | int b =>
      have h' : (allInt xs).map (b :: ·) = some bs := h
      obtain ⟨cs, h1, rfl⟩ := Option.map_eq_some_iff.mp h'
      rw [allInt_rel h1 r, show v = .int b from q]
      rfl
    | _ => cases h
end
section
variable {X : Cx} {fa : Nat → Addr}
theorem new_lst {K : PySem.W.Frag} {ρ : List Addr} {Z : Addr → Prop} {H : Hp} {m : M} {Q : VK} {zs : List D} {ws : List V} {t : Addr} (MO : MOk K fa ρ Z H m)
    (k : ∀ ρ' Z' H' v, Step ρ Z H ρ' Z' H' → MOk K fa ρ' Z' H' m → RelD K fa ρ' Z' H' (.lst zs) v → Q v H') (ht : H t = none) (r : RelDs K fa ρ Z H zs ws) : Q (.ref t) (upd H t (.lst ws)) :=
  k ρ Z _ _ (Step.laid ht) (MO.laid ht) ⟨t, ws, rfl, upd_same, fun z => by have q := MO.hot t z; rw [ht] at q; exact q, RelDs.mono (Step.laid ht) MO.hot _ _ r⟩
theorem opB (o : Operator) : OpR X (binaryOp o) (rBin X.K fa fun m => evBin m o) := by
  intro pins s σ H x y v u Q I rx ry h
  obtain ⟨ρ, Z, m, dx, dy, d, MO, r1, r2, hg, k⟩ := h
  cases o with
  | Add =>
    rcases add_shape hg with ⟨i, j, rfl, rfl, rfl⟩ | ⟨xs, ys, rfl, rfl, hl, rfl⟩ | ⟨zs, hz, rfl⟩
    · cases (show x = _ from r1)
      cases (show y = _ from r2)
      exact op_add pins s σ H _ _ v u Q I rx ry ⟨_, _, rfl, rfl, k ρ Z H _ Step.refl MO rfl⟩
    · obtain ⟨p, vs, rfl, hp, q⟩ := r1
      obtain ⟨p2, ws, rfl, hp2, q2⟩ := r2
      have l1 := q.length
      have l2 := q2.length
      refine op_catA pins s σ H _ _ v u Q I rx ry ⟨p, p2, vs, ws, rfl, rfl, hp, hp2, ?_, fun e => ?_, fun _ e => ?_, fun _ _ t ht => ?_⟩
      · have := line_le hl
        omega
      · have e2 : xs = [] := List.length_eq_zero_iff.mp (by rw [l1, e]; rfl)
        subst e2
        exact k ρ Z H _ Step.refl MO ⟨p2, ws, rfl, hp2, q2⟩
      · have e2 : ys = [] := List.length_eq_zero_iff.mp (by rw [l2, e]; rfl)
        subst e2
        exact k ρ Z H _ Step.refl MO ⟨p, vs, rfl, hp, by rw [List.append_nil]; exact q⟩
      · exact k ρ Z _ _ (Step.laid ht) (MO.laid ht) ⟨t, vs ++ ws, rfl, SqT.of upd_same, RelDs.mono (Step.laid ht) MO.hot _ _ (q.append q2)⟩
    · obtain ⟨xs, ys, h1, h2, hl, rfl⟩ := catL_shape hz
      obtain ⟨p, vs, rfl, hp, q⟩ := lst_seq MO r1 h1
      obtain ⟨p2, ws, rfl, hp2, q2⟩ := lst_seq MO r2 h2
      have l1 := q.length
      have l2 := q2.length
      have := line_le hl
      exact op_cat pins s σ H _ _ v u Q I rx ry ⟨p, p2, vs, ws, rfl, rfl, hp, hp2, by omega, fun t ht => new_lst MO k ht (q.append q2)⟩
  | Sub =>
    obtain ⟨i, j, rfl, rfl, rfl⟩ := sub_shape hg
    cases (show x = _ from r1)
    cases (show y = _ from r2)
    exact op_sub pins s σ H _ _ v u Q I rx ry ⟨_, _, rfl, rfl, k ρ Z H _ Step.refl MO rfl⟩
  | Mult =>
    rcases mul_shape hg with ⟨i, j, rfl, rfl, hc, rfl⟩ | ⟨xs, i, rfl, rfl, ne, h2, h3, h4, rfl⟩ | ⟨zs, hz, rfl⟩
    · cases (show x = _ from r1)
      cases (show y = _ from r2)
      unfold mulOk at hc
      simp only [Bool.or_eq_true, Bool.and_eq_true, decide_eq_true_eq] at hc
      rcases hc with hc | hc
      · exact op_mul pins s σ H _ _ v u Q I rx ry ⟨_, _, rfl, rfl, hc, k ρ Z H _ Step.refl MO rfl⟩
      · exact op_mulW pins s σ H _ _ v u Q I rx ry ⟨_, _, rfl, rfl, hc, k ρ Z H _ Step.refl MO rfl⟩
    · obtain ⟨p, vs, rfl, hp, q⟩ := r1
      cases (show y = _ from r2)
      have l1 := q.length
      refine op_repT pins s σ H _ _ v u Q I rx ry ⟨p, i, vs, rfl, rfl, hp, fun e => ne (List.length_eq_zero_iff.mp (by rw [l1, e]; rfl)), h2, h3, by omega, fun t ht => ?_⟩
      exact k ρ Z _ _ (Step.laid ht) (MO.laid ht) ⟨t, _, rfl, SqT.of upd_same, RelDs.mono (Step.laid ht) MO.hot _ _ (RelDs.rep _ q)⟩
    · obtain ⟨xs, i, h1, rfl, h3, hl, h5, rfl⟩ := repL_shape hz
      obtain ⟨p, vs, rfl, hp, q⟩ := lst_seq MO r1 h1
      cases (show y = _ from r2)
      have := line_le hl
      exact op_rep pins s σ H _ _ v u Q I rx ry ⟨p, i, vs, rfl, rfl, hp, h5, by omega, by rw [← q.length]; exact this, fun t ht => new_lst MO k ht (RelDs.rep _ q)⟩
  | FloorDiv =>
    obtain ⟨i, j, rfl, rfl, hc, rfl⟩ := fdiv_shape hg
    cases (show x = _ from r1)
    cases (show y = _ from r2)
    unfold divOk at hc
    simp only [Bool.and_eq_true, decide_eq_true_eq] at hc
    exact op_fdivW pins s σ H _ _ v u Q I rx ry ⟨_, _, rfl, rfl, hc, k ρ Z H _ Step.refl MO rfl⟩
  | Mod =>
    obtain ⟨i, j, rfl, rfl, hc, rfl⟩ := mod_shape hg
    cases (show x = _ from r1)
    cases (show y = _ from r2)
    exact op_mod pins s σ H _ _ v u Q I rx ry ⟨_, _, rfl, rfl, hc, k ρ Z H _ Step.refl MO rfl⟩
  | Pow =>
    obtain ⟨i, j, rfl, rfl, hc, rfl⟩ := pow_shape hg
    cases (show x = _ from r1)
    cases (show y = _ from r2)
    unfold powOk at hc
    simp only [Bool.and_eq_true, decide_eq_true_eq] at hc
    exact op_pow pins s σ H _ _ v u Q I rx ry ⟨_, _, rfl, rfl, ⟨hc.1.1, hc.1.2, hc.2⟩, k ρ Z H _ Step.refl MO rfl⟩
  | _ => cases (show (none : Option D) = some d from hg)
theorem opC (hu : X.A.units + 64 < cLine) (o : CmpOp) : OpR X (compareOp o) (rCmp X.K fa (evCmp o)) := by
  intro pins s σ H x y v u Q I rx ry h
  obtain ⟨ρ, Z, m, dx, dy, b, MO, r1, r2, hg, k⟩ := h
  cases o with
  | Lt =>
    obtain ⟨i, j, rfl, rfl, rfl⟩ := cmpI_shape hg
    cases (show x = _ from r1)
    cases (show y = _ from r2)
    exact op_lt pins s σ H _ _ v u Q I rx ry ⟨_, _, rfl, rfl, k⟩
  | LtE =>
    obtain ⟨i, j, rfl, rfl, rfl⟩ := cmpI_shape hg
    cases (show x = _ from r1)
    cases (show y = _ from r2)
    exact op_le pins s σ H _ _ v u Q I rx ry ⟨_, _, rfl, rfl, k⟩
  | Gt =>
    obtain ⟨i, j, rfl, rfl, rfl⟩ := cmpI_shape hg
    cases (show x = _ from r1)
    cases (show y = _ from r2)
    exact op_gt pins s σ H _ _ v u Q I rx ry ⟨_, _, rfl, rfl, k⟩
  | GtE =>
    obtain ⟨i, j, rfl, rfl, rfl⟩ := cmpI_shape hg
    cases (show x = _ from r1)
    cases (show y = _ from r2)
    exact op_ge pins s σ H _ _ v u Q I rx ry ⟨_, _, rfl, rfl, k⟩
  | Eq =>
    have g : evEq dx dy = some b := hg
    unfold evEq at g
    split at g
    · rename_i ok
      rw [Bool.and_eq_true] at ok
      cases g
      refine op_eqD hu pins s σ H _ _ v u Q I rx ry ⟨toPy dx, toPy dy, RelD.dp dx 40 x ok.1 r1, RelD.dp dy 40 y ok.2 r2, okD_shaped ok.1, okD_shaped ok.2, ?_⟩
      rw [← eqd_eqv dx dy 40 40 ok.1 ok.2]
      exact k
    · cases g
  | NotEq =>
    have g : (evEq dx dy).map (!·) = some b := hg
    obtain ⟨b', g1, rfl⟩ := Option.map_eq_some_iff.mp g
    clear g hg
    unfold evEq at g1
    split at g1
    · rename_i ok
      rw [Bool.and_eq_true] at ok
      cases g1
      refine op_neD hu pins s σ H _ _ v u Q I rx ry ⟨toPy dx, toPy dy, RelD.dp dx 40 x ok.1 r1, RelD.dp dy 40 y ok.2 r2, okD_shaped ok.1, okD_shaped ok.2, ?_⟩
      rw [← eqd_eqv dx dy 40 40 ok.1 ok.2]
      exact k
    · cases g1
  | Is =>
    have g : evIs dx dy = some b := hg
    unfold evIs at g
    split at g
    · cases g
      refine op_isN pins s σ H _ _ v u Q I rx ry ⟨r2, ?_⟩
      rw [RelD.nonIff r1]
      exact k
    · cases g
  | IsNot =>
    have g : (evIs dx dy).map (!·) = some b := hg
    obtain ⟨b', g1, rfl⟩ := Option.map_eq_some_iff.mp g
    clear g hg
    unfold evIs at g1
    split at g1
    · cases g1
      refine op_notN pins s σ H _ _ v u Q I rx ry ⟨r2, ?_⟩
      rw [RelD.nonIff r1]
      exact k
    · cases g1
  | _ => cases (show (none : Option Bool) = some b from hg)
end
section
variable {X : Cx} {fa : Nat → Addr}
theorem idx_shape {m : M} {a i d : D} (h : evIdx m a i = some d) : ∃ k xs, i = .int k ∧ itemsOf m a = some xs ∧ ((ixD xs.length k).bind fun j => xs[j]?) = some d := by
  unfold evIdx at h
  split at h
  · obtain ⟨xs, h1, h2⟩ := Option.bind_eq_some_iff.mp h
    exact ⟨_, xs, rfl, h1, h2⟩
  · cases h
theorem ixD_rule : IxR X (rBin X.K fa fun m => evIdx m) := by
  refine L2.IxR.imp (ix_list.or ix_tup) fun x y H Q h => ?_
  obtain ⟨ρ, Z, m, dx, dy, d, MO, r1, r2, hg, k⟩ := h
  obtain ⟨i, xs, rfl, h1, h2⟩ := idx_shape hg
  obtain ⟨p, vs, rfl, hs, q⟩ := items_seq MO r1 h1
  obtain ⟨v, hv, rv⟩ := atI_of q h2
  rcases hs with hs | hs
  · exact .inl ⟨p, vs, i, v, rfl, r2, hs, hv, k ρ Z H v Step.refl MO rv⟩
  · exact .inr ⟨p, vs, i, v, rfl, r2, hs, hv, k ρ Z H v Step.refl MO rv⟩
def rSlc (K : PySem.W.Frag) (fa : Nat → Addr) : V → Option Int → Option Int → Hp → VK → Prop := fun x lo hi H Q => ∃ ρ Z m dx d, MOk K fa ρ Z H m ∧ RelD K fa ρ Z H dx x ∧ evSlc m dx lo hi = some d ∧
  ∀ ρ' Z' H' v, Step ρ Z H ρ' Z' H' → MOk K fa ρ' Z' H' m → RelD K fa ρ' Z' H' d v → Q v H'
theorem lstS_seq {K : PySem.W.Frag} {ρ : List Addr} {Z : Addr → Prop} {H : Hp} {m : M} (I : MOk K fa ρ Z H m) {d : D} {v : V} {xs : List D} (r : RelD K fa ρ Z H d v) (h : lstOfS m d = some xs) : ∃ p vs, v = .ref p ∧ SqL K H p vs ∧ RelDs K fa ρ Z H xs vs := by
  unfold lstOfS at h
  split at h
  · cases h
    obtain ⟨p, vs, e, q, t⟩ := r
    exact ⟨p, vs, e, q.sq, t⟩
  · obtain ⟨p, vs, e, q, t⟩ := lst_seq I r h
    exact ⟨p, vs, e, SqL.of q, t⟩
theorem slc_shape {m : M} {x d : D} {lo hi : Option Int} (h : evSlc m x lo hi = some d) : (∃ xs, x = .tup xs ∧ d = .tup (cutD xs lo hi)) ∨ ∃ xs, lstOfS m x = some xs ∧ d = .lst (cutD xs lo hi) := by
  unfold evSlc at h
  split at h
  · cases h; exact .inl ⟨_, rfl, rfl⟩
  · obtain ⟨xs, h1, rfl⟩ := Option.map_eq_some_iff.mp h
    exact .inr ⟨xs, h1, rfl⟩
theorem cut_whole {xs : List V} {lo hi : Option Int} (h : HT.sIx xs.length 0 lo = 0 ∧ HT.sIx xs.length xs.length hi = xs.length) : cutV xs lo hi = xs := by
  unfold cutV
  rw [h.1, h.2, List.drop_zero, Nat.sub_zero, List.take_length]
theorem slcR : SlR X (rSlc X.K fa) := by
  intro pins s σ H x v vl vu lo hi sl Q I rx hs pl pu h
  obtain ⟨ρ, Z, m, dx, d, MO, r, hg, k⟩ := h
  rcases slc_shape hg with ⟨xs, rfl, rfl⟩ | ⟨xs, h1, rfl⟩
  · obtain ⟨p, vs, rfl, hp, q⟩ := r
    refine sl_tupA pins s σ H _ v vl vu lo hi sl Q I rx hs pl pu ⟨p, vs, rfl, hp, fun w => ?_, fun _ t ht => ?_⟩
    · refine k ρ Z H _ Step.refl MO ⟨p, vs, rfl, hp, ?_⟩
      have e := cut_rel q lo hi
      rw [cut_whole w] at e
      exact e
    · exact k ρ Z _ _ (Step.laid ht) (MO.laid ht) ⟨t, _, rfl, SqT.of upd_same, RelDs.mono (Step.laid ht) MO.hot _ _ (cut_rel q lo hi)⟩
  · obtain ⟨p, vs, rfl, hp, q⟩ := lstS_seq MO r h1
    exact sl_list pins s σ H _ v vl vu lo hi sl Q I rx hs pl pu ⟨p, vs, rfl, hp, fun t ht => new_lst MO k ht (cut_rel q lo hi)⟩
/-! ### built-ins -/
theorem rels_one {K : PySem.W.Frag} {ρ : List Addr} {Z : Addr → Prop} {H : Hp} {a : D} {vs : List V} (r : RelDs K fa ρ Z H [a] vs) : ∃ v, vs = [v] ∧ RelD K fa ρ Z H a v := by
  obtain ⟨v, t, rfl, q, r⟩ := r
  have e : t = [] := r
  exact ⟨v, by rw [e], q⟩
theorem rels_two {K : PySem.W.Frag} {ρ : List Addr} {Z : Addr → Prop} {H : Hp} {a b : D} {vs : List V} (r : RelDs K fa ρ Z H [a, b] vs) : ∃ v w, vs = [v, w] ∧ RelD K fa ρ Z H a v ∧ RelD K fa ρ Z H b w := by
  obtain ⟨v, t, rfl, q, r⟩ := r
  obtain ⟨w, rfl, q2⟩ := rels_one r
  exact ⟨v, w, rfl, q, q2⟩
/-- the value that a built-in's name stands for -/
def bltV : Blt → Value
  | .len => .builtin "len"
  | .abs => .builtin "abs"
  | .toInt => .type "int"
  | .all => .builtin "all"
  | .any => .builtin "any"
  | .toTuple => .type "tuple"
  | .sum => .builtin "sum"
  | .max2 => .builtin "max"
  | .min2 => .builtin "min"
theorem one_shape {f : D → Option D} {ds : List D} {d : D} (h : one f ds = some d) : ∃ a, ds = [a] ∧ f a = some d := by
  unfold one at h
  split at h
  · exact ⟨_, rfl, h⟩
  · cases h
theorem two_shape {f : D → D → Option D} {ds : List D} {d : D} (h : two f ds = some d) : ∃ a b, ds = [a, b] ∧ f a b = some d := by
  unfold two at h
  split at h
  · exact ⟨_, _, rfl, h⟩
  · cases h
theorem len_shape {m : M} {ds : List D} {d : D} (h : evBlt m .len ds = some d) : ∃ a xs, ds = [a] ∧ itemsOf m a = some xs ∧ d = .int xs.length := by
  obtain ⟨a, rfl, h⟩ := one_shape h
  obtain ⟨xs, h1, rfl⟩ := Option.map_eq_some_iff.mp h
  exact ⟨a, xs, rfl, h1, rfl⟩
theorem abs_shape {m : M} {ds : List D} {d : D} (h : evBlt m .abs ds = some d) : ∃ i, ds = [.int i] ∧ d = .int (if i < 0 then -i else i) := by
  obtain ⟨a, rfl, h⟩ := one_shape (f := evAbs) h
  have h : evAbs a = some d := h
  unfold evAbs at h
  split at h
  · cases h; exact ⟨_, rfl, rfl⟩
  · cases h
theorem toInt_shape {m : M} {ds : List D} {d : D} (h : evBlt m .toInt ds = some d) : (∃ i, ds = [.int i] ∧ d = .int i) ∨ ∃ b, ds = [.bl b] ∧ d = .int (if b then 1 else 0) := by
  obtain ⟨a, rfl, h⟩ := one_shape (f := evToInt) h
  have h : evToInt a = some d := h
  unfold evToInt at h
  split at h
  · cases h; exact .inl ⟨_, rfl, rfl⟩
  · cases h; exact .inr ⟨_, rfl, rfl⟩
  · cases h
theorem all_shape {m : M} {ds : List D} {d : D} (h : evBlt m .all ds = some d) : ∃ a xs bs, ds = [a] ∧ lstOf m a = some xs ∧ allBl xs = some bs ∧ d = .bl (bs.all id) := by
  obtain ⟨a, rfl, h⟩ := one_shape h
  obtain ⟨xs, h1, h2⟩ := Option.bind_eq_some_iff.mp h
  obtain ⟨bs, h3, rfl⟩ := Option.map_eq_some_iff.mp h2
  exact ⟨a, xs, bs, rfl, h1, h3, rfl⟩
theorem any_shape {m : M} {ds : List D} {d : D} (h : evBlt m .any ds = some d) : ∃ a xs bs, ds = [a] ∧ lstOf m a = some xs ∧ allBl xs = some bs ∧ d = .bl (bs.any id) := by
  obtain ⟨a, rfl, h⟩ := one_shape h
  obtain ⟨xs, h1, h2⟩ := Option.bind_eq_some_iff.mp h
  obtain ⟨bs, h3, rfl⟩ := Option.map_eq_some_iff.mp h2
  exact ⟨a, xs, bs, rfl, h1, h3, rfl⟩
theorem sum_shape {m : M} {ds : List D} {d : D} (h : evBlt m .sum ds = some d) : ∃ a xs bs, ds = [a] ∧ lstOf m a = some xs ∧ allInt xs = some bs ∧ d = .int bs.sum := by
  obtain ⟨a, rfl, h⟩ := one_shape h
  obtain ⟨xs, h1, h2⟩ := Option.bind_eq_some_iff.mp h
  obtain ⟨bs, h3, rfl⟩ := Option.map_eq_some_iff.mp h2
  exact ⟨a, xs, bs, rfl, h1, h3, rfl⟩
theorem toTuple_shape {m : M} {ds : List D} {d : D} (h : evBlt m .toTuple ds = some d) : ∃ a xs, ds = [a] ∧ itemsOf m a = some xs ∧ d = .tup xs := by
  obtain ⟨a, rfl, h⟩ := one_shape h
  obtain ⟨xs, h1, rfl⟩ := Option.map_eq_some_iff.mp h
  exact ⟨a, xs, rfl, h1, rfl⟩
theorem max_shape {m : M} {ds : List D} {d : D} (h : evBlt m .max2 ds = some d) : ∃ i j, ds = [.int i, .int j] ∧ d = .int (if j > i then j else i) := by
  obtain ⟨a, b, rfl, h⟩ := two_shape (f := evMax2) h
  have h : evMax2 a b = some d := h
  unfold evMax2 at h
  split at h
  · cases h; exact ⟨_, _, rfl, rfl⟩
  · cases h
theorem min_shape {m : M} {ds : List D} {d : D} (h : evBlt m .min2 ds = some d) : ∃ i j, ds = [.int i, .int j] ∧ d = .int (if j < i then j else i) := by
  obtain ⟨a, b, rfl, h⟩ := two_shape (f := evMin2) h
  have h : evMin2 a b = some d := h
  unfold evMin2 at h
  split at h
  · cases h; exact ⟨_, _, rfl, rfl⟩
  · cases h
theorem bltR (hc : X.calm = true) (b : Blt) : CallR X (bltV b) (rBlt X.K fa fun m => evBlt m b) := by
  intro pins s σ H vs us Q I rx h
  obtain ⟨ρ, Z, m, ds, d, MO, r, hg, k⟩ := h
  cases b with
  | len =>
    obtain ⟨a, xs, rfl, h1, rfl⟩ := len_shape hg
    obtain ⟨v, rfl, q⟩ := rels_one r
    obtain ⟨p, ws, rfl, hs, t⟩ := items_seq MO q h1
    refine call_len_seq pins s σ H _ us Q I rx ⟨p, ws, rfl, hs, ?_⟩
    rw [← t.length]
    exact k ρ Z H _ Step.refl MO rfl
  | abs =>
    obtain ⟨i, rfl, rfl⟩ := abs_shape hg
    obtain ⟨v, rfl, q⟩ := rels_one r
    cases (show v = _ from q)
    exact call_abs pins s σ H _ us Q I rx ⟨i, rfl, k ρ Z H _ Step.refl MO rfl⟩
  | toInt =>
    rcases toInt_shape hg with ⟨i, rfl, rfl⟩ | ⟨b, rfl, rfl⟩
    · obtain ⟨v, rfl, q⟩ := rels_one r
      cases (show v = _ from q)
      exact call_int1 pins s σ H _ us Q I rx (.inl ⟨i, rfl, k ρ Z H _ Step.refl MO rfl⟩)
    · obtain ⟨v, rfl, q⟩ := rels_one r
      cases (show v = _ from q)
      exact call_int1 pins s σ H _ us Q I rx (.inr ⟨b, rfl, k ρ Z H _ Step.refl MO rfl⟩)
  | all =>
    obtain ⟨a, xs, bs, rfl, h1, h2, rfl⟩ := all_shape hg
    obtain ⟨v, rfl, q⟩ := rels_one r
    obtain ⟨p, ws, rfl, hs, t⟩ := lst_seq MO q h1
    refine cr_all hc pins s σ H _ us Q I rx ⟨p, bs, rfl, SqL.of ?_, k ρ Z H _ Step.refl MO rfl⟩
    rw [← allBl_rel h2 t]
    exact hs
  | any =>
    obtain ⟨a, xs, bs, rfl, h1, h2, rfl⟩ := any_shape hg
    obtain ⟨v, rfl, q⟩ := rels_one r
    obtain ⟨p, ws, rfl, hs, t⟩ := lst_seq MO q h1
    refine cr_any hc pins s σ H _ us Q I rx ⟨p, bs, rfl, SqL.of ?_, k ρ Z H _ Step.refl MO rfl⟩
    rw [← allBl_rel h2 t]
    exact hs
  | sum =>
    obtain ⟨a, xs, bs, rfl, h1, h2, rfl⟩ := sum_shape hg
    obtain ⟨v, rfl, q⟩ := rels_one r
    obtain ⟨p, ws, rfl, hs, t⟩ := lst_seq MO q h1
    refine cr_sum hc pins s σ H _ us Q I rx ⟨p, bs, rfl, SqL.of ?_, k ρ Z H _ Step.refl MO rfl⟩
    rw [← allInt_rel h2 t]
    exact hs
  | toTuple =>
    obtain ⟨a, xs, rfl, h1, rfl⟩ := toTuple_shape hg
    obtain ⟨v, rfl, q⟩ := rels_one r
    obtain ⟨p, ws, rfl, hs, t⟩ := items_seq MO q h1
    rcases hs with hs | hs
    · refine call_tuple_of pins s σ H _ us Q I rx ⟨p, ws, rfl, .inl ⟨hs, fun l hl => ?_⟩⟩
      exact k ρ Z _ _ (Step.laid hl) (MO.laid hl) ⟨l, ws, rfl, SqT.of upd_same, RelDs.mono (Step.laid hl) MO.hot _ _ t⟩
    · exact call_tuple_of pins s σ H _ us Q I rx ⟨p, ws, rfl, .inr ⟨hs, k ρ Z H _ Step.refl MO ⟨p, ws, rfl, hs, t⟩⟩⟩
  | max2 =>
    obtain ⟨i, j, rfl, rfl⟩ := max_shape hg
    obtain ⟨v, w, rfl, q1, q2⟩ := rels_two r
    cases (show v = _ from q1)
    cases (show w = _ from q2)
    exact call_max2 hc pins s σ H _ us Q I rx ⟨i, j, rfl, k ρ Z H _ Step.refl MO rfl⟩
  | min2 =>
    obtain ⟨i, j, rfl, rfl⟩ := min_shape hg
    obtain ⟨v, w, rfl, q1, q2⟩ := rels_two r
    cases (show v = _ from q1)
    cases (show w = _ from q2)
    exact call_min2 hc pins s σ H _ us Q I rx ⟨i, j, rfl, k ρ Z H _ Step.refl MO rfl⟩
end
end Dx
/-! Dx, part 7: walks, isinstance, truth, fresh lists. -/
namespace Dx
open PySem PySem.Spec PyProof.Rows L2
/-- J walks xs, whatever happens meanwhile -/
def Goes (K : PySem.W.Frag) (fa : Nat → Addr) (J : It) (xs : List D) (ρ : List Addr) (Z : Addr → Prop) (H : Hp) : Prop :=
  ∀ ρ' Z' H', Step ρ Z H ρ' Z' H' → Hot Z' H' → (∀ (i : Nat) (d : D), xs[i]? = some d → J.go i H' ∧ ∀ v H'', J.yld i H' v H'' →
    Step ρ' Z' H' ρ' Z' H'' ∧ (∀ m, MOk K fa ρ' Z' H' m → MOk K fa ρ' Z' H'' m) ∧ RelD K fa ρ' Z' H'' d v) ∧ J.stop xs.length H'
section
variable {K : PySem.W.Frag} {fa : Nat → Addr} {ρ : List Addr} {Z : Addr → Prop} {H : Hp}
/-- a list that stands still: by what stays through steps -/
theorem goes_list {p : Addr} {vs : List V} {xs : List D} (hs : ∀ ρ' Z' H', Step ρ Z H ρ' Z' H' → SqL K H' p vs) (hot : Hot Z H) (r : RelDs K fa ρ Z H xs vs) : Goes K fa (Itl K p) xs ρ Z H := by
  intro ρ' Z' H' s hot'
  have q := hs ρ' Z' H' s
  have r' := RelDs.mono s hot xs vs r
  refine ⟨fun i d hd => ?_, vs, q, by rw [r.length]; exact Nat.le_refl _⟩
  obtain ⟨v, hv, rv⟩ := r'.get hd
  refine ⟨⟨vs, v, q, hv⟩, fun w H'' y => ?_⟩
  obtain ⟨rfl, y⟩ := y
  have e := y vs q
  rw [hv] at e
  cases e
  exact ⟨Step.refl, fun _ h => h, rv⟩
theorem goes_tup {p : Addr} {vs : List V} {xs : List D} (h : SqT K H p vs) (hot : Hot Z H) (r : RelDs K fa ρ Z H xs vs) : Goes K fa (Itt K p) xs ρ Z H := by
  intro ρ' Z' H' s hot'
  have q := SqT.mono s hot h
  have r' := RelDs.mono s hot xs vs r
  refine ⟨fun i d hd => ?_, vs, q, by rw [r.length]; exact Nat.le_refl _⟩
  obtain ⟨v, hv, rv⟩ := r'.get hd
  refine ⟨⟨vs, v, q, hv⟩, fun w H'' y => ?_⟩
  obtain ⟨rfl, y⟩ := y
  have e := y vs q
  rw [hv] at e
  cases e
  exact ⟨Step.refl, fun _ h => h, rv⟩
theorem goes_range {lo : Int} {n : Nat} : Goes K fa (Itr lo n) ((List.range n).map fun (k : Nat) => .int (lo + k)) ρ Z H := by
  intro ρ' Z' H' s hot'
  refine ⟨fun i d hd => ?_, by show n ≤ _; simp⟩
  rw [List.getElem?_map] at hd
  obtain ⟨j, hj, rfl⟩ := Option.map_eq_some_iff.mp hd
  obtain ⟨hi, e⟩ := List.getElem?_eq_some_iff.mp hj
  rw [List.getElem_range] at e
  subst e
  refine ⟨show i < n by simpa using hi, fun v H'' y => ?_⟩
  obtain ⟨rfl, rfl⟩ := y
  exact ⟨Step.refl, fun _ h => h, rfl⟩
theorem pair_new {T : Addr} {x y : D} {v w : V} {ρ' : List Addr} {Z' : Addr → Prop} {H' : Hp} (hot' : Hot Z' H') (hT : H' T = none) (r1 : RelD K fa ρ' Z' H' x v) (r2 : RelD K fa ρ' Z' H' y w) :
    Step ρ' Z' H' ρ' Z' (upd H' T (.tup [v, w])) ∧ (∀ m, MOk K fa ρ' Z' H' m → MOk K fa ρ' Z' (upd H' T (.tup [v, w])) m) ∧ RelD K fa ρ' Z' (upd H' T (.tup [v, w])) (.tup [x, y]) (.ref T) :=
  ⟨Step.laid hT, fun m I => I.laid hT, T, [v, w], rfl, SqT.of upd_same, v, [w], rfl, RelD.mono (Step.laid hT) hot' x v r1, w, [], rfl, RelD.mono (Step.laid hT) hot' y w r2, rfl⟩
theorem goes_enum {p : Addr} {vs : List V} {xs : List D} (hs : ∀ ρ' Z' H', Step ρ Z H ρ' Z' H' → SqL K H' p vs) (hot : Hot Z H) (r : RelDs K fa ρ Z H xs vs) :
    Goes K fa (Ite K p) (xs.zipIdx.map fun q => .tup [.int q.2, q.1]) ρ Z H := by
  intro ρ' Z' H' s hot'
  have q := hs ρ' Z' H' s
  have r' := RelDs.mono s hot xs vs r
  refine ⟨fun i d hd => ?_, vs, q, by simp [r.length]⟩
  rw [List.getElem?_map, List.getElem?_zipIdx] at hd
  obtain ⟨z, hz, rfl⟩ := Option.map_eq_some_iff.mp hd
  obtain ⟨d, hd1, rfl⟩ := Option.map_eq_some_iff.mp hz
  obtain ⟨v, hv, rv⟩ := r'.get hd1
  refine ⟨⟨vs, v, q, hv⟩, fun w H'' y => ?_⟩
  obtain ⟨T, x, rfl, hT, rfl, hx⟩ := y
  have e := hx vs q
  rw [hv] at e
  cases e
  have e0 : (0 + i) = i := Nat.zero_add i
  rw [e0]
  exact pair_new hot' hT rfl rv
theorem goes_zip {p p2 : Addr} {vs ws : List V} {xs ys : List D} (hs : ∀ ρ' Z' H', Step ρ Z H ρ' Z' H' → SqL K H' p vs) (hs2 : ∀ ρ' Z' H', Step ρ Z H ρ' Z' H' → SqL K H' p2 ws) (hot : Hot Z H) (r : RelDs K fa ρ Z H xs vs) (r2 : RelDs K fa ρ Z H ys ws) :
    Goes K fa (Itz K p p2) (List.zipWith (fun a b => .tup [a, b]) xs ys) ρ Z H := by
  intro ρ' Z' H' s hot'
  have q := hs ρ' Z' H' s
  have q2 := hs2 ρ' Z' H' s
  have r' := RelDs.mono s hot xs vs r
  have r2' := RelDs.mono s hot ys ws r2
  refine ⟨fun i d hd => ?_, vs, ws, q, q2, ?_⟩
  · rw [List.getElem?_zipWith] at hd
    split at hd
    · rename_i a b ha hb
      cases hd
      obtain ⟨v, hv, rv⟩ := r'.get ha
      obtain ⟨w, hw, rw_⟩ := r2'.get hb
      refine ⟨⟨vs, ws, v, w, q, q2, hv, hw⟩, fun u H'' y => ?_⟩
      obtain ⟨T, x, z, rfl, hT, rfl, hx, hz⟩ := y
      have e := hx vs q
      rw [hv] at e
      cases e
      have e := hz ws q2
      rw [hw] at e
      cases e
      exact pair_new hot' hT rv rw_
    · cases hd
  · have l1 := r.length
    have l2 := r2.length
    rw [List.length_zipWith]
    omega
theorem goes_zipT {p p2 : Addr} {vs ws : List V} {xs ys : List D} (hs : SqT K H p vs) (hs2 : SqT K H p2 ws) (hot : Hot Z H) (r : RelDs K fa ρ Z H xs vs) (r2 : RelDs K fa ρ Z H ys ws) :
    Goes K fa (RZ.ItzT K p p2) (List.zipWith (fun a b => .tup [a, b]) xs ys) ρ Z H := by
  intro ρ' Z' H' s hot'
  have q := SqT.mono s hot hs
  have q2 := SqT.mono s hot hs2
  have r' := RelDs.mono s hot xs vs r
  have r2' := RelDs.mono s hot ys ws r2
  refine ⟨fun i d hd => ?_, vs, ws, q, q2, ?_⟩
  · rw [List.getElem?_zipWith] at hd
    split at hd
    · rename_i a b ha hb
      cases hd
      obtain ⟨v, hv, rv⟩ := r'.get ha
      obtain ⟨w, hw, rw_⟩ := r2'.get hb
      refine ⟨⟨vs, ws, v, w, q, q2, hv, hw⟩, fun u H'' y => ?_⟩
      obtain ⟨T, x, z, rfl, hT, rfl, hx, hz⟩ := y
      have e := hx vs q
      rw [hv] at e
      cases e
      have e := hz ws q2
      rw [hw] at e
      cases e
      exact pair_new hot' hT rv rw_
    · cases hd
  · have l1 := r.length
    have l2 := r2.length
    rw [List.length_zipWith]
    omega
theorem Goes.step {J : It} {xs : List D} {ρ1 : List Addr} {Z1 : Addr → Prop} {H1 : Hp} (g : Goes K fa J xs ρ Z H) (hot : Hot Z H) (s : Step ρ Z H ρ1 Z1 H1) : Goes K fa J xs ρ1 Z1 H1 := fun ρ' Z' H' t h => g ρ' Z' H' (s.trans hot t) h
end
/-! ### a list or a tuple, walked -/
theorem pi_dyn {X : Cx} {tg l : Expr} {tl : TE} (hl : PE X l tl) :
    PI X tg l (fun σ H R => tl σ H fun x H1 => ∃ a, x = .ref a ∧ ((∃ xs, SqL X.K H1 a xs ∧ R (Itl X.K a) H1) ∨ ∃ xs, SqT X.K H1 a xs ∧ R (Itt X.K a) H1)) := by
  refine ⟨fun pins s σ H R I h => thn (hl.run pins s σ H _ I h) fun v s1 w => ?_⟩
  obtain ⟨x, H1, J, rx, a, rfl, w⟩ := w
  cases rx
  have fp : ∀ b ∈ [s1.heap.objs.size], FpOk X pins H1 b := fun b hb => by
    rw [List.mem_singleton.mp hb]
    exact J.fpOk (Nat.le_refl _) (J.hok.fresh (Nat.le_refl _))
  rcases w with ⟨xs, hx, w⟩ | ⟨xs, hx, w⟩
  · obtain ⟨its, _, pl, _⟩ := J.list hx
    refine wpAny_pyIter_list pl.isList ⟨_, [s1.heap.objs.size], _, _, H1, rfl, J.kept (t' := s1.toks) ?_, turn_list a _, ⟨_, Heap.get?_push_size _ rfl, rfl, rfl⟩, fp, w⟩
    exact fun b o e => Heap.get?_push_of_some _ e
  · obtain ⟨its, _, pl, _⟩ := J.tuple hx
    refine wpAny_pyIter_tuple (show s1.heap.IsTuple a its.toArray from pl) ⟨_, [s1.heap.objs.size], _, _, H1, rfl, J.kept (t' := s1.toks) ?_, turn_tuple a _, ⟨_, Heap.get?_push_size _ rfl, rfl, rfl⟩, fp, w⟩
    exact fun b o e => Heap.get?_push_of_some _ e
/-! ### isinstance -/
def tyN : Ty → String
  | .tInt => "int"
  | .tBool => "bool"
  | .tStr => "str"
  | .tList => "list"
  | .tTuple => "tuple"
section
variable {K : PySem.W.Frag} {fa : Nat → Addr} {ρ : List Addr} {Z : Addr → Prop} {H : Hp} {m : M}
theorem ty_of (I : MOk K fa ρ Z H m) {d : D} {v : V} {t : Ty} (r : RelD K fa ρ Z H d v) (h : tyOf m d = some t) : TyX K H v (.type (tyN t)) := by
  unfold tyOf at h
  split at h
  · cases h; cases (show v = _ from r); exact .base (.bl _)
  · cases h; cases (show v = _ from r); exact .base (.int _)
  · cases h; cases (show v = _ from r); exact .base (.str _)
  · cases h
    obtain ⟨p, vs, rfl, hs, _⟩ := r
    rcases hs with (hs | ⟨o, hs⟩) | ⟨o, its, n, hk, hc, _⟩
    · exact .base (.tup hs)
    · exact .fTuple hs
    · exact .kTuple hk hc
  · cases h
    obtain ⟨p, vs, rfl, hs, _⟩ := r
    exact .base (.lst hs)
  · split at h
    · rename_i hx
      cases h
      obtain ⟨p, rfl, hp⟩ := r
      obtain ⟨p', vs, hp', _, hv, _⟩ := I.get hx
      rw [hp] at hp'
      cases hp'
      exact .base (.lst hv)
    · cases h
  · cases h
theorem kit_all (t u : Ty) : kitB (tyN t) (tyN u) = some (decide (u = t) || (decide (u = .tInt) && decide (t = .tBool))) := by
  cases t <;> cases u <;> decide +kernel
theorem kit_non (u : Ty) : kitB "NoneType" (tyN u) = some false := by
  cases u <;> decide +kernel
theorem kit_tys (t : Ty) : ∀ ts : List Ty, PySem.W.kitAny K (.type (tyN t)) (ts.map fun u => .type (tyN u)) = some (isTy t ts)
  | [] => kitAny_nil
  | u :: ts => by
    refine kitAny_cons (kit_ty (kit_all t u)) (fun h => ?_) fun h => ?_
    · rw [kit_tys t ts]
      show some (isTy t ts) = some ((decide (u = t) || (decide (u = .tInt) && decide (t = .tBool))) || isTy t ts)
      rw [h]; rfl
    · show ((decide (u = t) || (decide (u = .tInt) && decide (t = .tBool))) || isTy t ts) = true
      rw [h]; rfl
theorem kit_nons : ∀ ts : List Ty, PySem.W.kitAny K (.type "NoneType") (ts.map fun u => .type (tyN u)) = some false
  | [] => kitAny_nil
  | u :: ts => kitAny_cons (kit_ty (kit_non u)) (fun _ => kit_nons ts) fun h => by cases h
end
/-- isinstance(x, c), x by data -/
def rIsD (K : PySem.W.Frag) (fa : Nat → Addr) (ts : List Ty) : V → Hp → VK → Prop := fun x H Q => ∃ ρ Z m dx b, MOk K fa ρ Z H m ∧ RelD K fa ρ Z H dx x ∧ evIsI m dx ts = some b ∧ Q (.bl b) H
theorem isi_ty {K : PySem.W.Frag} {fa : Nat → Addr} {ρ : List Addr} {Z : Addr → Prop} {H : Hp} {m : M} (I : MOk K fa ρ Z H m) {d : D} {x : V} {ts : List Ty} {b : Bool} (r : RelD K fa ρ Z H d x) (h : evIsI m d ts = some b) :
    ∃ t, TyX K H x t ∧ PySem.W.kitAny K t (ts.map fun u => .type (tyN u)) = some b := by
  unfold evIsI at h
  split at h
  · cases h
    cases (show x = _ from r)
    exact ⟨_, .base .non, kit_nons ts⟩
  · obtain ⟨t, h1, rfl⟩ := Option.map_eq_some_iff.mp h
    exact ⟨_, ty_of I r h1, kit_tys t ts⟩
/-! ### truth -/
theorem tru_v {K : PySem.W.Frag} {fa : Nat → Addr} {ρ : List Addr} {Z : Addr → Prop} {H : Hp} {m : M} (I : MOk K fa ρ Z H m) {d : D} {x : V} {k : Bool} (r : RelD K fa ρ Z H d x) (h : evTru m d = some k) : TruV K x H k := by
  unfold evTru at h
  split at h
  · cases h; cases (show x = _ from r); rfl
  · cases h; cases (show x = _ from r); rfl
  · cases h; cases (show x = _ from r); rfl
  · cases h
    obtain ⟨p, vs, rfl, hs, t⟩ := r
    exact .inr (.inl ⟨vs, hs, by rw [t.nil_iff]⟩)
  · cases h
    obtain ⟨p, vs, rfl, hs, _, t⟩ := r
    exact .inl ⟨vs, SqL.of hs, by rw [t.nil_iff]⟩
  · split at h
    · rename_i hx
      cases h
      obtain ⟨p, rfl, hp⟩ := r
      obtain ⟨p', vs, hp', _, hv, t⟩ := I.get hx
      rw [hp] at hp'
      cases hp'
      exact .inl ⟨vs, SqL.of hv, by rw [t.nil_iff]⟩
    · cases h
  · cases h
/-! ### a list that was just made -/
structure Fresh (K : PySem.W.Frag) (fa : Nat → Addr) (ρ : List Addr) (Z : Addr → Prop) (H : Hp) (ρ' : List Addr) (Z' : Addr → Prop) (H' : Hp) (m : M) (ds : List D) (p : Addr) : Prop where
  step : Step ρ Z H ρ' Z' H'
  mok : MOk K fa ρ' Z' H' m
  hot : Z' p
  np : p ∉ ρ'
  new : H p = none
  is_ : ∃ vs, H' p = some (.lst vs) ∧ RelDs K fa ρ' Z' H' ds vs
section
variable {K : PySem.W.Frag} {fa : Nat → Addr} {ρ ρ' : List Addr} {Z Z' : Addr → Prop} {H H' : Hp} {m : M} {ds : List D} {p : Addr}
theorem Fresh.mut (f : Fresh K fa ρ Z H ρ' Z' H' m ds p) (hot : Hot Z H) : Step ρ Z H (ρ' ++ [p]) Z' H' ∧ MOk K fa (ρ' ++ [p]) Z' H' (m ++ [.lst ds]) ∧ RelD K fa (ρ' ++ [p]) Z' H' (.ref m.length) (.ref p) := by
  obtain ⟨vs, hv, r⟩ := f.is_
  have I := f.mok
  have s1 : Step ρ' Z' H' (ρ' ++ [p]) Z' H' → Step ρ Z H (ρ' ++ [p]) Z' H' := f.step.trans hot
  have st : Step ρ Z H (ρ' ++ [p]) Z' H' := by
    obtain ⟨t, e⟩ := f.step.pre
    refine ⟨⟨t ++ [p], by rw [e, List.append_assoc]⟩, fun a h n => ?_, f.step.newz, f.step.keep, f.step.hotk⟩
    rcases List.mem_append.mp h with h | h
    · exact f.step.newr a h n
    · rw [List.mem_singleton.mp h]; exact f.new
  have down : ∀ (xs : List D) (ws : List V), RelDs K fa ρ' Z' H' xs ws → RelDs K fa (ρ' ++ [p]) Z' H' xs ws := fun xs ws h =>
    RelDs.down (n := ρ'.length) (fun i h => by rw [List.getElem?_append_left h]) (fun a h => h) xs ws (RelDs.lt xs ws h) h
  refine ⟨st, ⟨by simp [I.len], ?_, fun a ha => ?_, I.hot, fun i o e ne a ha => ?_⟩, p, rfl, ?_⟩
  · rw [List.nodup_append]
    refine ⟨I.nd, by simp, fun a ha b hb => ?_⟩
    rw [List.mem_singleton.mp hb]
    exact fun z => f.np (z ▸ ha)
  · rcases List.mem_append.mp ha with h | h
    · exact I.there a h
    · rw [List.mem_singleton.mp h, hv]; intro z; cases z
  · by_cases hi : i < m.length
    · rw [List.getElem?_append_left hi] at e
      rw [List.getElem?_append_left (by rw [I.len]; exact hi)] at ha
      obtain ⟨z, ro⟩ := I.live i o e ne a ha
      refine ⟨z, ?_⟩
      cases o with
      | gone => trivial
      | lst zs =>
        obtain ⟨ws, hw, rr⟩ := ro
        exact ⟨ws, hw, down zs ws rr⟩
    · have hi' : i < (m ++ [O.lst ds]).length := (List.getElem?_eq_some_iff.mp e).1
      rw [List.length_append, List.length_singleton] at hi'
      have ei : i = m.length := by omega
      subst ei
      rw [List.getElem?_append_right (Nat.le_refl _), Nat.sub_self] at e
      rw [← I.len, List.getElem?_append_right (Nat.le_refl _), Nat.sub_self] at ha
      cases e
      cases ha
      exact ⟨f.hot, vs, hv, down ds vs r⟩
  · rw [← I.len, List.getElem?_append_right (Nat.le_refl _), Nat.sub_self]; rfl
theorem Fresh.value (f : Fresh K fa ρ Z H ρ' Z' H' m ds p) (hot : Hot Z H) : Step ρ Z H ρ' (fun a => Z' a ∧ a ≠ p) H' ∧ MOk K fa ρ' (fun a => Z' a ∧ a ≠ p) H' m ∧ RelD K fa ρ' (fun a => Z' a ∧ a ≠ p) H' (.lst ds) (.ref p) := by
  obtain ⟨vs, hv, r⟩ := f.is_
  have I := f.mok
  have down : ∀ (xs : List D) (ws : List V), RelDs K fa ρ' Z' H' xs ws → RelDs K fa ρ' (fun a => Z' a ∧ a ≠ p) H' xs ws := fun xs ws h =>
    RelDs.down (n := ρ'.length) (fun i h => rfl) (fun a h => h.1) xs ws (RelDs.lt xs ws h) h
  refine ⟨⟨f.step.pre, f.step.newr, fun a h n => f.step.newz a h.1 n, f.step.keep, fun a h n => ⟨f.step.hotk a h n, fun e => ?_⟩⟩, ⟨I.len, I.nd, I.there, fun a h => I.hot a h.1, fun i o e ne a ha => ?_⟩, p, vs, rfl, hv, fun h => h.2 rfl, down ds vs r⟩
  · have q := hot a h
    rw [e, f.new] at q
    exact q
  · obtain ⟨z, ro⟩ := I.live i o e ne a ha
    refine ⟨⟨z, fun e => f.np (e ▸ List.mem_of_getElem? ha)⟩, ?_⟩
    cases o with
    | gone => trivial
    | lst zs =>
      obtain ⟨ws, hw, rr⟩ := ro
      exact ⟨ws, hw, down zs ws rr⟩
/-- laid behind a step -/
theorem Fresh.of_laid {H1 : Hp} {Z1 : Addr → Prop} {ρ1 : List Addr} {vs : List V} (hot : Hot Z H) (s : Step ρ Z H ρ1 Z1 H1) (I : MOk K fa ρ1 Z1 H1 m) (r : RelDs K fa ρ1 Z1 H1 ds vs) (hp : H1 p = none) :
    Fresh K fa ρ Z H ρ1 (fun a => Z1 a ∨ a = p) (upd H1 p (.lst vs)) m ds p := by
  obtain ⟨I', s'⟩ := I.push (xs := ds) hp r
  have np : p ∉ ρ1 := fun h => I.there p h hp
  have s2 : Step ρ1 Z1 H1 ρ1 (fun a => Z1 a ∨ a = p) (upd H1 p (.lst vs)) := ⟨⟨[], by simp⟩, fun _ h n => absurd h n, s'.newz, s'.keep, s'.hotk⟩
  refine ⟨s.trans hot s2, ⟨I.len, I.nd, fun a h => I'.there a (List.mem_append_left _ h), I'.hot, fun i o e ne a ha => ?_⟩, .inr rfl, np, ?_, vs, upd_same, RelDs.mono s2 I.hot ds vs r⟩
  · obtain ⟨z, ro⟩ := I.live i o e ne a ha
    refine ⟨.inl z, ?_⟩
    have nap : a ≠ p := fun z => np (z ▸ List.mem_of_getElem? ha)
    cases o with
    | gone => trivial
    | lst zs =>
      obtain ⟨ws, hw, rr⟩ := ro
      exact ⟨ws, by rw [upd_ne nap]; exact hw, RelDs.mono s2 I.hot zs ws rr⟩
  · cases q : H p with
    | none => rfl
    | some o =>
      by_cases z : p ∈ ρ
      · exact absurd (s.old z) np
      · rw [s.keep p o q (.inl z)] at hp; cases hp
end
/-- a list made anew, read by a function -/
def tF (K : PySem.W.Frag) (fa ca : Nat → Addr) (P : L2.St → Prop) (W : WX) (f : Env' → M → Res (List D)) : TE :=
  fun σ H Q => P σ ∧ ∃ ρ Z e m, Sim K fa ρ Z H σ e m ∧ PF K fa ca W σ ρ Z H (f e m) (fun ρ' Z' H' m ds p => Fresh K fa ρ Z H ρ' Z' H' m ds p) Q
/-- what is wanted of a walk -/
def PI' (K : PySem.W.Frag) (fa ca : Nat → Addr) (W : WX) (σ : L2.St) (ρ : List Addr) (Z : Addr → Prop) (H : Hp) (r : Res Src) (R : It → Hp → Prop) : Prop := match r with
  | .ok (.seq xs) m => ∀ ρ' Z' H' J, Step ρ Z H ρ' Z' H' → MOk K fa ρ' Z' H' m → Goes K fa J xs ρ' Z' H' → R J H'
  | .ok (.rf r _) m => ∀ ρ' Z' H' p, Step ρ Z H ρ' Z' H' → MOk K fa ρ' Z' H' m → ρ'[r]? = some p → R (Itl K p) H'
  | .err c m => ∀ ρ' Z' H', Step ρ Z H ρ' Z' H' → MOk K fa ρ' Z' H' m → W (.ref (ca c)) none σ H'
  | .bad => False
def tI (K : PySem.W.Frag) (fa ca : Nat → Addr) (P : L2.St → Prop) (W : WX) (f : Env' → M → Res Src) : TI :=
  fun σ H R => P σ ∧ ∃ ρ Z e m, Sim K fa ρ Z H σ e m ∧ PI' K fa ca W σ ρ Z H (f e m) R
end Dx
/-! Dx, part 8: the tie between core text and the program's text. -/
namespace Dx
open PySem PySem.Spec PyProof.Rows L2
/-- names by number: defs, exception classes, constants, built-ins that stand, calls by keywords (def, how many by place, names, order) -/
structure Tab where
  fns : List Str
  cls : List Str
  glo : List (Str × D)
  blt : List Str
  kws : List (Nat × Nat × List Str × List Nat)
structure SC where
  N : List Str
  sc : Scope
  fnb : Str → Bool
  calm : Bool
  exc : Option Nat := none
/-- within a comprehension's block -/
def SC.blk (S : SC) (scope : Scope) : SC := { N := S.N, sc := relS scope S.sc, fnb := fun x => scope.names.lookup x == some .cell, calm := S.calm, exc := none }
def visB (S : SC) (x : Str) : Bool := match S.sc.names.lookup x with
  | some .local => true
  | some .cell => true
  | some .free => true
  | _ => false
def gloB (S : SC) (x : Str) : Bool := (match S.sc.names.lookup x with
  | some .globalImplicit => true
  | _ => false) && !(x == ("__debug__" : Str))
def nameB (S : SC) (i : Nat) (x : Str) : Bool := decide (S.N[i]? = some x) && visB S x && !(x == ("__debug__" : Str)) && !(x == ("__classdict__" : Str))
/-- may be stored -/
def locB (S : SC) (i : Nat) (x : Str) : Bool := decide (S.N[i]? = some x) && match S.sc.names.lookup x with
  | some .local => true
  | some .cell => S.fnb x
  | _ => false
def bltB (T : Tab) (S : SC) (x : Str) : Bool := gloB S x && T.blt.contains x
def nst : Expr → Bool
  | .Starred _ _ => false
  | _ => true
def plainT : Expr → Bool
  | .UnaryOp _ _ _ => false
  | .BoolOp _ _ _ => false
  | .IfExp _ _ _ _ => false
  | .Compare _ _ _ _ => false
  | _ => true
def notSet : Expr → Bool
  | .Set _ _ _ => false
  | _ => true
def notSlice : Expr → Bool
  | .Slice _ _ _ _ => false
  | _ => true
def notComp : Expr → Bool
  | .ListComp _ _ _ _ => false
  | .SetComp _ _ _ _ => false
  | .DictComp _ _ _ _ _ => false
  | _ => true
def bltName : Blt → Str
  | .len => "len"
  | .abs => "abs"
  | .toInt => "int"
  | .all => "all"
  | .any => "any"
  | .toTuple => "tuple"
  | .sum => "sum"
  | .max2 => "max"
  | .min2 => "min"
def tyS : Ty → Str
  | .tInt => "int"
  | .tBool => "bool"
  | .tStr => "str"
  | .tList => "list"
  | .tTuple => "tuple"
def isTup : Expr → Bool
  | .Tuple _ _ _ => true
  | _ => false
/-- the classes that isinstance asks -/
def chkTys (T : Tab) (S : SC) : List Ty → List Expr → Bool
  | [], [] => true
  | t :: ts, x :: xs => (match x with
    | .Name n _ => decide (n = tyS t) && bltB T S n
    | _ => false) && chkTys T S ts xs
  | _, _ => false
mutual
def chkTg (S : SC) : Tg → Expr → Bool
  | .name i, x => (match x with
    | .Name n _ => locB S i n
    | _ => false)
  | .tup ts, x => (match x with
    | .Tuple xs _ _ => S.calm && chkTgs S ts xs
    | _ => false)
def chkTgs (S : SC) : List Tg → List Expr → Bool
  | [], [] => true
  | t :: ts, x :: xs => nst x && chkTg S t x && chkTgs S ts xs
  | _, _ => false
end
mutual
def tgIx : Tg → List Nat
  | .name i => [i]
  | .tup ts => tgIxs ts
def tgIxs : List Tg → List Nat
  | [] => []
  | t :: ts => tgIx t ++ tgIxs ts
end
mutual
def chkE (T : Tab) (S : SC) : CE → Expr → Bool
  | .var i, x => (match x with
    | .Name n _ => nameB S i n
    | _ => false)
  | .int i, x => (match x with
    | .Constant (.int j) _ _ => decide (i = j)
    | _ => false)
  | .bl b, x => (match x with
    | .Constant (.bool c) _ _ => decide (b = c)
    | _ => false)
  | .non, x => (match x with
    | .Constant .none _ _ => true
    | _ => false)
  | .str z, x => (match x with
    | .Constant (.str w) _ _ => decide (z = w)
    | _ => false)
  | .glob i, x => (match x with
    | .Name n _ => (match T.glo[i]? with
      | some p => decide (p.1 = n) && gloB S n
      | none => false)
    | _ => false)
  | .fn i, x => (match x with
    | .Name n _ => decide (T.fns[i]? = some n) && gloB S n
    | _ => false)
  | .bin o a b, x => (match x with
    | .BinOp l o' r _ => decide (o = o') && chkE T S a l && chkE T S b r
    | _ => false)
  | .neg a, x => (match x with
    | .UnaryOp .USub y _ => chkE T S a y
    | _ => false)
  | .cmp o a b, x => (match x with
    | .Compare l [o'] [r] _ => S.calm && decide (o = o') && decide (o ≠ .In) && decide (o ≠ .NotIn) && chkE T S a l && chkE T S b r
    | _ => false)
  | .chain o p a b c, x => (match x with
    | .Compare l [o', p'] [r, q] _ => S.calm && decide (o = o') && decide (o ≠ .In) && decide (o ≠ .NotIn) && decide (p = p') && decide (p ≠ .In) && decide (p ≠ .NotIn) && chkE T S a l && chkE T S b r && chkE T S c q
    | _ => false)
  | .andV es, x => (match x with
    | .BoolOp .And xs _ => chkEs T S es xs
    | _ => false)
  | .orV es, x => (match x with
    | .BoolOp .Or xs _ => chkEs T S es xs
    | _ => false)
  | .notV a, x => (match x with
    | .UnaryOp .Not y _ => chkE T S a y
    | _ => false)
  | .orT a b, x => (match x with
    | .BoolOp .Or [y, z] _ => chkE T S a y && chkE T S b z
    | _ => false)
  | .ife t a b, x => (match x with
    | .IfExp c y z _ => chkT T S t c && chkE T S a y && chkE T S b z
    | _ => false)
  | .tup es, x => (match x with
    | .Tuple xs _ _ => chkEs T S es xs
    | _ => false)
  | .lv l, x => chkL T S l x
  | .lm l, x => chkL T S l x
  | .frz a, x => chkE T S a x
  | .idx a b, x => (match x with
    | .Subscript y z _ => notSlice z && chkE T S a y && chkE T S b z
    | _ => false)
  | .slc a lo hi, x => (match x with
    | .Subscript y (.Slice l h none _) _ => chkE T S a y && chkO T S lo l && chkO T S hi h
    | _ => false)
  | .call f es, x => (match x with
    | .Call (.Name n _) (y :: ys) [] _ => S.calm && decide (T.fns[f]? = some n) && gloB S n && chkEs T S es (y :: ys)
    | _ => false)
  | .callL i es, x => (match x with
    | .Call (.Name n _) (y :: ys) [] _ => S.calm && nameB S i n && chkEs T S es (y :: ys)
    | _ => false)
  | .callK f es ks pm, x => (match x with
    | .Call (.Name n _) ys (k :: kws) _ => S.calm && decide (T.fns[f]? = some n) && gloB S n && chkEs T S es ys && chkKs T S ks (k :: kws) && decide ((f, ys.length, (k :: kws).filterMap (·.arg), pm) ∈ T.kws)
    | _ => false)
  | .blt b es, x => (match x with
    | .Call (.Name n _) (y :: ys) [] _ => S.calm && decide (n = bltName b) && bltB T S n && chkEs T S es (y :: ys)
    | _ => false)
  | .isI a ts, x => (match x with
    | .Call (.Name n _) [y, z] [] _ => S.calm && decide (n = ("isinstance" : Str)) && bltB T S n && nst y && nst z && chkE T S a y && (match z with
      | .Tuple zs _ _ => decide (ts.length ≤ 1000) && zs.all nst && chkTys T S ts zs
      | z => decide (ts.length = 1) && chkTys T S ts [z])
    | _ => false)
  | .excIs i, x => (match x with
    | .Call (.Name n _) [.Name y _, .Name z _] [] _ => !S.calm && decide (n = ("isinstance" : Str)) && bltB T S n && decide (S.exc = some i) && nameB S i y && decide (z = ("ValueError" : Str)) && bltB T S z
    | _ => false)
def chkEs (T : Tab) (S : SC) : CEs → List Expr → Bool
  | .nil, xs => (match xs with
    | [] => true
    | _ => false)
  | .cons e es, xs => (match xs with
    | x :: xs => nst x && chkE T S e x && chkEs T S es xs
    | _ => false)
def chkKs (T : Tab) (S : SC) : CEs → List Keyword → Bool
  | .nil, xs => (match xs with
    | [] => true
    | _ => false)
  | .cons e es, xs => (match xs with
    | x :: xs => x.arg.isSome && chkE T S e x.value && chkKs T S es xs
    | _ => false)
def chkO (T : Tab) (S : SC) : CO → Option Expr → Bool
  | .none, x => (match x with
    | none => true
    | _ => false)
  | .some e, x => (match x with
    | some y => chkE T S e y
    | _ => false)
def chkL (T : Tab) (S : SC) : CL → Expr → Bool
  | .disp es, x => (match x with
    | .List xs _ => chkEs T S es xs
    | _ => false)
  | .comp elt tg it cond own, x => (match x with
    | .ListComp y [g] scope _ => S.calm && decide (g.is_async = 0) && notSet g.iter && chkI T S it g.target g.iter && blkC S.N S.sc scope (own.map fun i => (S.N.getD i Str.empty, i)) &&
      (tgIx tg).all own.contains &&
      chkTg (S.blk scope) tg g.target &&
      chkTo T (S.blk scope) cond g.ifs &&
      chkE T (S.blk scope) elt y
    | _ => false)
  | .cat a b, x => (match x with
    | .BinOp l .Add r _ => chkE T S a l && chkE T S b r
    | _ => false)
  | .rep a b, x => (match x with
    | .BinOp l .Mult r _ => chkE T S a l && chkE T S b r
    | _ => false)
  | .lst a, x => (match x with
    | .Call (.Name n _) [y] [] _ => decide (n = ("list" : Str)) && bltB T S n && nst y && chkE T S a y
    | _ => false)
  | .slc a lo hi, x => (match x with
    | .Subscript y (.Slice l h none _) _ => chkE T S a y && chkO T S lo l && chkO T S hi h
    | _ => false)
def chkI (T : Tab) (S : SC) : CI → Expr → Expr → Bool
  | .seq a, _, x => chkE T S a x
  | .rng1 a, _, x => (match x with
    | .Call (.Name n _) [y] [] _ => decide (n = ("range" : Str)) && bltB T S n && nst y && chkE T S a y
    | _ => false)
  | .rng2 a b, _, x => (match x with
    | .Call (.Name n _) [y, z] [] _ => decide (n = ("range" : Str)) && bltB T S n && nst y && nst z && chkE T S a y && chkE T S b z
    | _ => false)
  | .enum a, tg, x => (match x with
    | .Call (.Name n _) [y] [] _ => isTup tg && decide (n = ("enumerate" : Str)) && bltB T S n && nst y && chkE T S a y
    | _ => false)
  | .zip a b, tg, x => (match x with
    | .Call (.Name n _) [y, z] [] _ => isTup tg && decide (n = ("zip" : Str)) && bltB T S n && nst y && nst z && chkE T S a y && chkE T S b z
    | _ => false)
def chkT (T : Tab) (S : SC) : CT → Expr → Bool
  | .val a, x => plainT x && chkE T S a x
  | .tru a, x => plainT x && chkE T S a x
  | .cmp o a b, x => (match x with
    | .Compare l [o'] [r] _ => S.calm && decide (o = o') && decide (o ≠ .In) && decide (o ≠ .NotIn) && chkE T S a l && chkE T S b r
    | _ => false)
  | .chain o p a b c, x => (match x with
    | .Compare l [o', p'] [r, q] _ => S.calm && decide (o = o') && decide (o ≠ .In) && decide (o ≠ .NotIn) && decide (p = p') && decide (p ≠ .In) && decide (p ≠ .NotIn) && chkE T S a l && chkE T S b r && chkE T S c q
    | _ => false)
  | .and ts, x => (match x with
    | .BoolOp .And xs _ => chkTs T S ts xs
    | _ => false)
  | .or ts, x => (match x with
    | .BoolOp .Or xs _ => chkTs T S ts xs
    | _ => false)
  | .not t, x => (match x with
    | .UnaryOp .Not y _ => chkT T S t y
    | _ => false)
def chkTs (T : Tab) (S : SC) : CTs → List Expr → Bool
  | .nil, xs => (match xs with
    | [] => true
    | _ => false)
  | .cons e es, xs => (match xs with
    | x :: xs => chkT T S e x && chkTs T S es xs
    | _ => false)
def chkTo (T : Tab) (S : SC) : CTo → List Expr → Bool
  | .none, xs => (match xs with
    | [] => true
    | _ => false)
  | .some t, xs => (match xs with
    | [x] => chkT T S t x
    | _ => false)
end
/-! ### what the tie gives -/
theorem starEach_ns {e : Expr} {es : List Expr} {env : Env} (h : nst e = true) : starEach (e :: es) env = (false, eval e env) :: starEach es env := by
  cases e <;> first | rfl | cases h
theorem assignEach_ns {e : Expr} {es : List Expr} {env : Env} (h : nst e = true) : assignEach (e :: es) env = (false, assign e env) :: assignEach es env := by
  cases e <;> first | rfl | cases h
theorem isTrue_plain' {e : Expr} {env : Env} (h : plainT e = true) (whole : Sem Value) : isTrue e env whole = (do let v ← whole; standAt e.pos; holding [v] (truthy v)) := by
  cases e <;> first | rfl | cases h
theorem notSet_iter {e : Expr} {env : Env} (h : notSet e = true) (x : Value) : foldedSetIterable e env x = pure x := by
  cases e <;> first | rfl | cases h
theorem notSlice_ix {e : Expr} (h : notSlice e = true) : PlainIx e := by
  cases e <;> first | exact fun _ _ => rfl | cases h
theorem plain_any : ∀ {es : List Expr} {pos : Pos} {env : Env}, (∀ e ∈ es, nst e = true) → (backTo pos (starEach es env)).any (·.1) = false
  | [], _, _, _ => rfl
  | e :: es, pos, env, h => by
    have ih := plain_any (es := es) (pos := pos) (env := env) fun x hx => h x (List.mem_cons_of_mem _ hx)
    rw [starEach_ns (h e List.mem_cons_self)]
    unfold backTo at ih ⊢
    rw [List.map_cons, List.any_cons]
    exact ih
theorem chkEs_ns {T : Tab} {S : SC} : ∀ {es : CEs} {xs : List Expr}, chkEs T S es xs = true → ∀ x ∈ xs, nst x = true
  | .nil, [], _, x, hx => by cases hx
  | .nil, _ :: _, h, x, hx => by cases h
  | .cons e es, [], h, x, hx => by cases hx
  | .cons e es, y :: ys, h, x, hx => by
    have h' : (nst y && chkE T S e y && chkEs T S es ys) = true := h
    simp only [Bool.and_eq_true] at h'
    rcases List.mem_cons.mp hx with q | q
    · rw [q]; exact h'.1.1
    · exact chkEs_ns h'.2 x q
end Dx
/-! Dx, part 9: each construct, from its parts. -/
namespace Dx
open PySem PySem.Spec PyProof.Rows L2
theorem PR_of {α β : Type} {K : PySem.W.Frag} {fa ca : Nat → Addr} {W : WX} {σ : L2.St} {rel : Rl α β} {ρ : List Addr} {Z : Addr → Prop} {H : Hp} {o : Option α} {m : M} {Q : β → Hp → Prop} (h : PR K fa ca W σ rel ρ Z H (.of o m) Q) :
    ∃ a, o = some a ∧ PR K fa ca W σ rel ρ Z H (.ok a m) Q := by
  cases o with
  | none => exact h.elim
  | some a => exact ⟨a, rfl, h⟩
/-- what a def promises, by data -/
def spD (K : PySem.W.Frag) (fa ca : Nat → Addr) (F : List D → M → Res D) (n : Nat) : Sp := fun vs H Q E => vs.length = n ∧ ∃ ρ Z m ds, MOk K fa ρ Z H m ∧ RelDs K fa ρ Z H ds vs ∧
  PR K fa ca (fun cls d _ H' => E cls d H') [] (rD K fa) ρ Z H (F ds m) Q
/-- how a call with keywords binds -/
def KwB (K : PySem.W.Frag) (fd : FuncData) (ps : List Str) (n : Nat) (ks : List Str) (pm : List Nat) : Prop :=
  ∀ (s : Shared) (us ws zs : List Value), K.In s.heap → us.length = n → ws.length = ks.length → pickL (us ++ ws) pm = some zs → zs.length = ps.length → BindsTo s fd ⟨us, ks.zip ws⟩ (ps.zip zs)
structure ClsOk (K : PySem.W.Frag) (mg : Str → Option Value) (x : Str) (C : Addr) : Prop where
  g : mg x = some (.ref C)
  kp : PySem.W.keepIn K (.ref C) = true
  ex : PySem.W.excIn K C He.veBase "ValueError.__new__" = true
  sb : PySem.W.subIn K (.ref C) (.type "BaseException") = some true
  ty : PySem.W.typeIn K (.ref C) = some (.type "type")
  ec : ExcC K C
  ve : PySem.W.kitOne K (.ref C) (.type "ValueError") = some true
  db : (x == ("__debug__" : Str)) = false
/-- what the head gives -/
structure Facts (T : Tab) (fa ca : Nat → Addr) (cf : Cfg) (k : Nat) (prog : Program) (w : World) (K : PySem.W.Frag) (mg : Str → Option Value) (base : Heap) : Prop where
  fns : ∀ (i : Nat) (x : Str), T.fns[i]? = some x → mg x = some (.ref (fa i)) ∧ PySem.W.keepIn K (.ref (fa i)) = true ∧ ∃ fd ps, FnOk prog w K mg base (CX prog w) k (fa i) fd ps (spD K fa ca (cf.call i) ps.length) ∧ Binds K fd ps [] ∧ (∀ ds m, ds.length ≠ ps.length → cf.call i ds m = .bad) ∧
    ∀ e ∈ T.kws, e.1 = i → KwB K fd ps e.2.1 e.2.2.1 e.2.2.2
  dom : cf.nf = T.fns.length
  domc : cf.nc = T.cls.length
  glo : ∀ (i : Nat) p, T.glo[i]? = some p → cf.glob i = some p.2 ∧ ∃ v u, mg p.1 = some u ∧ RelV v u ∧ ∀ ρ Z H, RelD K fa ρ Z H p.2 v
  blt : ∀ x ∈ T.blt, mg x = none
  cls : ∀ (i : Nat) (x : Str), T.cls[i]? = some x → ClsOk K mg x (ca i)
  exm : ∀ (i j : Nat) x y, T.cls[i]? = some x → T.cls[j]? = some y → PySem.W.exmOne K (.ref (ca i)) (.ref (ca j)) = some (decide (i = j))
structure Good (T : Tab) (fa ca : Nat → Addr) (cf : Cfg) (k : Nat) (S : SC) (P : L2.St → Prop) (X : Cx) : Prop where
  N : X.N = S.N
  sc : X.env.scope = S.sc
  nd : S.N.Nodup
  fnb : X.fn = S.fnb
  calm : S.calm = true → X.calm = true
  room : S.calm = true → Room k X.A
  exc : ∀ i, S.exc = some i → ∃ a Dc, (∀ σ, P σ → σ[i]? = some (some (.ref a))) ∧ CallR X (.builtin "isinstance") (rIsE X.K Dc a) ∧ PySem.W.kitOne X.K (.ref Dc) (.type "ValueError") = some true
  f : Facts T fa ca cf k X.prog X.w X.K X.mg X.base
section
variable {T : Tab} {fa ca : Nat → Addr} {cf : Cfg} {k : Nat} {S : SC} {P : L2.St → Prop} {X : Cx} {W : WX}
theorem vis_of {x : Str} (G : Good T fa ca cf k S P X) (h : visB S x = true) : Vis X.env.scope x := by
  rw [G.sc]
  unfold visB at h
  unfold Vis
  split at h
  · rename_i e; exact .inl e
  · rename_i e; exact .inr (.inl e)
  · rename_i e; exact .inr (.inr e)
  · cases h
theorem glo_of {x : Str} (G : Good T fa ca cf k S P X) (h : gloB S x = true) : Gl X x ∧ (x == ("__debug__" : Str)) = false := by
  unfold gloB at h
  rw [Bool.and_eq_true] at h
  refine ⟨?_, by simpa using h.2⟩
  show X.env.scope.names.lookup x = some .globalImplicit
  rw [G.sc]
  have h1 := h.1
  split at h1
  · rename_i e; exact e
  · cases h1
theorem name_of {i : Nat} {x : Str} (G : Good T fa ca cf k S P X) (h : nameB S i x = true) : X.N[i]? = some x ∧ Vis X.env.scope x ∧ (x == ("__debug__" : Str)) = false ∧ (x == ("__classdict__" : Str)) = false := by
  unfold nameB at h
  simp only [Bool.and_eq_true] at h
  obtain ⟨⟨⟨h1, h2⟩, h3⟩, h4⟩ := h
  exact ⟨by rw [G.N]; exact of_decide_eq_true h1, vis_of G h2, by simpa using h3, by simpa using h4⟩
theorem blt_of {x : Str} (G : Good T fa ca cf k S P X) (h : bltB T S x = true) : Gl X x ∧ X.mg x = none := by
  unfold bltB at h
  rw [Bool.and_eq_true] at h
  exact ⟨(glo_of G h.1).1, G.f.blt x (by simpa using h.2)⟩
theorem loc_of {i : Nat} {x : Str} (G : Good T fa ca cf k S P X) (h : locB S i x = true) : X.N[i]? = some x ∧ L2.Loc X.env.scope x ∧ (X.fn x = true ∨ X.env.scope.names.lookup x = some .local) := by
  unfold locB at h
  rw [Bool.and_eq_true] at h
  refine ⟨by rw [G.N]; exact of_decide_eq_true h.1, ?_⟩
  have h2 := h.2
  unfold L2.Loc
  rw [G.sc, G.fnb]
  split at h2
  · rename_i e; exact ⟨.inl e, .inr e⟩
  · rename_i e; exact ⟨.inr e, .inl h2⟩
  · cases h2
/-! ### leaves -/
abbrev RE (X : Cx) (fa ca : Nat → Addr) (P : L2.St → Prop) (W : WX) (f : Env' → M → Res D) : TE := tR X.K fa ca P W (rD X.K fa) f
abbrev RT (X : Cx) (fa ca : Nat → Addr) (P : L2.St → Prop) (W : WX) (f : Env' → M → Res Bool) : TT := tR X.K fa ca P W (rEq Bool) f
abbrev RA (X : Cx) (fa ca : Nat → Addr) (P : L2.St → Prop) (W : WX) (f : Env' → M → Res (List D)) : TA := tR X.K fa ca P W (rDs X.K fa) f
theorem s_const {e : Expr} {v : V} {d : D} (h : PE X e (tC v)) (r : ∀ ρ Z H, RelD X.K fa ρ Z H d v) : PE X e (RE X fa ca P W fun _ m => .ok d m) :=
  h.imp fun σ H Q ⟨_, ρ, Z, e, m, Sm, q⟩ => q.out Sm.mok (r ρ Z H)
theorem s_var {i : Nat} {x : Str} {pos : Pos} (G : Good T fa ca cf k S P X) (h : nameB S i x = true) : PE X (.Name x pos) (RE X fa ca P W fun e m => .of (getV e i) m) := by
  obtain ⟨h1, h2, h3, h4⟩ := name_of G h
  refine (pe_var h1 h2 h3 h4).imp fun σ H Q ⟨_, ρ, Z, e, m, Sm, q⟩ => ?_
  obtain ⟨d, hd, q⟩ := PR_of q
  obtain ⟨v, hv, r⟩ := Sm.env i d hd
  exact ⟨v, hv, q.out Sm.mok r⟩
/-! ### two places -/
theorem tOp_bin {f g : Env' → M → Res D} {kk : M → D → D → Option D} {σ : L2.St} {H : Hp} {Q : VK} (h : RE X fa ca P W (fun e m => (f e m).bind fun x m => (g e m).bind fun y m => .of (kk m x y) m) σ H Q) :
    tOp (rBin X.K fa kk) (RE X fa ca P W f) (RE X fa ca P W g) σ H Q := by
  obtain ⟨p, ρ, Z, e, m, Sm, h⟩ := h
  refine ⟨p, ρ, Z, e, m, Sm, (PR.bind Sm.mok.hot h).mono fun x H1 ⟨ρ1, Z1, d1, m1, _, s1, I1, r1, h1⟩ => ?_⟩
  refine ⟨p, ρ1, Z1, e, m1, Sm.step s1 I1, (PR.bind I1.hot h1).mono fun y H2 ⟨ρ2, Z2, d2, m2, _, s2, I2, r2, h2⟩ => ?_⟩
  obtain ⟨d, hd, h3⟩ := PR_of h2
  exact ⟨ρ2, Z2, m2, d1, d2, d, I2, RelD.mono s2 I1.hot _ _ r1, r2, hd, h3⟩
theorem tOp_cmp {f g : Env' → M → Res D} {kk : D → D → Option Bool} {σ : L2.St} {H : Hp} {Q : VK} (h : RE X fa ca P W (fun e m => (f e m).bind fun x m => (g e m).bind fun y m => .of ((kk x y).map .bl) m) σ H Q) :
    tOp (rCmp X.K fa kk) (RE X fa ca P W f) (RE X fa ca P W g) σ H Q := by
  obtain ⟨p, ρ, Z, e, m, Sm, h⟩ := h
  refine ⟨p, ρ, Z, e, m, Sm, (PR.bind Sm.mok.hot h).mono fun x H1 ⟨ρ1, Z1, d1, m1, _, s1, I1, r1, h1⟩ => ?_⟩
  refine ⟨p, ρ1, Z1, e, m1, Sm.step s1 I1, (PR.bind I1.hot h1).mono fun y H2 ⟨ρ2, Z2, d2, m2, _, s2, I2, r2, h2⟩ => ?_⟩
  obtain ⟨d, hd, h3⟩ := PR_of h2
  obtain ⟨b, hb, rfl⟩ := Option.map_eq_some_iff.mp hd
  exact ⟨ρ2, Z2, m2, d1, d2, b, I2, RelD.mono s2 I1.hot _ _ r1, r2, hb, h3.out I2 rfl⟩
theorem tTest_cmp {f g : Env' → M → Res D} {kk : D → D → Option Bool} {σ : L2.St} {H : Hp} {Q : Bool → Hp → Prop} (h : RT X fa ca P W (fun e m => (f e m).bind fun x m => (g e m).bind fun y m => .of (kk x y) m) σ H Q) :
    tTest (tOp (rCmp X.K fa kk) (RE X fa ca P W f) (RE X fa ca P W g)) σ H Q := by
  obtain ⟨p, ρ, Z, e, m, Sm, h⟩ := h
  refine ⟨p, ρ, Z, e, m, Sm, (PR.bind (rel := rD X.K fa) Sm.mok.hot h).mono fun x H1 ⟨ρ1, Z1, d1, m1, _, s1, I1, r1, h1⟩ => ?_⟩
  refine ⟨p, ρ1, Z1, e, m1, Sm.step s1 I1, (PR.bind (rel := rD X.K fa) I1.hot h1).mono fun y H2 ⟨ρ2, Z2, d2, m2, _, s2, I2, r2, h2⟩ => ?_⟩
  obtain ⟨b, hb, h3⟩ := PR_of h2
  exact ⟨ρ2, Z2, m2, d1, d2, b, I2, RelD.mono s2 I1.hot _ _ r1, r2, hb, b, rfl, h3.out I2 rfl⟩
/-- behind an expression: the rest goes on from its value, at the same place -/
theorem RE_then {f : Env' → M → Res D} {g : D → M → Res D} {σ : L2.St} {H : Hp} {Q : VK} (h : RE X fa ca P W (fun e m => (f e m).bind g) σ H Q) (Q' : VK)
    (hk : ∀ ρ Z e m d v H1, Sim X.K fa ρ Z H1 σ e m → RelD X.K fa ρ Z H1 d v → PR X.K fa ca W σ (rD X.K fa) ρ Z H1 (g d m) Q → Q' v H1) : RE X fa ca P W f σ H Q' := by
  obtain ⟨p, ρ, Z, e, m, Sm, h⟩ := h
  exact ⟨p, ρ, Z, e, m, Sm, (PR.bind Sm.mok.hot h).mono fun x H1 ⟨ρ1, Z1, d1, m1, _, s1, I1, r1, h1⟩ => hk ρ1 Z1 e m1 d1 x H1 (Sm.step s1 I1) r1 h1⟩
theorem s_neg {a : Expr} {pos : Pos} {f : Env' → M → Res D} (ha : PE X a (RE X fa ca P W f)) : PE X (.UnaryOp .USub a pos) (RE X fa ca P W fun e m => (f e m).bind fun x m => match x with
    | .int i => .ok (.int (-i)) m
    | _ => .bad) := by
  refine (pe_un un_neg ha).imp fun σ H Q h => RE_then h _ fun ρ Z e m d v H1 Sm r q => ?_
  split at q
  · cases (show v = _ from r)
    exact ⟨_, rfl, q.out Sm.mok rfl⟩
  · exact q.elim
theorem s_not {a : Expr} {pos : Pos} {f : Env' → M → Res D} (ha : PE X a (RE X fa ca P W f)) : PE X (.UnaryOp .Not a pos) (RE X fa ca P W fun e m => (f e m).bind fun x m => match x with
    | .bl b => .ok (.bl (!b)) m
    | _ => .bad) := by
  refine (pe_not ha).imp fun σ H Q h => RE_then h _ fun ρ Z e m d v H1 Sm r q => ?_
  split at q
  · cases (show v = _ from r)
    exact ⟨_, rfl, q.out Sm.mok rfl⟩
  · exact q.elim
/-! ### and, or, if -/
theorem s_ife {t a b : Expr} {pos : Pos} {ft : Env' → M → Res Bool} {f g : Env' → M → Res D} (ht : PT X t (RT X fa ca P W ft)) (ha : PE X a (RE X fa ca P W f)) (hb : PE X b (RE X fa ca P W g)) :
    PE X (.IfExp t a b pos) (RE X fa ca P W fun e m => (ft e m).bind fun k m => if k then f e m else g e m) := by
  refine (pe_ifExp ht ha hb).imp fun σ H Q h => ?_
  obtain ⟨p, ρ, Z, e, m, Sm, h⟩ := h
  refine ⟨p, ρ, Z, e, m, Sm, (PR.bind Sm.mok.hot h).mono fun x H1 ⟨ρ1, Z1, d1, m1, _, s1, I1, r1, h1⟩ => ?_⟩
  have e1 : d1 = x := r1
  subst e1
  cases d1
  · exact iteF ⟨p, ρ1, Z1, e, m1, Sm.step s1 I1, h1⟩
  · exact iteT ⟨p, ρ1, Z1, e, m1, Sm.step s1 I1, h1⟩
theorem s_and1 {a : Expr} {pos : Pos} {op : BoolOp} {f : Env' → M → Res D} (ha : PE X a (RE X fa ca P W f)) : PE X (.BoolOp op [a] pos) (RE X fa ca P W f) := pe_one ha
theorem s_and {a b : Expr} {es : List Expr} {pos : Pos} {f g : Env' → M → Res D} (ha : PE X a (RE X fa ca P W f)) (hb : PE X (.BoolOp .And (b :: es) pos) (RE X fa ca P W g)) :
    PE X (.BoolOp .And (a :: b :: es) pos) (RE X fa ca P W fun e m => (f e m).bind fun x m => match x with
      | .bl true => g e m
      | .bl false => .ok (.bl false) m
      | _ => .bad) := by
  refine (pe_and ha hb).imp fun σ H Q h => ?_
  obtain ⟨p, ρ, Z, e, m, Sm, h⟩ := h
  refine ⟨p, ρ, Z, e, m, Sm, (PR.bind Sm.mok.hot h).mono fun x H1 ⟨ρ1, Z1, d1, m1, _, s1, I1, r1, h1⟩ => ?_⟩
  split at h1
  · cases (show x = _ from r1)
    exact ⟨true, rfl, iteT ⟨p, ρ1, Z1, e, m1, Sm.step s1 I1, h1⟩⟩
  · cases (show x = _ from r1)
    exact ⟨false, rfl, iteF (h1.out I1 rfl)⟩
  · exact h1.elim
theorem s_or {a b : Expr} {es : List Expr} {pos : Pos} {f g : Env' → M → Res D} (ha : PE X a (RE X fa ca P W f)) (hb : PE X (.BoolOp .Or (b :: es) pos) (RE X fa ca P W g)) :
    PE X (.BoolOp .Or (a :: b :: es) pos) (RE X fa ca P W fun e m => (f e m).bind fun x m => match x with
      | .bl true => .ok (.bl true) m
      | .bl false => g e m
      | _ => .bad) := by
  refine (pe_or ha hb).imp fun σ H Q h => ?_
  obtain ⟨p, ρ, Z, e, m, Sm, h⟩ := h
  refine ⟨p, ρ, Z, e, m, Sm, (PR.bind Sm.mok.hot h).mono fun x H1 ⟨ρ1, Z1, d1, m1, _, s1, I1, r1, h1⟩ => ?_⟩
  split at h1
  · cases (show x = _ from r1)
    exact ⟨true, rfl, iteT (h1.out I1 rfl)⟩
  · cases (show x = _ from r1)
    exact ⟨false, rfl, iteF ⟨p, ρ1, Z1, e, m1, Sm.step s1 I1, h1⟩⟩
  · exact h1.elim
theorem s_orT {a b : Expr} {pos : Pos} {f g : Env' → M → Res D} (ha : PE X a (RE X fa ca P W f)) (hb : PE X b (RE X fa ca P W g)) :
    PE X (.BoolOp .Or [a, b] pos) (RE X fa ca P W fun e m => (f e m).bind fun x m => match evTru m x with
      | some true => .ok x m
      | some false => g e m
      | none => .bad) := by
  refine (pe_orT ha (pe_one hb)).imp fun σ H Q h => ?_
  obtain ⟨p, ρ, Z, e, m, Sm, h⟩ := h
  refine ⟨p, ρ, Z, e, m, Sm, (PR.bind Sm.mok.hot h).mono fun x H1 ⟨ρ1, Z1, d1, m1, _, s1, I1, r1, h1⟩ => ?_⟩
  split at h1
  · rename_i q
    exact ⟨true, tru_v I1 r1 q, iteT (h1.out I1 r1)⟩
  · rename_i q
    exact ⟨false, tru_v I1 r1 q, iteF ⟨p, ρ1, Z1, e, m1, Sm.step s1 I1, h1⟩⟩
  · exact h1.elim
/-! ### tests -/
theorem s_val {a : Expr} {f : Env' → M → Res D} (hp : plainT a = true) (ha : PE X a (RE X fa ca P W f)) : PT X a (RT X fa ca P W fun e m => (f e m).bind fun x m => match x with
    | .bl b => .ok b m
    | _ => .bad) := by
  refine (pt_val ha (isTrue_plain' hp)).imp fun σ H Q h => ?_
  obtain ⟨p, ρ, Z, e, m, Sm, h⟩ := h
  refine ⟨p, ρ, Z, e, m, Sm, (PR.bind (rel := rD X.K fa) Sm.mok.hot h).mono fun x H1 ⟨ρ1, Z1, d1, m1, _, s1, I1, r1, h1⟩ => ?_⟩
  split at h1
  · cases (show x = _ from r1)
    exact ⟨_, rfl, h1.out I1 rfl⟩
  · exact h1.elim
theorem s_tru {a : Expr} {f : Env' → M → Res D} (hp : plainT a = true) (ha : PE X a (RE X fa ca P W f)) : PT X a (RT X fa ca P W fun e m => (f e m).bind fun x m => .of (evTru m x) m) := by
  refine (pt_truth ha (isTrue_plain' hp)).imp fun σ H Q h => ?_
  obtain ⟨p, ρ, Z, e, m, Sm, h⟩ := h
  refine ⟨p, ρ, Z, e, m, Sm, (PR.bind (rel := rD X.K fa) Sm.mok.hot h).mono fun x H1 ⟨ρ1, Z1, d1, m1, _, s1, I1, r1, h1⟩ => ?_⟩
  obtain ⟨b, hb, h2⟩ := PR_of h1
  exact ⟨b, tru_v I1 r1 hb, h2.out I1 rfl⟩
theorem s_tnot {a : Expr} {pos : Pos} {f : Env' → M → Res Bool} (ha : PT X a (RT X fa ca P W f)) : PT X (.UnaryOp .Not a pos) (RT X fa ca P W fun e m => (f e m).bind fun k m => .ok (!k) m) := by
  refine (pt_not ha).imp fun σ H Q h => ?_
  obtain ⟨p, ρ, Z, e, m, Sm, h⟩ := h
  refine ⟨p, ρ, Z, e, m, Sm, (PR.bind (rel := rEq Bool) Sm.mok.hot h).mono fun x H1 ⟨ρ1, Z1, d1, m1, _, s1, I1, r1, h1⟩ => ?_⟩
  have e1 : d1 = x := r1
  subst e1
  exact h1.out I1 rfl
theorem s_tand1 {a : Expr} {pos : Pos} {f : Env' → M → Res Bool} (ha : PT X a (RT X fa ca P W f)) : PW X (.BoolOp .And [a] pos) (RT X fa ca P W f) := pw_and1 ha
theorem s_tor1 {a : Expr} {pos : Pos} {f : Env' → M → Res Bool} (ha : PT X a (RT X fa ca P W f)) : PW X (.BoolOp .Or [a] pos) (RT X fa ca P W f) := pw_or1 ha
theorem s_tand {a b : Expr} {es : List Expr} {pos : Pos} {f g : Env' → M → Res Bool} (ha : PT X a (RT X fa ca P W f)) (hb : PW X (.BoolOp .And (b :: es) pos) (RT X fa ca P W g)) :
    PW X (.BoolOp .And (a :: b :: es) pos) (RT X fa ca P W fun e m => (f e m).bind fun k m => if k then g e m else .ok false m) := by
  refine (pw_and ha hb).imp fun σ H Q h => ?_
  obtain ⟨p, ρ, Z, e, m, Sm, h⟩ := h
  refine ⟨p, ρ, Z, e, m, Sm, (PR.bind (rel := rEq Bool) Sm.mok.hot h).mono fun x H1 ⟨ρ1, Z1, d1, m1, _, s1, I1, r1, h1⟩ => ?_⟩
  have e1 : d1 = x := r1
  subst e1
  cases d1
  · exact iteF (PR.out h1 I1 rfl)
  · exact iteT ⟨p, ρ1, Z1, e, m1, Sm.step s1 I1, h1⟩
theorem s_tor {a b : Expr} {es : List Expr} {pos : Pos} {f g : Env' → M → Res Bool} (ha : PT X a (RT X fa ca P W f)) (hb : PW X (.BoolOp .Or (b :: es) pos) (RT X fa ca P W g)) :
    PW X (.BoolOp .Or (a :: b :: es) pos) (RT X fa ca P W fun e m => (f e m).bind fun k m => if k then .ok true m else g e m) := by
  refine (pw_or ha hb).imp fun σ H Q h => ?_
  obtain ⟨p, ρ, Z, e, m, Sm, h⟩ := h
  refine ⟨p, ρ, Z, e, m, Sm, (PR.bind (rel := rEq Bool) Sm.mok.hot h).mono fun x H1 ⟨ρ1, Z1, d1, m1, _, s1, I1, r1, h1⟩ => ?_⟩
  have e1 : d1 = x := r1
  subst e1
  cases d1
  · exact iteF ⟨p, ρ1, Z1, e, m1, Sm.step s1 I1, h1⟩
  · exact iteT (PR.out h1 I1 rfl)
/-! ### chains -/
theorem last_marks {o p : CmpOp} {a b : Expr} (h : p ≠ .In) (h2 : p ≠ .NotIn) : lastMarks [o, p] [a, b] = false := nobehind b h h2
theorem tChain_of {f g q : Env' → M → Res D} {k1 k2 : D → D → Option Bool} {σ : L2.St} {H : Hp} {Q : VK} (h : RE X fa ca P W (fun e m => (f e m).bind fun x m => (g e m).bind fun y m => match k1 x y with
      | some true => (q e m).bind fun z m => .of ((k2 y z).map .bl) m
      | some false => .ok (.bl false) m
      | none => .bad) σ H Q) :
    tChain (rCmp X.K fa k1) (rCmp X.K fa k2) (RE X fa ca P W f) (RE X fa ca P W g) (RE X fa ca P W q) σ H Q := by
  obtain ⟨p, ρ, Z, e, m, Sm, h⟩ := h
  refine ⟨p, ρ, Z, e, m, Sm, (PR.bind Sm.mok.hot h).mono fun x H1 ⟨ρ1, Z1, d1, m1, _, s1, I1, r1, h1⟩ => ?_⟩
  refine ⟨p, ρ1, Z1, e, m1, Sm.step s1 I1, (PR.bind I1.hot h1).mono fun y H2 ⟨ρ2, Z2, d2, m2, _, s2, I2, r2, h2⟩ => ?_⟩
  split at h2
  · rename_i hb
    refine ⟨ρ2, Z2, m2, d1, d2, true, I2, RelD.mono s2 I1.hot _ _ r1, r2, hb, true, rfl, iteT ?_⟩
    refine ⟨p, ρ2, Z2, e, m2, (Sm.step s1 I1).step s2 I2, (PR.bind I2.hot h2).mono fun z H3 ⟨ρ3, Z3, d3, m3, _, s3, I3, r3, h3⟩ => ?_⟩
    obtain ⟨d, hd, h4⟩ := PR_of h3
    obtain ⟨b, hb, rfl⟩ := Option.map_eq_some_iff.mp hd
    exact ⟨ρ3, Z3, m3, d2, d3, b, I3, RelD.mono s3 I2.hot _ _ r2, r3, hb, h4.out I3 rfl⟩
  · rename_i hb
    exact ⟨ρ2, Z2, m2, d1, d2, false, I2, RelD.mono s2 I1.hot _ _ r1, r2, hb, false, rfl, iteF (h2.out I2 rfl)⟩
  · exact h2.elim
theorem tChainT_of {f g q : Env' → M → Res D} {k1 k2 : D → D → Option Bool} {σ : L2.St} {H : Hp} {Q : Bool → Hp → Prop} (h : RT X fa ca P W (fun e m => (f e m).bind fun x m => (g e m).bind fun y m => match k1 x y with
      | some true => (q e m).bind fun z m => .of (k2 y z) m
      | some false => .ok false m
      | none => .bad) σ H Q) :
    tTest (tChain (rCmp X.K fa k1) (rCmp X.K fa k2) (RE X fa ca P W f) (RE X fa ca P W g) (RE X fa ca P W q)) σ H Q := by
  obtain ⟨p, ρ, Z, e, m, Sm, h⟩ := h
  refine ⟨p, ρ, Z, e, m, Sm, (PR.bind (rel := rD X.K fa) Sm.mok.hot h).mono fun x H1 ⟨ρ1, Z1, d1, m1, _, s1, I1, r1, h1⟩ => ?_⟩
  refine ⟨p, ρ1, Z1, e, m1, Sm.step s1 I1, (PR.bind (rel := rD X.K fa) I1.hot h1).mono fun y H2 ⟨ρ2, Z2, d2, m2, _, s2, I2, r2, h2⟩ => ?_⟩
  split at h2
  · rename_i hb
    refine ⟨ρ2, Z2, m2, d1, d2, true, I2, RelD.mono s2 I1.hot _ _ r1, r2, hb, true, rfl, iteT ?_⟩
    refine ⟨p, ρ2, Z2, e, m2, (Sm.step s1 I1).step s2 I2, (PR.bind (rel := rD X.K fa) I2.hot h2).mono fun z H3 ⟨ρ3, Z3, d3, m3, _, s3, I3, r3, h3⟩ => ?_⟩
    obtain ⟨b, hb, h4⟩ := PR_of h3
    exact ⟨ρ3, Z3, m3, d2, d3, b, I3, RelD.mono s3 I2.hot _ _ r2, r3, hb, b, rfl, h4.out I3 rfl⟩
  · rename_i hb
    exact ⟨ρ2, Z2, m2, d1, d2, false, I2, RelD.mono s2 I1.hot _ _ r1, r2, hb, false, rfl, iteF ⟨_, rfl, h2.out I2 rfl⟩⟩
  · exact h2.elim
/-! ### lists of values -/
theorem s_nil : PA X [] (RA X fa ca P W fun _ m => .ok [] m) := pa_nil.imp fun σ H Q ⟨_, ρ, Z, e, m, Sm, q⟩ => q.out Sm.mok rfl
theorem RA_cons {f : Env' → M → Res D} {g : Env' → M → Res (List D)} {σ : L2.St} {H : Hp} {Q : List V → Hp → Prop} (h : RA X fa ca P W (fun e m => (f e m).bind fun d m => (g e m).bind fun ds m => .ok (d :: ds) m) σ H Q) :
    tCons (RE X fa ca P W f) (RA X fa ca P W g) σ H Q := by
  obtain ⟨p, ρ, Z, e, m, Sm, h⟩ := h
  refine ⟨p, ρ, Z, e, m, Sm, (PR.bind (rel := rD X.K fa) Sm.mok.hot h).mono fun x H1 ⟨ρ1, Z1, d1, m1, _, s1, I1, r1, h1⟩ => ?_⟩
  refine ⟨p, ρ1, Z1, e, m1, Sm.step s1 I1, (PR.bind (rel := rDs X.K fa) I1.hot h1).mono fun y H2 ⟨ρ2, Z2, d2, m2, _, s2, I2, r2, h2⟩ => ?_⟩
  exact h2.out I2 ⟨x, y, rfl, RelD.mono s2 I1.hot _ _ r1, r2⟩
theorem s_cons {a : Expr} {es : List Expr} {f : Env' → M → Res D} {g : Env' → M → Res (List D)} (hn : nst a = true) (ha : PE X a (RE X fa ca P W f)) (hs : PA X es (RA X fa ca P W g)) :
    PA X (a :: es) (RA X fa ca P W fun e m => (f e m).bind fun d m => (g e m).bind fun ds m => .ok (d :: ds) m) :=
  (pa_cons ha hs (starEach_ns hn)).imp fun σ H Q h => RA_cons h
theorem s_tup {es : List Expr} {kk : Nat} {pos : Pos} {f : Env' → M → Res (List D)} (h : PA X es (RA X fa ca P W f)) : PE X (.Tuple es kk pos) (RE X fa ca P W fun e m => (f e m).bind fun ds m => if lineOk ds.length then .ok (.tup ds) m else .bad) := by
  refine (pe_tup h).imp fun σ H Q h => ?_
  obtain ⟨p, ρ, Z, e, m, Sm, h⟩ := h
  refine ⟨p, ρ, Z, e, m, Sm, (PR.bind (rel := rDs X.K fa) Sm.mok.hot h).mono fun x H1 ⟨ρ1, Z1, d1, m1, _, s1, I1, r1, h1⟩ => ?_⟩
  split at h1
  · rename_i hl
    refine ⟨by rw [← r1.length]; exact line_le hl, fun t ht => ?_⟩
    exact h1 ρ1 Z1 _ _ (Step.laid ht) (I1.laid ht) ⟨t, x, rfl, SqT.of upd_same, RelDs.mono (Step.laid ht) I1.hot _ _ r1⟩
  · exact h1.elim
/-! ### fresh lists -/
abbrev RF (X : Cx) (fa ca : Nat → Addr) (P : L2.St → Prop) (W : WX) (f : Env' → M → Res (List D)) : TE := tF X.K fa ca P W f
theorem lv_read {f : Env' → M → Res (List D)} {σ : L2.St} {H : Hp} {Q : VK} (h : RE X fa ca P W (fun e m => (f e m).bind fun ds m => .ok (.lst ds) m) σ H Q) : RF X fa ca P W f σ H Q := by
  obtain ⟨p, ρ, Z, e, m, Sm, h⟩ := h
  refine ⟨p, ρ, Z, e, m, Sm, ?_⟩
  dsimp only at h
  cases q : f e m with
  | ok ds m1 =>
    rw [q] at h
    intro ρ' Z' H' t F
    obtain ⟨s, I, r⟩ := F.value Sm.mok.hot
    exact h ρ' _ H' _ s I r
  | err c m1 => rw [q] at h; exact h
  | bad => rw [q] at h; exact h
theorem lm_read {f : Env' → M → Res (List D)} {σ : L2.St} {H : Hp} {Q : VK} (h : RE X fa ca P W (fun e m => (f e m).bind fun ds m => .ok (.ref m.length) (m ++ [.lst ds])) σ H Q) : RF X fa ca P W f σ H Q := by
  obtain ⟨p, ρ, Z, e, m, Sm, h⟩ := h
  refine ⟨p, ρ, Z, e, m, Sm, ?_⟩
  dsimp only at h
  cases q : f e m with
  | ok ds m1 =>
    rw [q] at h
    intro ρ' Z' H' t F
    obtain ⟨s, I, r⟩ := F.mut Sm.mok.hot
    exact h _ Z' H' _ s I r
  | err c m1 => rw [q] at h; exact h
  | bad => rw [q] at h; exact h
theorem s_lv {a : Expr} {f : Env' → M → Res (List D)} (h : PE X a (RF X fa ca P W f)) : PE X a (RE X fa ca P W fun e m => (f e m).bind fun ds m => .ok (.lst ds) m) := h.imp fun σ H Q h => lv_read h
theorem s_lm {a : Expr} {f : Env' → M → Res (List D)} (h : PE X a (RF X fa ca P W f)) : PE X a (RE X fa ca P W fun e m => (f e m).bind fun ds m => .ok (.ref m.length) (m ++ [.lst ds])) := h.imp fun σ H Q h => lm_read h
/-- from «the items, then a new list of them» -/
theorem PF_of {α : Type} {β : Type} {rel : Rl α β} {r : Res α} {kk : α → M → Res (List D)} {σ : L2.St} {ρ : List Addr} {Z : Addr → Prop} {H : Hp} {Q : VK} (hot : Hot Z H)
    (h : PF X.K fa ca W σ ρ Z H (r.bind kk) (fun ρ' Z' H' m ds p => Fresh X.K fa ρ Z H ρ' Z' H' m ds p) Q) :
    PR X.K fa ca W σ rel ρ Z H r fun b H1 => ∃ ρ1 Z1 a m1, Step ρ Z H ρ1 Z1 H1 ∧ MOk X.K fa ρ1 Z1 H1 m1 ∧ rel ρ1 Z1 H1 a b ∧ PF X.K fa ca W σ ρ1 Z1 H1 (kk a m1) (fun ρ' Z' H' m ds p => Fresh X.K fa ρ1 Z1 H1 ρ' Z' H' m ds p) Q := by
  cases r with
  | ok a m =>
    intro ρ1 Z1 H1 b s I rb
    refine ⟨ρ1, Z1, a, m, s, I, rb, ?_⟩
    have h' : PF X.K fa ca W σ ρ Z H (kk a m) (fun ρ' Z' H' m ds p => Fresh X.K fa ρ Z H ρ' Z' H' m ds p) Q := h
    cases q : kk a m with
    | ok ds m2 =>
      rw [q] at h'
      intro ρ' Z' H' p F
      refine h' ρ' Z' H' p ⟨s.trans hot F.step, F.mok, F.hot, F.np, ?_, F.is_⟩
      have np1 : p ∉ ρ1 := fun z => F.np (F.step.old z)
      cases z : H p with
      | none => rfl
      | some o =>
        have e := F.new
        rw [s.keep p o z (.inl fun y => np1 (s.old y))] at e
        cases e
    | err c m2 =>
      rw [q] at h'
      exact fun ρ' Z' H' t I => h' ρ' Z' H' (s.trans hot t) I
    | bad => rw [q] at h'; exact h'
  | err c m => exact h
  | bad => exact h
/-- a list just laid -/
theorem PF_laid {σ : L2.St} {ρ : List Addr} {Z : Addr → Prop} {H : Hp} {m : M} {ds : List D} {vs : List V} {Q : VK} (I : MOk X.K fa ρ Z H m) (r : RelDs X.K fa ρ Z H ds vs)
    (h : PF X.K fa ca W σ ρ Z H (.ok ds m) (fun ρ' Z' H' m ds p => Fresh X.K fa ρ Z H ρ' Z' H' m ds p) Q) : ∀ t, H t = none → Q (.ref t) (upd H t (.lst vs)) := fun t ht =>
  h ρ _ _ t (Fresh.of_laid I.hot Step.refl I r ht)
theorem s_disp {es : List Expr} {pos : Pos} {f : Env' → M → Res (List D)} (h : PA X es (RA X fa ca P W f)) : PE X (.List es pos) (RF X fa ca P W fun e m => (f e m).bind fun ds m => if lineOk ds.length then .ok ds m else .bad) := by
  refine (pe_lst h).imp fun σ H Q h => ?_
  obtain ⟨p, ρ, Z, e, m, Sm, h⟩ := h
  refine ⟨p, ρ, Z, e, m, Sm, (PF_of (rel := rDs X.K fa) Sm.mok.hot h).mono fun x H1 ⟨ρ1, Z1, d1, m1, s1, I1, r1, h1⟩ => ?_⟩
  split at h1
  · rename_i hl
    exact ⟨by rw [← r1.length]; exact line_le hl, PF_laid I1 r1 h1⟩
  · exact h1.elim
theorem s_cat {a b : Expr} {pos : Pos} {f g : Env' → M → Res D} (ha : PE X a (RE X fa ca P W f)) (hb : PE X b (RE X fa ca P W g)) :
    PE X (.BinOp a .Add b pos) (RF X fa ca P W fun e m => (f e m).bind fun x m => (g e m).bind fun y m => .of (evCatL m x y) m) := by
  refine (pe_op op_cat ha hb).imp fun σ H Q h => ?_
  obtain ⟨p, ρ, Z, e, m, Sm, h⟩ := h
  refine ⟨p, ρ, Z, e, m, Sm, (PF_of (rel := rD X.K fa) Sm.mok.hot h).mono fun x H1 ⟨ρ1, Z1, d1, m1, s1, I1, r1, h1⟩ => ?_⟩
  refine ⟨p, ρ1, Z1, e, m1, Sm.step s1 I1, (PF_of (rel := rD X.K fa) I1.hot h1).mono fun y H2 ⟨ρ2, Z2, d2, m2, s2, I2, r2, h2⟩ => ?_⟩
  cases hz : evCatL m2 d1 d2 with
  | none => rw [hz] at h2; exact h2.elim
  | some zs =>
    rw [hz] at h2
    obtain ⟨xs, ys, h3, h4, hl, rfl⟩ := catL_shape hz
    obtain ⟨p1, vs, rfl, hp, q⟩ := lst_seq I2 (RelD.mono s2 I1.hot _ _ r1) h3
    obtain ⟨p2, ws, rfl, hp2, q2⟩ := lst_seq I2 r2 h4
    have l1 := q.length
    have l2 := q2.length
    have := line_le hl
    exact ⟨p1, p2, vs, ws, rfl, rfl, hp, hp2, by omega, PF_laid I2 (q.append q2) h2⟩
theorem s_rep {a b : Expr} {pos : Pos} {f g : Env' → M → Res D} (ha : PE X a (RE X fa ca P W f)) (hb : PE X b (RE X fa ca P W g)) :
    PE X (.BinOp a .Mult b pos) (RF X fa ca P W fun e m => (f e m).bind fun x m => (g e m).bind fun y m => .of (evRepL m x y) m) := by
  refine (pe_op op_rep ha hb).imp fun σ H Q h => ?_
  obtain ⟨p, ρ, Z, e, m, Sm, h⟩ := h
  refine ⟨p, ρ, Z, e, m, Sm, (PF_of (rel := rD X.K fa) Sm.mok.hot h).mono fun x H1 ⟨ρ1, Z1, d1, m1, s1, I1, r1, h1⟩ => ?_⟩
  refine ⟨p, ρ1, Z1, e, m1, Sm.step s1 I1, (PF_of (rel := rD X.K fa) I1.hot h1).mono fun y H2 ⟨ρ2, Z2, d2, m2, s2, I2, r2, h2⟩ => ?_⟩
  cases hz : evRepL m2 d1 d2 with
  | none => rw [hz] at h2; exact h2.elim
  | some zs =>
    rw [hz] at h2
    obtain ⟨xs, i, h1, rfl, h3, hl, h5, rfl⟩ := repL_shape hz
    obtain ⟨p1, vs, rfl, hp, q⟩ := lst_seq I2 (RelD.mono s2 I1.hot _ _ r1) h1
    cases (show y = _ from r2)
    have := line_le hl
    exact ⟨p1, i, vs, rfl, rfl, hp, h5, by omega, by rw [← q.length]; exact this, PF_laid I2 (RelDs.rep _ q) h2⟩
theorem s_list {a : Expr} {n : Str} {p pos : Pos} {f : Env' → M → Res D} (G : Good T fa ca cf k S P X) (hn : n = ("list" : Str)) (hb : bltB T S n = true) (hs : nst a = true) (ha : PE X a (RE X fa ca P W f)) :
    PE X (.Call (.Name n p) [a] [] pos) (RF X fa ca P W fun e m => (f e m).bind fun x m => .of (itemsOf m x) m) := by
  subst hn
  obtain ⟨hg, hm⟩ := blt_of G hb
  refine (pe_callTy call_list_of hg hm PyProof.Rows.boot_list (pa_cons ha pa_nil (starEach_ns hs)) (by decide) (by decide) (starEach_ns hs) rfl).imp fun σ H Q h => ?_
  obtain ⟨p, ρ, Z, e, m, Sm, h⟩ := h
  refine ⟨p, ρ, Z, e, m, Sm, (PF_of (rel := rD X.K fa) Sm.mok.hot h).mono fun x H1 ⟨ρ1, Z1, d1, m1, s1, I1, r1, h1⟩ => ?_⟩
  cases hz : itemsOf m1 d1 with
  | none => rw [hz] at h1; exact h1.elim
  | some zs =>
    rw [hz] at h1
    obtain ⟨p1, vs, rfl, hp, q⟩ := items_seq I1 r1 hz
    exact ⟨p1, vs, rfl, hp, PF_laid I1 q h1⟩
end
end Dx
/-! Dx, part 10: subscripts, calls, isinstance, walks, comprehensions. -/
namespace Dx
open PySem PySem.Spec PyProof.Rows L2
section
variable {T : Tab} {fa ca : Nat → Addr} {cf : Cfg} {k : Nat} {S : SC} {P : L2.St → Prop} {X : Cx} {W : WX}
abbrev RO (X : Cx) (fa ca : Nat → Addr) (P : L2.St → Prop) (W : WX) (f : Env' → M → Res (Option Int)) : L2.TO := tR X.K fa ca P W (rEq (Option Int)) f
theorem s_idx {a b : Expr} {pos : Pos} {f g : Env' → M → Res D} (hs : notSlice b = true) (ha : PE X a (RE X fa ca P W f)) (hb : PE X b (RE X fa ca P W g)) :
    PE X (.Subscript a b pos) (RE X fa ca P W fun e m => (f e m).bind fun x m => (g e m).bind fun y m => .of (evIdx m x y) m) :=
  (pe_ix ixD_rule ha hb (notSlice_ix hs)).imp fun σ H Q h => tOp_bin (kk := fun m => evIdx m) h
theorem s_onone : PO X none (RO X fa ca P W fun _ m => .ok none m) := by
  refine ⟨fun pins s σ H Q I h => po_none.run pins s σ H Q I ?_⟩
  obtain ⟨_, ρ, Z, e, m, Sm, q⟩ := h
  exact q.out Sm.mok rfl
theorem s_osome {a : Expr} {f : Env' → M → Res D} (ha : PE X a (RE X fa ca P W f)) : PO X (some a) (RO X fa ca P W fun e m => (f e m).bind fun d m => match d with
    | .int i => .ok (some i) m
    | _ => .bad) := by
  refine ⟨fun pins s σ H Q I h => (po_some ha).run pins s σ H Q I ?_⟩
  obtain ⟨p, ρ, Z, e, m, Sm, h⟩ := h
  refine ⟨p, ρ, Z, e, m, Sm, (PR.bind (rel := rD X.K fa) Sm.mok.hot h).mono fun x H1 ⟨ρ1, Z1, d1, m1, _, s1, I1, r1, h1⟩ => ?_⟩
  split at h1
  · cases (show x = _ from r1)
    exact ⟨_, rfl, h1.out I1 rfl⟩
  · exact h1.elim
theorem s_slc {a : Expr} {lo hi : Option Expr} {p2 pos : Pos} {f : Env' → M → Res D} {g q : Env' → M → Res (Option Int)} (ha : PE X a (RE X fa ca P W f)) (hl : PO X lo (RO X fa ca P W g)) (hh : PO X hi (RO X fa ca P W q)) :
    PE X (.Subscript a (.Slice lo hi none p2) pos) (RE X fa ca P W fun e m => (f e m).bind fun x m => (g e m).bind fun l m => (q e m).bind fun h m => .of (evSlc m x l h) m) := by
  refine (pe_slice (slcR (fa := fa)) ha hl hh).imp fun σ H Q h => ?_
  obtain ⟨p, ρ, Z, e, m, Sm, h⟩ := h
  refine ⟨p, ρ, Z, e, m, Sm, (PR.bind (rel := rD X.K fa) Sm.mok.hot h).mono fun x H1 ⟨ρ1, Z1, d1, m1, _, s1, I1, r1, h1⟩ => ?_⟩
  refine ⟨p, ρ1, Z1, e, m1, Sm.step s1 I1, (PR.bind (rel := rEq (Option Int)) I1.hot h1).mono fun y H2 ⟨ρ2, Z2, d2, m2, _, s2, I2, r2, h2⟩ => ?_⟩
  refine ⟨p, ρ2, Z2, e, m2, (Sm.step s1 I1).step s2 I2, (PR.bind (rel := rEq (Option Int)) I2.hot h2).mono fun z H3 ⟨ρ3, Z3, d3, m3, _, s3, I3, r3, h3⟩ => ?_⟩
  obtain ⟨d, hd, h4⟩ := PR_of h3
  have e2 : d2 = y := r2
  have e3 : d3 = z := r3
  subst e2 e3
  exact ⟨ρ3, Z3, m3, d1, d, I3, RelD.mono s3 I2.hot _ _ (RelD.mono s2 I1.hot _ _ r1), hd, h4⟩
theorem s_slcL {a : Expr} {lo hi : Option Expr} {p2 pos : Pos} {f : Env' → M → Res D} {g q : Env' → M → Res (Option Int)} (ha : PE X a (RE X fa ca P W f)) (hl : PO X lo (RO X fa ca P W g)) (hh : PO X hi (RO X fa ca P W q)) :
    PE X (.Subscript a (.Slice lo hi none p2) pos) (RF X fa ca P W fun e m => (f e m).bind fun x m => (g e m).bind fun l m => (q e m).bind fun h m => .of ((lstOfS m x).map fun xs => cutD xs l h) m) := by
  refine (pe_slice sl_list ha hl hh).imp fun σ H Q h => ?_
  obtain ⟨p, ρ, Z, e, m, Sm, h⟩ := h
  refine ⟨p, ρ, Z, e, m, Sm, (PF_of (rel := rD X.K fa) Sm.mok.hot h).mono fun x H1 ⟨ρ1, Z1, d1, m1, s1, I1, r1, h1⟩ => ?_⟩
  refine ⟨p, ρ1, Z1, e, m1, Sm.step s1 I1, (PF_of (rel := rEq (Option Int)) I1.hot h1).mono fun y H2 ⟨ρ2, Z2, d2, m2, s2, I2, r2, h2⟩ => ?_⟩
  refine ⟨p, ρ2, Z2, e, m2, (Sm.step s1 I1).step s2 I2, (PF_of (rel := rEq (Option Int)) I2.hot h2).mono fun z H3 ⟨ρ3, Z3, d3, m3, s3, I3, r3, h3⟩ => ?_⟩
  have e2 : d2 = y := r2
  have e3 : d3 = z := r3
  subst e2 e3
  cases hz : lstOfS m3 d1 with
  | none => rw [hz] at h3; exact h3.elim
  | some zs =>
    rw [hz] at h3
    obtain ⟨p1, vs, rfl, hp, qq⟩ := lstS_seq I3 (RelD.mono s3 I2.hot _ _ (RelD.mono s2 I1.hot _ _ r1)) hz
    exact ⟨p1, vs, rfl, hp, PF_laid I3 (cut_rel qq d2 d3) h3⟩
theorem s_frz {a : Expr} {f : Env' → M → Res D} (ha : PE X a (RE X fa ca P W f)) : PE X a (RE X fa ca P W fun e m => (f e m).bind fun x m => match x with
    | .ref r => (match m[r]? with
      | some (.lst xs) => if cf.base ≤ r then .ok (.lst xs) (m.set r .gone) else .bad
      | _ => .bad)
    | x => .ok x m) := by
  refine ha.imp fun σ H Q h => RE_then h _ fun ρ Z e m d v H1 Sm r q => ?_
  split at q
  · rename_i i
    split at q
    · rename_i xs hx
      split at q
      · obtain ⟨p, rfl, hp⟩ := r
        obtain ⟨p', vs, hp', zp, hv, t⟩ := Sm.mok.get hx
        rw [hp] at hp'
        cases hp'
        obtain ⟨I', s'⟩ := Sm.mok.freeze hp
        exact q ρ _ H1 _ s' I' ⟨p, vs, rfl, hv, fun z => z.2 rfl, RelDs.mono s' Sm.mok.hot _ _ t⟩
      · exact q.elim
    · exact q.elim
  · exact q.out Sm.mok r
/-! ### calls -/
/-- a call's promise from the evaluator's result. The number of values is what the def asks: else it gives nothing -/
theorem sp_of {fn : Nat} {n : Nat} {σ : L2.St} {ρ : List Addr} {Z : Addr → Prop} {H : Hp} {m : M} {ds : List D} {vs : List V} {Q : VK} (I : MOk X.K fa ρ Z H m) (r : RelDs X.K fa ρ Z H ds vs) (hl : ∀ ds m, ds.length ≠ n → cf.call fn ds m = .bad)
    (h : PR X.K fa ca W σ (rD X.K fa) ρ Z H (cf.call fn ds m) Q) : spD X.K fa ca (cf.call fn) n vs H Q (WE W σ) := by
  refine ⟨?_, ρ, Z, m, ds, I, r, ?_⟩
  · rw [← r.length]
    by_cases q : ds.length = n
    · exact q
    · rw [hl ds m q] at h; exact h.elim
  · cases q : cf.call fn ds m with
    | ok d m1 => rw [q] at h; exact h
    | err c m1 => rw [q] at h; exact h
    | bad => rw [q] at h; exact h
theorem s_call {n : Str} {fn : Nat} {y : Expr} {ys : List Expr} {p pos : Pos} {f : Env' → M → Res (List D)} (G : Good T fa ca cf k S P X) (tk : Takes X W) (hc : S.calm = true) (hn : T.fns[fn]? = some n) (hg : gloB S n = true) (hs : ∀ e ∈ y :: ys, nst e = true)
    (ha : PA X (y :: ys) (RA X fa ca P W f)) : PE X (.Call (.Name n p) (y :: ys) [] pos) (RE X fa ca P W fun e m => (f e m).bind fun ds m => cf.call fn ds m) := by
  obtain ⟨h1, h2, fd, ps, F, b, hl, _⟩ := G.f.fns fn n hn
  obtain ⟨g1, g2⟩ := glo_of G hg
  refine (pe_callS F (G.room hc) g1 h1 h2 b (fun σ => passAt tk σ) ha g2 (starEach_ns (hs y List.mem_cons_self)) (plain_any fun e he => hs e (List.mem_cons_of_mem _ he))).imp fun σ H Q h => ?_
  obtain ⟨p, ρ, Z, e, m, Sm, h⟩ := h
  exact ⟨p, ρ, Z, e, m, Sm, (PR.bind (rel := rDs X.K fa) Sm.mok.hot h).mono fun x H1 ⟨ρ1, Z1, d1, m1, _, s1, I1, r1, h1⟩ => sp_of I1 r1 hl h1⟩
/-- a def that a slot holds, called -/
theorem s_callL {n : Str} {i : Nat} {y : Expr} {ys : List Expr} {p pos : Pos} {f : Env' → M → Res (List D)} (G : Good T fa ca cf k S P X) (tk : Takes X W) (hc : S.calm = true) (hn : nameB S i n = true) (hs : ∀ e ∈ y :: ys, nst e = true)
    (ha : PA X (y :: ys) (RA X fa ca P W f)) : PE X (.Call (.Name n p) (y :: ys) [] pos) (RE X fa ca P W fun e m => match getV e i with
      | some (.fn f') => if f' < cf.nf then (f e m).bind fun ds m => cf.call f' ds m else .bad
      | _ => .bad) := by
  obtain ⟨n1, n2, n3, n4⟩ := name_of G hn
  refine ⟨fun pins s σ H Q I h => ?_⟩
  obtain ⟨p', ρ, Z, e, m, Sm, h⟩ := h
  dsimp only at h
  split at h
  · rename_i fn hf
    obtain ⟨v, hv, rv⟩ := Sm.env i _ hf
    cases (show v = _ from rv)
    split at h
    rotate_left
    · exact h.elim
    rename_i hlt
    have hdom : ∃ x, T.fns[fn]? = some x := ⟨_, List.getElem?_eq_getElem (by rw [← G.f.dom]; exact hlt)⟩
    obtain ⟨x, hx⟩ := hdom
    obtain ⟨h1, h2, fd, ps, F, b, hl, _⟩ := G.f.fns fn x hx
    refine wpAny_Call_Name_kw (thn ((pe_var (pos := p) n1 n2 n3 n4).run pins s σ H (fun v H1 => v = .ref (fa fn) ∧ H1 = H) I ⟨_, hv, rfl, rfl⟩) fun u s1 w => ?_)
    obtain ⟨v, H1, I1, r1, rfl, rfl⟩ := w
    cases r1
    refine PySem.W.callWith_K (h₀ := X.base) I.ok.mod.kin h2 (thn (ha.run pos pins s1 σ _ _ I1 ⟨p', ρ, Z, e, m, Sm, PR.bind (rel := rDs X.K fa) Sm.mok.hot h⟩) fun us s2 w => ?_) (starEach_ns (hs y List.mem_cons_self)) (plain_any fun e he => hs e (List.mem_cons_of_mem _ he))
    obtain ⟨vs, H2, I2, r, ρ1, Z1, d1, m1, _, s1, I1', r1, h1⟩ := w
    exact ⟨I2.kIn, run_fnS F (G.room hc) b (passAt tk σ) I2 r (sp_of I1' r1 hl h1)⟩
  · exact h.elim
theorem pickL_rel {K : PySem.W.Frag} {ρ : List Addr} {Z : Addr → Prop} {H : Hp} {ds : List D} {vs : List V} (r : RelDs K fa ρ Z H ds vs) : ∀ {pm : List Nat} {zs : List D}, pickL ds pm = some zs → ∃ ws, pickL vs pm = some ws ∧ RelDs K fa ρ Z H zs ws
  | [], zs, h => by cases (show some ([] : List D) = some zs from h); exact ⟨[], rfl, rfl⟩
  | i :: pm, zs, h => by
    obtain ⟨d, h1, h2⟩ := Option.bind_eq_some_iff.mp h
    obtain ⟨zs', h3, rfl⟩ := Option.map_eq_some_iff.mp h2
    obtain ⟨v, hv, rv⟩ := r.get h1
    obtain ⟨ws, hw, rw_⟩ := pickL_rel r (pm := pm) h3
    exact ⟨v :: ws, by show (vs[i]?).bind _ = _; rw [hv]; show (pickL vs pm).map _ = _; rw [hw]; rfl, v, ws, rfl, rv, rw_⟩
theorem pickL_vals {vs : List V} {us : List Value} (r : Vals vs us) : ∀ {pm : List Nat} {zs : List V}, pickL vs pm = some zs → ∃ ws, pickL us pm = some ws ∧ Vals zs ws
  | [], zs, h => by cases (show some ([] : List V) = some zs from h); exact ⟨[], rfl, .nil⟩
  | i :: pm, zs, h => by
    obtain ⟨d, h1, h2⟩ := Option.bind_eq_some_iff.mp h
    obtain ⟨zs', h3, rfl⟩ := Option.map_eq_some_iff.mp h2
    obtain ⟨v, hv, rv⟩ := r.get h1
    obtain ⟨ws, hw, rw_⟩ := pickL_vals r (pm := pm) h3
    exact ⟨v :: ws, by show (us[i]?).bind _ = _; rw [hv]; show (pickL us pm).map _ = _; rw [hw]; rfl, .cons rv rw_⟩
theorem kw_all : ∀ {kws : List Keyword} {pos : Pos} {env : Env}, (∀ q ∈ kws, q.arg.isSome = true) → (backToKw pos (keywordEach kws env)).all (·.1.isSome) = true ∧ (backToKw pos (keywordEach kws env)).any (·.1.isNone) = false ∧ (backToKw pos (keywordEach kws env)).filterMap (·.1) = kws.filterMap (·.arg)
  | [], _, _, _ => ⟨rfl, rfl, rfl⟩
  | ⟨nm, v, p⟩ :: kws, pos, env, h => by
    obtain ⟨h1, h2, h3⟩ := kw_all (kws := kws) (pos := pos) (env := env) fun q hq => h q (List.mem_cons_of_mem _ hq)
    have h0 : nm.isSome = true := h _ List.mem_cons_self
    obtain ⟨x, rfl⟩ := Option.isSome_iff_exists.mp h0
    unfold backToKw at h1 h2 h3 ⊢
    simp only [keywordEach, List.map_cons, List.all_cons, List.any_cons, List.filterMap_cons]
    exact ⟨by rw [h1]; rfl, by rw [h2]; rfl, by rw [h3]⟩
theorem s_knil : PK X [] (RA X fa ca P W fun _ m => .ok [] m) := by
  refine ⟨fun pos pins s σ H Q I h => pk_nil.run pos pins s σ H Q I ?_⟩
  obtain ⟨_, ρ, Z, e, m, Sm, q⟩ := h
  exact q.out Sm.mok rfl
theorem s_kcons {nm : Option Str} {a : Expr} {kpos : Pos} {es : List Keyword} {f : Env' → M → Res D} {g : Env' → M → Res (List D)} (ha : PE X a (RE X fa ca P W f)) (hs : PK X es (RA X fa ca P W g)) :
    PK X (⟨nm, a, kpos⟩ :: es) (RA X fa ca P W fun e m => (f e m).bind fun d m => (g e m).bind fun ds m => .ok (d :: ds) m) :=
  ⟨fun pos pins s σ H Q I h => (pk_cons ha hs).run pos pins s σ H Q I (RA_cons h)⟩
/-- a call by keywords, places too -/
theorem s_callK {n : Str} {fn : Nat} {ys : List Expr} {kws : List Keyword} {pm : List Nat} {p pos : Pos} {f g : Env' → M → Res (List D)} (G : Good T fa ca cf k S P X) (tk : Takes X W) (hc : S.calm = true) (hn : T.fns[fn]? = some n) (hg : gloB S n = true)
    (hs : ∀ e ∈ ys, nst e = true) (hk : ∀ q ∈ kws, q.arg.isSome = true) (hm : (fn, ys.length, kws.filterMap (·.arg), pm) ∈ T.kws)
    (h0 : ys = [] → ∀ e m, f e m = .ok [] m) (hlen : ∀ e m ds m1, f e m = .ok ds m1 → ds.length = ys.length) (hlen2 : ∀ e m ds m1, g e m = .ok ds m1 → ds.length = (kws.filterMap (·.arg)).length) (ha : PA X ys (RA X fa ca P W f)) (hb : PK X kws (RA X fa ca P W g)) :
    PE X (.Call (.Name n p) ys kws pos) (RE X fa ca P W fun e m => (f e m).bind fun ds m => (g e m).bind fun zs m => match pickL (ds ++ zs) pm with
      | some vs => cf.call fn vs m
      | none => .bad) := by
  obtain ⟨h1, h2, fd, ps, F, b, hl, hkw⟩ := G.f.fns fn n hn
  obtain ⟨g1, g2⟩ := glo_of G hg
  have kb := hkw _ hm rfl
  obtain ⟨k1, k2, k3⟩ := kw_all (pos := pos) (env := X.env) hk
  refine ⟨fun pins s σ H Q I h => ?_⟩
  obtain ⟨p', ρ, Z, e, m, Sm, h⟩ := h
  refine wpAny_Call_Name_kw (ld_glob I g1 h1 ?_ g2)
  have body : ∀ (us : List Value) (s1 : Shared) (vs : List V) (H1 : Hp), Inv X pins σ H1 s1 → Vals vs us → (∃ ρ1 Z1 d1 m1, f e m = .ok d1 m1 ∧ Step ρ Z H ρ1 Z1 H1 ∧ MOk X.K fa ρ1 Z1 H1 m1 ∧ RelDs X.K fa ρ1 Z1 H1 d1 vs ∧
      PR X.K fa ca W σ (rD X.K fa) ρ1 Z1 H1 ((g e m1).bind fun zs m => match pickL (d1 ++ zs) pm with
      | some vs => cf.call fn vs m
      | none => .bad) Q) →
      wpAny (model X.prog X.w) X.A (evalAll ((backToKw pos (keywordEach kws X.env)).map (·.2))) (fun ws s2 => X.K.In s2.heap ∧ wpAny (model X.prog X.w) X.A (call (.ref (fa fn)) us (((backToKw pos (keywordEach kws X.env)).filterMap (·.1)).zip ws)) (EP X pins σ Q) X.xe s2) X.xe s1 := by
    intro us s1 vs H1 I1 rv w
    obtain ⟨ρ1, Z1, d1, m1, q1, s1', I1', r1, h1'⟩ := w
    refine thn (hb.run pos pins s1 σ H1 _ I1 ⟨p', ρ1, Z1, e, m1, Sm.step s1' I1', PR.bind (rel := rDs X.K fa) I1'.hot h1'⟩) fun ws s2 w => ⟨?_, ?_⟩
    · obtain ⟨_, _, I2, _⟩ := w; exact I2.kIn
    · obtain ⟨zs, H2, I2, rz, ρ2, Z2, d2, m2, q2, s2', I2', r2, h2'⟩ := w
      split at h2'
      · rename_i ds3 hp3
        obtain ⟨vs3, hv3, rv3⟩ := pickL_rel (fa := fa) (ds := d1 ++ d2) ((RelDs.mono s2' I1'.hot _ _ r1).append r2) hp3
        obtain ⟨us3, hu3, ru3⟩ := pickL_vals (rv.append rz) hv3
        rw [k3]
        have l3 : us3.length = ps.length := by
          rw [← ru3.length, ← rv3.length]
          by_cases q : ds3.length = ps.length
          · exact q
          · rw [hl ds3 m2 q] at h2'; exact h2'.elim
        have bt := kb s2 us ws us3 I2.kIn (by rw [← rv.length, ← r1.length]; exact hlen e m d1 m1 q1) (by rw [← rz.length, ← r2.length]; exact hlen2 e m1 d2 m2 q2) hu3 l3
        refine wpAny_call (codeAny_mono (F.run X.A X.stack s2 H2 ⟨us, (kws.filterMap (·.arg)).zip ws⟩ us3 vs3 Q (WE W σ) (G.room hc) I2.env0 bt ru3 (sp_of I2' rv3 hl h2')) fun r s' hq => ?_)
        cases r with
        | error e => exact passAt tk σ pins H2 s2 e s' I2 hq
        | ok fl =>
          cases fl with
          | ret u => exact I2.after hq
          | next => exact False.elim hq
          | brk => exact False.elim hq
          | cont => exact False.elim hq
      · exact h2'.elim
  cases ys with
  | nil =>
    refine PySem.W.callWith_KW0 (h₀ := X.base) I.ok.mod.kin h2 k1 ?_ (by rw [k2]; rfl)
    have e0 := h0 rfl e m
    have h' : PR X.K fa ca W σ (rD X.K fa) ρ Z H ((f e m).bind fun ds m => (g e m).bind fun zs m => match pickL (ds ++ zs) pm with
      | some vs => cf.call fn vs m
      | none => .bad) Q := h
    rw [e0] at h'
    exact body [] s [] H I .nil ⟨ρ, Z, [], m, e0, Step.refl, Sm.mok, rfl, h'⟩
  | cons y ys =>
    refine PySem.W.callWith_KW (h₀ := X.base) I.ok.mod.kin h2 k1 (thn (ha.run pos pins s σ H _ I ⟨p', ρ, Z, e, m, Sm, PR.bind (rel := rDs X.K fa) Sm.mok.hot h⟩) fun us s1 w => ?_) ?_ (starEach_ns (hs y List.mem_cons_self))
    · obtain ⟨vs, H1, I1, rv, w⟩ := w
      exact body us s1 vs H1 I1 rv w
    · rw [k2, Bool.or_false]
      exact plain_any hs
end
end Dx
/-! Dx, part 11: built-ins, isinstance, walks, targets, comprehensions. -/
namespace Dx
open PySem PySem.Spec PyProof.Rows L2
section
variable {T : Tab} {fa ca : Nat → Addr} {cf : Cfg} {k : Nat} {S : SC} {P : L2.St → Prop} {X : Cx} {W : WX}
theorem blt_boot (b : Blt) : bootBuiltins (bltName b) = some (bltV b) ∧ bltName b ≠ ("__name__" : Str) ∧ (bltName b == ("__debug__" : Str)) = false := by
  cases b <;> exact ⟨by decide +kernel, by decide +kernel, by decide +kernel⟩
theorem tCB_of {kk : M → List D → Option D} {f : Env' → M → Res (List D)} {σ : L2.St} {H : Hp} {Q : VK} (h : RE X fa ca P W (fun e m => (f e m).bind fun ds m => .of (kk m ds) m) σ H Q) : tCB (rBlt X.K fa kk) (RA X fa ca P W f) σ H Q := by
  obtain ⟨p, ρ, Z, e, m, Sm, h⟩ := h
  refine ⟨p, ρ, Z, e, m, Sm, (PR.bind (rel := rDs X.K fa) Sm.mok.hot h).mono fun x H1 ⟨ρ1, Z1, d1, m1, _, s1, I1, r1, h1⟩ => ?_⟩
  obtain ⟨d, hd, h2⟩ := PR_of h1
  exact ⟨ρ1, Z1, m1, d1, d, I1, r1, hd, h2⟩
theorem s_blt {b : Blt} {n : Str} {y : Expr} {ys : List Expr} {p pos : Pos} {f : Env' → M → Res (List D)} (G : Good T fa ca cf k S P X) (hc : S.calm = true) (hn : n = bltName b) (hb : bltB T S n = true) (hs : ∀ e ∈ y :: ys, nst e = true)
    (ha : PA X (y :: ys) (RA X fa ca P W f)) : PE X (.Call (.Name n p) (y :: ys) [] pos) (RE X fa ca P W fun e m => (f e m).bind fun ds m => .of (evBlt m b ds) m) := by
  obtain ⟨hg, hm⟩ := blt_of G hb
  subst hn
  obtain ⟨b1, b2, b3⟩ := blt_boot b
  have c := bltR (fa := fa) (G.calm hc) b
  have st := starEach_ns (es := ys) (env := X.env) (hs y List.mem_cons_self)
  have pl := plain_any (pos := pos) (env := X.env) fun e he => hs e (List.mem_cons_of_mem _ he)
  have fin : ∀ {t : TE}, PE X (.Call (.Name (bltName b) p) (y :: ys) [] pos) t → (∀ σ H Q, tCB (rBlt X.K fa fun m => evBlt m b) (RA X fa ca P W f) σ H Q → t σ H Q) →
      PE X (.Call (.Name (bltName b) p) (y :: ys) [] pos) (RE X fa ca P W fun e m => (f e m).bind fun ds m => .of (evBlt m b ds) m) := fun {t} h hk => h.imp fun σ H Q q => hk σ H Q (tCB_of q)
  cases b with
  | toInt => exact fin (pe_callTy (T := "int") c hg hm b1 ha b2 b3 st pl) fun _ _ _ h => h
  | toTuple => exact fin (pe_callTy (T := "tuple") c hg hm b1 ha b2 b3 st pl) fun _ _ _ h => h
  | len => exact fin (pe_callB (id := "len") c hg hm b1 ha b2 b3 st pl) fun _ _ _ h => h
  | abs => exact fin (pe_callB (id := "abs") c hg hm b1 ha b2 b3 st pl) fun _ _ _ h => h
  | all => exact fin (pe_callB (id := "all") c hg hm b1 ha b2 b3 st pl) fun _ _ _ h => h
  | any => exact fin (pe_callB (id := "any") c hg hm b1 ha b2 b3 st pl) fun _ _ _ h => h
  | sum => exact fin (pe_callB (id := "sum") c hg hm b1 ha b2 b3 st pl) fun _ _ _ h => h
  | max2 => exact fin (pe_callB (id := "max") c hg hm b1 ha b2 b3 st pl) fun _ _ _ h => h
  | min2 => exact fin (pe_callB (id := "min") c hg hm b1 ha b2 b3 st pl) fun _ _ _ h => h
/-! ### isinstance -/
theorem ty_boot (t : Ty) : bootBuiltins (tyS t) = some (.type (tyN t)) ∧ tyS t ≠ ("__name__" : Str) ∧ (tyS t == ("__debug__" : Str)) = false := by
  cases t <;> exact ⟨by decide +kernel, by decide +kernel, by decide +kernel⟩
/-- the classes' names, as values -/
def tTys (ts : List Ty) : TA := fun _ H Q => Q (ts.map fun t => V.ty (tyN t)) H
theorem s_ty {t : Ty} {n : Str} {p : Pos} (G : Good T fa ca cf k S P X) (hn : n = tyS t) (hb : bltB T S n = true) : PE X (.Name n p) (tC (.ty (tyN t))) := by
  subst hn
  obtain ⟨hg, hm⟩ := blt_of G hb
  obtain ⟨b1, b2, b3⟩ := ty_boot t
  exact pe_bltn hg hm b1 rfl b2 b3
theorem s_tys (G : Good T fa ca cf k S P X) : ∀ {ts : List Ty} {xs : List Expr}, chkTys T S ts xs = true → (∀ x ∈ xs, nst x = true) → PA X xs (tTys ts)
  | [], [], _, _ => pa_nil
  | [], _ :: _, h, _ => by cases h
  | _ :: _, [], h, _ => by cases h
  | t :: ts, x :: xs, h, hs => by
    unfold chkTys at h
    rw [Bool.and_eq_true] at h
    obtain ⟨h1, h2⟩ := h
    split at h1
    · rename_i n p
      rw [Bool.and_eq_true] at h1
      exact (pa_cons (s_ty G (of_decide_eq_true h1.1) h1.2) (s_tys G h2 fun y hy => hs y (List.mem_cons_of_mem _ hy)) (starEach_ns rfl)).imp fun σ H Q h => h
    · cases h1
theorem tys_cls : ∀ ts : List Ty, Paired ClsV (ts.map fun t => V.ty (tyN t)) (ts.map fun t => Value.type (tyN t))
  | [] => .nil
  | t :: ts => .cons (.ty _) (tys_cls ts)
theorem isi_boot : bootBuiltins ("isinstance" : Str) = some (.builtin "isinstance") := by decide +kernel
theorem s_isI1 {n : Str} {a z : Expr} {t : Ty} {p pos : Pos} {f : Env' → M → Res D} (G : Good T fa ca cf k S P X) (hn : n = ("isinstance" : Str)) (hb : bltB T S n = true) (hs : nst a = true) (hz : nst z = true) (ht : chkTys T S [t] [z] = true)
    (ha : PE X a (RE X fa ca P W f)) : PE X (.Call (.Name n p) [a, z] [] pos) (RE X fa ca P W fun e m => (f e m).bind fun x m => .of ((evIsI m x [t]).map .bl) m) := by
  subst hn
  obtain ⟨hg, hm⟩ := blt_of G hb
  have hz' := s_tys G ht (fun x hx => by rw [List.mem_singleton.mp hx]; exact hz)
  have pa : PA X [a, z] (tCons (RE X fa ca P W f) (tTys [t])) := pa_cons ha hz' (starEach_ns hs)
  refine (pe_callB (call_isi) hg hm isi_boot pa (by decide) (by decide) (starEach_ns hs) (plain_any fun e he => by rw [List.mem_singleton.mp he]; exact hz)).imp fun σ H Q h => ?_
  refine RE_then h _ fun ρ Z e m d v H1 Sm r q => ?_
  obtain ⟨d', hd, h2⟩ := PR_of q
  obtain ⟨b, hb, rfl⟩ := Option.map_eq_some_iff.mp hd
  obtain ⟨ty, h3, h4⟩ := isi_ty Sm.mok r hb
  refine ⟨v, _, ty, _, b, rfl, .ty (tyN t), h3, ?_, h2.out Sm.mok rfl⟩
  have h5 : PySem.W.kitAny X.K ty [.type (tyN t)] = some b := h4
  unfold PySem.W.kitAny at h5
  split at h5
  · rename_i e; rw [e]; exact h5
  · rename_i e
    have h6 : some false = some b := h5
    rw [e]; exact h6
  · cases h5
theorem s_isIT {n : Str} {a : Expr} {zs : List Expr} {ts : List Ty} {kk : Nat} {p p2 pos : Pos} {f : Env' → M → Res D} (G : Good T fa ca cf k S P X) (hn : n = ("isinstance" : Str)) (hb : bltB T S n = true) (hs : nst a = true) (hz : ∀ z ∈ zs, nst z = true) (hl : ts.length ≤ 1000) (ht : chkTys T S ts zs = true)
    (ha : PE X a (RE X fa ca P W f)) : PE X (.Call (.Name n p) [a, .Tuple zs kk p2] [] pos) (RE X fa ca P W fun e m => (f e m).bind fun x m => .of ((evIsI m x ts).map .bl) m) := by
  subst hn
  obtain ⟨hg, hm⟩ := blt_of G hb
  have pa : PA X [a, .Tuple zs kk p2] (tCons (RE X fa ca P W f) (tCons (tTup (tTys ts)) tNil)) := pa_cons ha (pa_cons (pe_tup (s_tys G ht hz)) pa_nil (starEach_ns rfl)) (starEach_ns hs)
  refine (pe_callB (call_isiT) hg hm isi_boot pa (by decide) (by decide) (starEach_ns hs) (plain_any fun e he => by rw [List.mem_singleton.mp he]; rfl)).imp fun σ H Q h => ?_
  refine RE_then h _ fun ρ Z e m d v H1 Sm r q => ?_
  obtain ⟨d', hd, h2⟩ := PR_of q
  obtain ⟨b, hb, rfl⟩ := Option.map_eq_some_iff.mp hd
  refine ⟨by rw [List.length_map, sizeLine_eq]; omega, fun t htn => ?_⟩
  have I2 := Sm.mok.laid (o := .tup (ts.map fun t => V.ty (tyN t))) htn
  obtain ⟨ty, h3, h4⟩ := isi_ty I2 (RelD.mono (Step.laid htn) Sm.mok.hot _ _ r) hb
  exact ⟨v, t, _, ty, _, b, rfl, upd_same, tys_cls ts, h3, h4, h2 ρ Z _ _ (Step.laid htn) I2 rfl⟩
theorem s_excIs {n y z : Str} {i : Nat} {p p2 p3 pos : Pos} (G : Good T fa ca cf k S P X) (hn : n = ("isinstance" : Str)) (hb : bltB T S n = true) (hi : S.exc = some i) (hy : nameB S i y = true) (hz : z = ("ValueError" : Str)) (hbz : bltB T S z = true) :
    PE X (.Call (.Name n p) [.Name y p2, .Name z p3] [] pos) (RE X fa ca P W fun _ m => .ok (.bl true) m) := by
  subst hn hz
  obtain ⟨hg, hm⟩ := blt_of G hb
  obtain ⟨hgz, hmz⟩ := blt_of G hbz
  obtain ⟨n1, n2, n3, n4⟩ := name_of G hy
  obtain ⟨a, Dc, h1, h2, h3⟩ := G.exc i hi
  have pz : PE X (.Name ("ValueError" : Str) p3) (tC (.ty "ValueError")) := pe_bltn hgz hmz (u := .type "ValueError") (by decide +kernel) rfl (by decide) (by decide)
  refine (pe_callB h2 hg hm isi_boot (pa_cons (pe_var n1 n2 n3 n4) (pa_cons pz pa_nil (starEach_ns rfl)) (starEach_ns rfl)) (by decide) (by decide) (starEach_ns rfl) rfl).imp fun σ H Q h => ?_
  obtain ⟨hp, ρ, Z, e, m, Sm, q⟩ := h
  exact ⟨_, h1 σ hp, .ty "ValueError", .type "ValueError", true, rfl, fun u hu => hu, h3, q.out Sm.mok rfl⟩
/-! ### walks -/
theorem PI_bind {α β : Type} {rel : Rl α β} {r : Res α} {g : α → M → Res Src} {σ : L2.St} {ρ : List Addr} {Z : Addr → Prop} {H : Hp} {R : It → Hp → Prop} (hot : Hot Z H) (h : PI' X.K fa ca W σ ρ Z H (r.bind g) R) :
    PR X.K fa ca W σ rel ρ Z H r fun b H1 => ∃ ρ1 Z1 a m1, Step ρ Z H ρ1 Z1 H1 ∧ MOk X.K fa ρ1 Z1 H1 m1 ∧ rel ρ1 Z1 H1 a b ∧ PI' X.K fa ca W σ ρ1 Z1 H1 (g a m1) R := by
  cases r with
  | ok d m1 =>
    intro ρ1 Z1 H1 v s I r
    refine ⟨ρ1, Z1, d, m1, s, I, r, ?_⟩
    have h' : PI' X.K fa ca W σ ρ Z H (g d m1) R := h
    cases q2 : g d m1 with
    | ok s2 m2 =>
      rw [q2] at h'
      cases s2 with
      | seq xs => exact fun ρ' Z' H' J t I' gs => h' ρ' Z' H' J (s.trans hot t) I' gs
      | rf r n => exact fun ρ' Z' H' J t I' gs => h' ρ' Z' H' J (s.trans hot t) I' gs
    | err c m2 => rw [q2] at h'; exact fun ρ' Z' H' t I' => h' ρ' Z' H' (s.trans hot t) I'
    | bad => rw [q2] at h'; exact h'
  | err c m1 => exact h
  | bad => exact h
theorem PI_then {f : Env' → M → Res D} {g : D → M → Res Src} {σ : L2.St} {H : Hp} {R : It → Hp → Prop} (h : tI X.K fa ca P W (fun e m => (f e m).bind g) σ H R) (Q' : VK)
    (hk : ∀ ρ Z e m d v H1, Sim X.K fa ρ Z H1 σ e m → RelD X.K fa ρ Z H1 d v → PI' X.K fa ca W σ ρ Z H1 (g d m) R → Q' v H1) : RE X fa ca P W f σ H Q' := by
  obtain ⟨p, ρ, Z, e, m, Sm, h⟩ := h
  exact ⟨p, ρ, Z, e, m, Sm, (PI_bind (rel := rD X.K fa) Sm.mok.hot h).mono fun v H1 ⟨ρ1, Z1, d1, m1, s1, I1, r1, h1⟩ => hk ρ1 Z1 e m1 d1 v H1 (Sm.step s1 I1) r1 h1⟩
theorem lst_stays {ρ : List Addr} {Z : Addr → Prop} {H : Hp} {p : Addr} {vs : List V} (h : H p = some (.lst vs)) (n : ¬ Z p) : ∀ ρ' Z' H', Step ρ Z H ρ' Z' H' → SqL X.K H' p vs := fun _ _ _ s => SqL.of (lst_mono s h n).1
theorem s_seq {tg a : Expr} {f : Env' → M → Res D} (ha : PE X a (RE X fa ca P W f)) : PI X tg a (tI X.K fa ca P W fun e m => (f e m).bind fun x m => match x with
    | .tup xs => .ok (.seq xs) m
    | .lst xs => .ok (.seq xs) m
    | .ref r => (match m[r]? with
      | some (.lst xs) => .ok (.rf r xs.length) m
      | _ => .bad)
    | _ => .bad) := by
  refine ⟨fun pins s σ H R I h => (pi_dyn ha).run pins s σ H R I (PI_then h _ fun ρ Z e m d v H1 Sm r q => ?_)⟩
  split at q
  · obtain ⟨p, vs, rfl, hp, t⟩ := r
    exact ⟨p, rfl, .inr ⟨vs, hp, q ρ Z H1 _ Step.refl Sm.mok (goes_tup hp Sm.mok.hot t)⟩⟩
  · obtain ⟨p, vs, rfl, hp, n, t⟩ := r
    exact ⟨p, rfl, .inl ⟨vs, SqL.of hp, q ρ Z H1 _ Step.refl Sm.mok (goes_list (lst_stays hp n) Sm.mok.hot t)⟩⟩
  · split at q
    · rename_i hx
      obtain ⟨p, rfl, hp⟩ := r
      obtain ⟨p', vs, hp', zp, hv, t⟩ := Sm.mok.get hx
      rw [hp] at hp'
      cases hp'
      exact ⟨p, rfl, .inl ⟨vs, SqL.of hv, q ρ Z H1 p Step.refl Sm.mok hp⟩⟩
    · exact q.elim
  · exact q.elim
theorem s_rng1 {tg a : Expr} {n : Str} {p pos : Pos} {f : Env' → M → Res D} (G : Good T fa ca cf k S P X) (hn : n = ("range" : Str)) (hb : bltB T S n = true) (hs : nst a = true) (ha : PE X a (RE X fa ca P W f)) :
    PI X tg (.Call (.Name n p) [a] [] pos) (tI X.K fa ca P W fun e m => (f e m).bind fun x m => match x with
    | .int j => if decide (-(2 ^ 62) ≤ j) && decide (j < 2 ^ 62) then .ok (.seq ((List.range j.toNat).map fun (i : Nat) => .int i)) m else .bad
    | _ => .bad) := by
  subst hn
  obtain ⟨hg, hm⟩ := blt_of G hb
  refine ⟨fun pins s σ H R I h => (pi_range1 hg hm (pa_cons ha pa_nil (starEach_ns hs)) (starEach_ns hs)).run pins s σ H R I (PI_then h _ fun ρ Z e m d v H1 Sm r q => ?_)⟩
  split at q
  · rename_i j
    split at q
    · rename_i hj
      simp only [Bool.and_eq_true, decide_eq_true_eq] at hj
      cases (show v = _ from r)
      refine ⟨j, rfl, hj.1, hj.2, q ρ Z H1 _ Step.refl Sm.mok ?_⟩
      have g := goes_range (K := X.K) (fa := fa) (ρ := ρ) (Z := Z) (H := H1) (lo := 0) (n := j.toNat)
      simpa using g
    · exact q.elim
  · exact q.elim
theorem s_rng2 {tg a b : Expr} {n : Str} {p pos : Pos} {f g : Env' → M → Res D} (G : Good T fa ca cf k S P X) (hn : n = ("range" : Str)) (hb : bltB T S n = true) (hs : nst a = true) (hs2 : nst b = true) (ha : PE X a (RE X fa ca P W f)) (hbb : PE X b (RE X fa ca P W g)) :
    PI X tg (.Call (.Name n p) [a, b] [] pos) (tI X.K fa ca P W fun e m => (f e m).bind fun x m => (g e m).bind fun y m => match x, y with
    | .int i, .int j => if decide (-(2 ^ 62) ≤ i) && decide (i < 2 ^ 62) && decide (-(2 ^ 62) ≤ j) && decide (j < 2 ^ 62) then .ok (.seq ((List.range (j - i).toNat).map fun (k : Nat) => .int (i + k))) m else .bad
    | _, _ => .bad) := by
  subst hn
  obtain ⟨hg, hm⟩ := blt_of G hb
  have st : starEach [a, b] X.env = [(false, eval a X.env), (false, eval b X.env)] := by rw [starEach_ns hs, starEach_ns hs2]; rfl
  refine ⟨fun pins s σ H R I h => (pi_range2 hg hm (pa_cons ha (pa_cons hbb pa_nil (starEach_ns hs2)) (starEach_ns hs)) st (starEach_ns hs2)).run pins s σ H R I ?_⟩
  obtain ⟨p, ρ, Z, e, m, Sm, h⟩ := h
  refine ⟨p, ρ, Z, e, m, Sm, (PI_bind (rel := rD X.K fa) Sm.mok.hot h).mono fun v H1 ⟨ρ1, Z1, d1, m1, s1, I1, r1, h1⟩ => ?_⟩
  refine ⟨p, ρ1, Z1, e, m1, Sm.step s1 I1, (PI_bind (rel := rD X.K fa) I1.hot h1).mono fun w H2 ⟨ρ2, Z2, d2, m2, s2, I2, r2, q⟩ => ?_⟩
  split at q
  · rename_i i j _
    split at q
    · rename_i hj
      simp only [Bool.and_eq_true, decide_eq_true_eq] at hj
      cases (show v = _ from r1)
      cases (show w = _ from r2)
      exact ⟨i, j, rfl, ⟨hj.1.1.1, hj.1.1.2, hj.1.2, hj.2⟩, q ρ2 Z2 H2 _ Step.refl I2 goes_range⟩
    · exact q.elim
  · exact q.elim
theorem s_enum {a : Expr} {elts : List Expr} {kk : Nat} {tpos : Pos} {n : Str} {p pos : Pos} {f : Env' → M → Res D} (G : Good T fa ca cf k S P X) (hn : n = ("enumerate" : Str)) (hb : bltB T S n = true) (hs : nst a = true) (ha : PE X a (RE X fa ca P W f)) :
    PI X (.Tuple elts kk tpos) (.Call (.Name n p) [a] [] pos) (tI X.K fa ca P W fun e m => (f e m).bind fun x m => match x with
    | .lst xs => .ok (.seq ((xs.zipIdx).map fun p => .tup [.int p.2, p.1])) m
    | _ => .bad) := by
  subst hn
  obtain ⟨hg, hm⟩ := blt_of G hb
  refine ⟨fun pins s σ H R I h => (pi_enum hg hm (pa_cons ha pa_nil (starEach_ns hs)) (starEach_ns hs)).run pins s σ H R I (PI_then h _ fun ρ Z e m d v H1 Sm r q => ?_)⟩
  split at q
  · obtain ⟨p, vs, rfl, hp, n, t⟩ := r
    exact ⟨p, vs, rfl, SqL.of hp, q ρ Z H1 _ Step.refl Sm.mok (goes_enum (lst_stays hp n) Sm.mok.hot t)⟩
  · exact q.elim
theorem s_zip {a b : Expr} {elts : List Expr} {kk : Nat} {tpos : Pos} {n : Str} {p pos : Pos} {f g : Env' → M → Res D} (G : Good T fa ca cf k S P X) (hn : n = ("zip" : Str)) (hb : bltB T S n = true) (hs : nst a = true) (hs2 : nst b = true) (ha : PE X a (RE X fa ca P W f)) (hbb : PE X b (RE X fa ca P W g)) :
    PI X (.Tuple elts kk tpos) (.Call (.Name n p) [a, b] [] pos) (tI X.K fa ca P W fun e m => (f e m).bind fun x m => (g e m).bind fun y m => match x, y with
    | .lst xs, .lst ys => .ok (.seq (List.zipWith (fun p q => .tup [p, q]) xs ys)) m
    | .tup xs, .tup ys => .ok (.seq (List.zipWith (fun p q => .tup [p, q]) xs ys)) m
    | _, _ => .bad) := by
  subst hn
  obtain ⟨hg, hm⟩ := blt_of G hb
  refine ⟨fun pins s σ H R I h => (RZ.pi_zipA hg hm (pa_cons ha (pa_cons hbb pa_nil (starEach_ns hs2)) (starEach_ns hs)) (starEach_ns hs) (plain_any fun e he => by rw [List.mem_singleton.mp he]; exact hs2)).run pins s σ H R I ?_⟩
  obtain ⟨p, ρ, Z, e, m, Sm, h⟩ := h
  refine ⟨p, ρ, Z, e, m, Sm, (PI_bind (rel := rD X.K fa) Sm.mok.hot h).mono fun v H1 ⟨ρ1, Z1, d1, m1, s1, I1, r1, h1⟩ => ?_⟩
  refine ⟨p, ρ1, Z1, e, m1, Sm.step s1 I1, (PI_bind (rel := rD X.K fa) I1.hot h1).mono fun w H2 ⟨ρ2, Z2, d2, m2, s2, I2, r2, q⟩ => ?_⟩
  have r1 := RelD.mono s2 I1.hot _ _ r1
  split at q
  · obtain ⟨p1, vs, rfl, hp1, n1, t1⟩ := r1
    obtain ⟨p2, ws, rfl, hp2, n2, t2⟩ := r2
    exact ⟨p1, p2, vs, ws, rfl, .inl ⟨SqL.of hp1, SqL.of hp2, q ρ2 Z2 H2 _ Step.refl I2 (goes_zip (lst_stays hp1 n1) (lst_stays hp2 n2) I2.hot t1 t2)⟩⟩
  · obtain ⟨p1, vs, rfl, hp1, t1⟩ := r1
    obtain ⟨p2, ws, rfl, hp2, t2⟩ := r2
    exact ⟨p1, p2, vs, ws, rfl, .inr ⟨hp1, hp2, q ρ2 Z2 H2 _ Step.refl I2 (goes_zipT hp1 hp2 I2.hot t1 t2)⟩⟩
  · exact q.elim
/-! ### targets -/
/-- a target: the slots of it alone change -/
def gD (K : PySem.W.Frag) (fa : Nat → Addr) (t : Tg) : TG := fun v σ H Q => ∃ ρ Z e m d e', Sim K fa ρ Z H σ e m ∧ RelD K fa ρ Z H d v ∧ assignTg t d e = some e' ∧
  ∀ σ', Sim K fa ρ Z H σ' e' m → (∀ i, i ∉ tgIx t → σ'[i]? = σ[i]?) → σ'.length = σ.length → Q σ' H
def gDs (K : PySem.W.Frag) (fa : Nat → Addr) (ts : List Tg) : TGs := fun vs σ H Q => ∃ ρ Z e m ds e', Sim K fa ρ Z H σ e m ∧ RelDs K fa ρ Z H ds vs ∧ assignTgs ts ds e = some e' ∧
  ∀ σ', Sim K fa ρ Z H σ' e' m → (∀ i, i ∉ tgIxs ts → σ'[i]? = σ[i]?) → σ'.length = σ.length → Q σ' H
theorem PG_imp {e : Expr} {t t' : TG} (h : PG X e t) (kk : ∀ v σ H Q, t' v σ H Q → t v σ H Q) : PG X e t' := ⟨fun pins s σ H v u Q I r q => h.run pins s σ H v u Q I r (kk v σ H Q q)⟩
theorem PGs_imp {e : List Expr} {t t' : TGs} (h : PGs X e t) (kk : ∀ v σ H Q, t' v σ H Q → t v σ H Q) : PGs X e t' := ⟨fun pins s σ H v u Q I r q => h.run pins s σ H v u Q I r (kk v σ H Q q)⟩
theorem assignEach_len : ∀ {es : List Expr} {env : Env}, (∀ e ∈ es, nst e = true) → (assignEach es env).length = es.length ∧ (assignEach es env).findIdx? (·.1) = none
  | [], _, _ => ⟨rfl, rfl⟩
  | e :: es, env, h => by
    obtain ⟨h1, h2⟩ := assignEach_len (es := es) (env := env) fun x hx => h x (List.mem_cons_of_mem _ hx)
    rw [assignEach_ns (h e List.mem_cons_self)]
    refine ⟨by simp [h1], ?_⟩
    rw [List.findIdx?_cons]
    simp [h2]
theorem chkTgs_ns : ∀ {ts : List Tg} {xs : List Expr}, chkTgs S ts xs = true → (∀ x ∈ xs, nst x = true) ∧ ts.length = xs.length
  | [], [], _ => ⟨fun x hx => (by cases hx), rfl⟩
  | [], _ :: _, h => by cases h
  | _ :: _, [], h => by cases h
  | t :: ts, x :: xs, h => by
    unfold chkTgs at h
    simp only [Bool.and_eq_true] at h
    obtain ⟨h1, h2⟩ := chkTgs_ns h.2
    refine ⟨fun y hy => ?_, by simp [h2]⟩
    rcases List.mem_cons.mp hy with q | q
    · rw [q]; exact h.1.1
    · exact h1 y q
theorem assignTgs_len : ∀ {ts : List Tg} {ds : List D} {e e' : Env'}, assignTgs ts ds e = some e' → ts.length = ds.length
  | [], [], _, _, _ => rfl
  | [], _ :: _, _, _, h => by simp [assignTgs] at h
  | _ :: _, [], _, _, h => by simp [assignTgs] at h
  | t :: ts, d :: ds, e, e', h => by
    have h' : ((assignTg t d e).bind fun e' => assignTgs ts ds e') = some e' := by simpa [assignTgs] using h
    obtain ⟨e1, _, h2⟩ := Option.bind_eq_some_iff.mp h'
    simp [assignTgs_len h2]
mutual
theorem s_tg (G : Good T fa ca cf k S P X) : ∀ {t : Tg} {x : Expr}, chkTg S t x = true → PG X x (gD X.K fa t)
  | .name i, x, h => by
    unfold chkTg at h
    split at h
    · rename_i n p
      obtain ⟨h1, h2, h3⟩ := loc_of G h
      refine PG_imp (pg_name (by rw [G.N]; exact G.nd) h1 h2 h3) fun v σ H Q w => ?_
      obtain ⟨ρ, Z, e, m, d, e', Sm, r, ha, kk⟩ := w
      have ea : e.set i (some d) = e' := Option.some.inj ha
      subst ea
      refine kk _ (Sm.set r) (fun j hj => ?_) (by rw [List.length_set])
      have : i ≠ j := fun q => hj (by rw [q]; exact List.mem_singleton_self _)
      rw [List.getElem?_set_ne this]
    · cases h
  | .tup ts, x, h => by
    unfold chkTg at h
    split at h
    · rename_i xs kk p
      rw [Bool.and_eq_true] at h
      obtain ⟨h1, h2⟩ := h
      obtain ⟨ns, hl⟩ := chkTgs_ns h2
      obtain ⟨l1, l2⟩ := assignEach_len (env := X.env) ns
      refine PG_imp (pg_tup (n := xs.length) (G.calm h1) (s_tgs G h2) l1 l2) fun v σ H Q w => ?_
      obtain ⟨ρ, Z, e, m, d, e', Sm, r, ha, kk⟩ := w
      cases d with
      | tup ds =>
        obtain ⟨p, vs, rfl, hp, t⟩ := r
        have ha' : assignTgs ts ds e = some e' := ha
        exact ⟨p, vs, rfl, hp, by rw [← t.length, ← assignTgs_len ha', hl], ρ, Z, e, m, ds, e', Sm, t, ha', kk⟩
      | _ => cases ha
    · cases h
theorem s_tgs (G : Good T fa ca cf k S P X) : ∀ {ts : List Tg} {xs : List Expr}, chkTgs S ts xs = true → PGs X xs (gDs X.K fa ts)
  | [], [], h => by
    refine PGs_imp pgs_nil fun v σ H Q w => ?_
    obtain ⟨ρ, Z, e, m, ds, e', Sm, r, ha, kk⟩ := w
    cases ds with
    | nil =>
      have ea : e = e' := Option.some.inj ha
      subst ea
      exact ⟨r, kk σ Sm (fun _ _ => rfl) rfl⟩
    | cons _ _ => cases ha
  | [], _ :: _, h => by cases h
  | _ :: _, [], h => by cases h
  | t :: ts, x :: xs, h => by
    unfold chkTgs at h
    simp only [Bool.and_eq_true] at h
    refine PGs_imp (pgs_cons (s_tg G h.1.2) (s_tgs G h.2) (by rw [assignEach_ns h.1.1]; rfl)) fun v σ H Q w => ?_
    obtain ⟨ρ, Z, e, m, ds, e', Sm, r, ha, kk⟩ := w
    cases ds with
    | nil => cases ha
    | cons d ds =>
      obtain ⟨v1, vs, rfl, r1, r2⟩ := r
      have ha' : ((assignTg t d e).bind fun e' => assignTgs ts ds e') = some e' := ha
      obtain ⟨e1, q1, q2⟩ := Option.bind_eq_some_iff.mp ha'
      refine ⟨v1, vs, rfl, ρ, Z, e, m, d, e1, Sm, r1, q1, fun σ1 S1 k1 l1 => ⟨ρ, Z, e1, m, ds, e', S1, r2, q2, fun σ2 S2 k2 l2 => kk σ2 S2 (fun i hi => ?_) (l2.trans l1)⟩⟩
      have hi' : i ∉ tgIx t ∧ i ∉ tgIxs ts := by
        have q : i ∉ tgIx t ++ tgIxs ts := hi
        rw [List.mem_append] at q
        exact ⟨fun z => q (.inl z), fun z => q (.inr z)⟩
      rw [k2 i hi'.2, k1 i hi'.1]
end
end
end Dx
/-! Dx, part 12: comprehensions; every expression. -/
namespace Dx
open PySem PySem.Spec PyProof.Rows L2
section
variable {K : PySem.W.Frag} {fa : Nat → Addr} {ρ ρ' ρ'' : List Addr} {Z Z' Z'' : Addr → Prop} {H H' H'' : Hp} {m m' : M} {ds : List D} {p : Addr}
mutual
theorem RelD.agree (hot : Hot Z H) (k : ∀ a, ¬ Z a → H' a = H a) : ∀ (d : D) (v : V), RelD K fa ρ Z H d v → RelD K fa ρ Z H' d v
  | .non, _, h => h
  | .bl _, _, h => h
  | .int _, _, h => h
  | .str _, _, h => h
  | .fn _, _, h => h
  | .ref i, _, h => h
  | .tup ds, _, h => by
    obtain ⟨p, vs, e, q, r⟩ := h
    refine ⟨p, vs, e, ?_, RelDs.agree hot k ds vs r⟩
    rcases q with (q | ⟨o, q⟩) | q
    · exact .inl (.inl (by rw [k p fun z => by have w := hot p z; rw [q] at w; exact w]; exact q))
    · exact .inl (.inr ⟨o, by rw [k p fun z => by have w := hot p z; rw [q] at w; exact w]; exact q⟩)
    · exact .inr q
  | .lst ds, _, h => by
    obtain ⟨p, vs, e, q, n, r⟩ := h
    exact ⟨p, vs, e, by rw [k p n]; exact q, n, RelDs.agree hot k ds vs r⟩
  | .scr ds, _, h => by
    obtain ⟨p, vs, e, q, r⟩ := h
    refine ⟨p, vs, e, ?_, RelDs.agree hot k ds vs r⟩
    rcases q with ⟨o, q⟩ | q
    · exact .inl ⟨o, by rw [k p fun z => by have w := hot p z; rw [q] at w; exact w]; exact q⟩
    · exact .inr q
theorem RelDs.agree (hot : Hot Z H) (k : ∀ a, ¬ Z a → H' a = H a) : ∀ (ds : List D) (vs : List V), RelDs K fa ρ Z H ds vs → RelDs K fa ρ Z H' ds vs
  | [], _, h => h
  | d :: ds, _, h => by
    obtain ⟨v, r, e, q, t⟩ := h
    exact ⟨v, r, e, RelD.agree hot k d v q, RelDs.agree hot k ds r t⟩
end
/-- a list in the making stays through steps -/
theorem Fresh.later (hot : Hot Z H) (f : Fresh K fa ρ Z H ρ' Z' H' m ds p) (s : Step ρ' Z' H' ρ'' Z'' H'') (I : MOk K fa ρ'' Z'' H'' m') : Fresh K fa ρ Z H ρ'' Z'' H'' m' ds p := by
  obtain ⟨vs, hv, r⟩ := f.is_
  refine ⟨f.step.trans hot s, I, s.hotk p f.hot f.np, fun h => ?_, f.new, vs, s.keep p _ hv (.inl f.np), RelDs.mono s f.mok.hot ds vs r⟩
  have e := s.newr p h f.np
  rw [hv] at e
  cases e
/-- .. and grows -/
theorem Fresh.app {d : D} {v : V} {vs : List V} (f : Fresh K fa ρ Z H ρ' Z' H' m ds p) (hv : H' p = some (.lst vs)) (r : RelD K fa ρ' Z' H' d v) : Fresh K fa ρ Z H ρ' Z' (upd H' p (.lst (vs ++ [v]))) m (ds ++ [d]) p := by
  obtain ⟨vs', hv', rs⟩ := f.is_
  rw [hv] at hv'
  cases hv'
  have I := f.mok
  have ag : ∀ a, ¬ Z' a → (upd H' p (.lst (vs ++ [v]))) a = H' a := fun a h => upd_ne fun e => h (by rw [e]; exact f.hot)
  refine ⟨⟨f.step.pre, f.step.newr, f.step.newz, fun a o e n => ?_, f.step.hotk⟩, ⟨I.len, I.nd, fun a h => ?_, fun a h => ?_, fun i o e ne a ha => ?_⟩, f.hot, f.np, f.new, vs ++ [v], upd_same, RelDs.agree I.hot ag _ _ (rs.append (RelDs.one r))⟩
  · rw [upd_ne (ne_of_none e f.new)]
    exact f.step.keep a o e n
  · by_cases e : a = p
    · rw [e, upd_same]; intro z; cases z
    · rw [upd_ne e]; exact I.there a h
  · by_cases e : a = p
    · rw [e, upd_same]; trivial
    · rw [upd_ne e]; exact I.hot a h
  · obtain ⟨z, ro⟩ := I.live i o e ne a ha
    refine ⟨z, ?_⟩
    have nap : a ≠ p := fun z => f.np (z ▸ List.mem_of_getElem? ha)
    cases o with
    | gone => trivial
    | lst zs =>
      obtain ⟨ws, hw, rr⟩ := ro
      exact ⟨ws, by rw [upd_ne nap]; exact hw, RelDs.agree I.hot ag zs ws rr⟩
end
theorem wipe_in {σ : L2.St} {i : Nat} : ∀ {vs : List Nat}, i ∈ vs → i < σ.length → (wipe σ vs)[i]? = some none
  | v :: vs, h, hl => by
    unfold wipe
    by_cases e : v = i
    · subst e
      rw [List.getElem?_set_self (by rw [wipe_length]; exact hl)]
    · rw [List.getElem?_set_ne e]
      rcases List.mem_cons.mp h with q | q
      · exact absurd q.symm e
      · exact wipe_in q hl
theorem wipe_eq {σ σ2 : L2.St} {vs : List Nat} (h : ∀ i, i ∉ vs → σ2[i]? = (wipe σ vs)[i]?) (hl : σ2.length = (wipe σ vs).length) : wipe σ2 vs = wipe σ vs := by
  rw [wipe_length] at hl
  refine List.ext_getElem? fun i => ?_
  by_cases q : i ∈ vs
  · by_cases l : i < σ.length
    · rw [wipe_in q l, wipe_in q (by rw [hl]; exact l)]
    · rw [List.getElem?_eq_none (by rw [wipe_length]; omega), List.getElem?_eq_none (by rw [wipe_length]; omega)]
  · rw [wipe_out q, h i q]
theorem compL_noerr {f : D → M → Res (Option D)} : ∀ (xs : List D) (m : M) (c : Nat) (m' : M), compL f xs m ≠ .err c m'
  | [], m, c, m', h => by cases h
  | x :: xs, m, c, m', h => by
    unfold compL at h
    cases q : f x m with
    | ok o m1 =>
      rw [q] at h
      have h' : ((compL f xs m1).bind fun r m => Res.ok (consO o r) m) = .err c m' := h
      cases q2 : compL f xs m1 with
      | ok r m2 => rw [q2] at h'; cases h'
      | err c2 m2 => exact compL_noerr xs m1 c2 m2 q2
      | bad => rw [q2] at h'; cases h'
    | err c1 m1 => rw [q] at h; cases h
    | bad => rw [q] at h; cases h
theorem compL_cons {f : D → M → Res (Option D)} {x : D} {xs : List D} {m m' : M} {rs : List D} (h : compL f (x :: xs) m = .ok rs m') :
    ∃ o m1 r, f x m = .ok o m1 ∧ compL f xs m1 = .ok r m' ∧ rs = consO o r := by
  unfold compL at h
  cases q : f x m with
  | ok o m1 =>
    rw [q] at h
    have h' : ((compL f xs m1).bind fun r m => Res.ok (consO o r) m) = .ok rs m' := h
    cases q2 : compL f xs m1 with
    | ok r m2 =>
      rw [q2] at h'
      have h'' : Res.ok (consO o r) m2 = Res.ok rs m' := h'
      injection h'' with e1 e2
      exact ⟨o, m1, r, rfl, by rw [q2, e2], e1.symm⟩
    | err c2 m2 => rw [q2] at h'; cases h'
    | bad => rw [q2] at h'; cases h'
  | err c1 m1 => rw [q] at h; cases h
  | bad => rw [q] at h; cases h
section
variable {T : Tab} {fa ca : Nat → Addr} {cf : Cfg} {k : Nat} {S : SC} {P : L2.St → Prop} {X : Cx} {W : WX}
abbrev W0 : WX := fun _ _ _ _ => False
abbrev P1 : L2.St → Prop := fun _ => True
theorem Good.blk (G : Good T fa ca cf k S P X) (scope : Scope) (s : Shared) (H : Hp) (C : Addr) (cl : List (Str × Addr)) (fp : List Addr) : Good T fa ca cf k (S.blk scope) P1 (X.blk s H scope (compEnvC scope cl C X.env) fp) where
  N := G.N
  sc := by
    show relS scope X.env.scope = relS scope S.sc
    rw [G.sc]
  nd := G.nd
  fnb := rfl
  calm := G.calm
  room := G.room
  exc := fun i h => by cases h
  f := G.f
theorem s_tyes : PTs X [] (RT X fa ca P W fun _ m => .ok true m) := by
  refine ⟨fun pins s σ H Q I h => pts_nil.run pins s σ H Q I ?_⟩
  obtain ⟨_, ρ, Z, e, m, Sm, q⟩ := h
  exact q.out Sm.mok rfl
theorem s_tone {c : Expr} {f : Env' → M → Res Bool} (h : PT X c (RT X fa ca P W f)) : PTs X [c] (RT X fa ca P W f) := pts_one h
/-- one turn of a comprehension, by data -/
def turnC (tg : Tg) (e0 : Env') (fc : Env' → M → Res Bool) (fe : Env' → M → Res D) (x : D) (m : M) : Res (Option D) := match assignTg tg x e0 with
  | some e' => (fc e' m).bind fun k m => if k then (fe e' m).bind fun d m => .ok (some d) m else .ok none m
  | none => .bad
theorem own_snd {N : List Str} : ∀ own : List Nat, (own.map fun i => (N.getD i Str.empty, i)).map (·.2) = own
  | [] => rfl
  | i :: own => by rw [List.map_cons, List.map_cons, own_snd own]
/-- a comprehension's reading, by data -/
theorem comp_read {tg : Tg} {own : List Nat} {fi : Env' → M → Res Src} {fc : Env' → M → Res Bool} {fe : Env' → M → Res D} (hix : (tgIx tg).all own.contains = true) {σ : L2.St} {H : Hp} {Q : VK}
    (h : RF X fa ca P W (fun e m => (fi e m).bind fun s m => match s with
      | .seq xs => if lineOk xs.length then compL (turnC tg (wipeE e own) fc fe) xs m else .bad
      | .rf _ _ => .bad) σ H Q) :
    tLc (tI X.K fa ca P W fi) (gD X.K fa tg) (tR X.K fa ca P1 W0 (rEq Bool) fc) (tR X.K fa ca P1 W0 (rD X.K fa) fe) own σ H Q := by
  obtain ⟨p, ρ, Z, e, m, Sm, h⟩ := h
  refine ⟨p, ρ, Z, e, m, Sm, ?_⟩
  dsimp only at h
  cases q : fi e m with
  | err c m1 => rw [q] at h; exact h
  | bad => rw [q] at h; exact h
  | ok s m1 =>
    rw [q] at h
    cases s with
    | rf r n => exact (show False from h).elim
    | seq xs =>
      intro ρ1 Z1 H1 J s1 I1 go D hD
      by_cases hl : lineOk xs.length = true
      rotate_left
      · have h' : PF X.K fa ca W σ ρ Z H (if lineOk xs.length then compL (turnC tg (wipeE e own) fc fe) xs m1 else .bad) (fun ρ' Z' H' m ds p => Fresh X.K fa ρ Z H ρ' Z' H' m ds p) Q := h
        rw [if_neg hl] at h'
        exact h'.elim
      have h' : PF X.K fa ca W σ ρ Z H (if lineOk xs.length then compL (turnC tg (wipeE e own) fc fe) xs m1 else .bad) (fun ρ' Z' H' m ds p => Fresh X.K fa ρ Z H ρ' Z' H' m ds p) Q := h
      rw [if_pos hl] at h'
      cases q2 : compL (turnC tg (wipeE e own) fc fe) xs m1 with
      | err c m2 => exact absurd q2 (compL_noerr xs m1 c m2)
      | bad => rw [q2] at h'; exact h'.elim
      | ok ds m2 =>
        rw [q2] at h'
        have hot := Sm.mok.hot
        have hot1 := I1.hot
        -- from the state at the walk's start to the end
        have fin : ∀ ρ' Z' H', Fresh X.K fa ρ1 Z1 H1 ρ' Z' H' m2 ds D → Q (.ref D) H' := fun ρ' Z' H' F => by
          refine h' ρ' Z' H' D ⟨s1.trans hot F.step, F.mok, F.hot, F.np, ?_, F.is_⟩
          cases z : H D with
          | none => rfl
          | some o =>
            have np1 : D ∉ ρ1 := fun y => F.np (F.step.old y)
            have e := F.new
            rw [s1.keep D o z (.inl fun y => np1 (s1.old y))] at e
            cases e
        have F0 : Fresh X.K fa ρ1 Z1 H1 ρ1 (fun a => Z1 a ∨ a = D) (upd H1 D (.lst [])) m1 [] D := Fresh.of_laid hot1 Step.refl I1 rfl hD
        refine ⟨fun i n H' => n = xs.length - i ∧ i ≤ xs.length ∧ ∃ ρi Zi mi acc rest, Fresh X.K fa ρ1 Z1 H1 ρi Zi H' mi acc D ∧ compL (turnC tg (wipeE e own) fc fe) (xs.drop i) mi = .ok rest m2 ∧ acc ++ rest = ds ∧ acc.length ≤ i,
          ⟨xs.length, rfl, Nat.zero_le _, ρ1, _, m1, [], ds, F0, q2, rfl, Nat.le_refl _⟩, ?_⟩
        rintro i n H' ⟨rfl, hi, ρi, Zi, mi, acc, rest, F, hr, ha, hal⟩
        obtain ⟨g1, g2⟩ := go ρi Zi H' F.step F.mok.hot
        by_cases hlt : i < xs.length
        · right
          have ex : xs[i]? = some xs[i] := List.getElem?_eq_getElem hlt
          obtain ⟨g3, g4⟩ := g1 i _ ex
          refine ⟨g3, fun H'' => (fun i n H' => n = xs.length - i ∧ i ≤ xs.length ∧ ∃ ρi Zi mi acc rest, Fresh X.K fa ρ1 Z1 H1 ρi Zi H' mi acc D ∧ compL (turnC tg (wipeE e own) fc fe) (xs.drop i) mi = .ok rest m2 ∧ acc ++ rest = ds ∧ acc.length ≤ i) (i + 1) (xs.length - (i + 1)) H'',
            fun H'' w => ⟨xs.length - (i + 1), by omega, w⟩, fun x H2 yl => ?_⟩
          obtain ⟨s2, I2, r2⟩ := g4 x H2 yl
          have I2 := I2 mi F.mok
          have F2 := F.later hot1 s2 I2
          rw [List.drop_eq_getElem_cons hlt] at hr
          obtain ⟨o, mo, r, h3, h4, h5⟩ := compL_cons hr
          unfold turnC at h3
          split at h3
          · rename_i e' he'
            have Sb : Sim X.K fa ρi Zi H2 (wipe σ own) (wipeE e own) mi := ((Sm.step s1 I1).wipe own).step F2.step I2
            refine ⟨ρi, Zi, _, mi, _, e', Sb, r2, he', fun σ2 S2 kx lx => ⟨?_, ?_⟩⟩
            · refine wipe_eq (fun j hj => ?_) lx
              refine kx j fun hjx => hj ?_
              have := List.all_eq_true.mp hix j hjx
              simpa using this
            · refine ⟨trivial, ρi, Zi, e', mi, S2, ?_⟩
              cases q3 : fc e' mi with
              | err c m3 => rw [q3] at h3; cases h3
              | bad => rw [q3] at h3; cases h3
              | ok b m3 =>
                rw [q3] at h3
                intro ρ3 Z3 H3 b' s3 I3 eb
                have eb' : b = b' := eb
                subst eb'
                have F3 := F2.later hot1 s3 I3
                cases b with
                | false =>
                  have h3' : (Res.ok none m3 : Res (Option Dx.D)) = .ok o mo := h3
                  injection h3' with e1 e2
                  subst e1 e2
                  refine iteF ⟨rfl, by omega, ρ3, Z3, m3, acc, r, F3, h4, ?_, by omega⟩
                  rw [← ha, h5]
                  rfl
                | true =>
                  have h3' : ((fe e' m3).bind fun d m => Res.ok (some d) m) = .ok o mo := h3
                  refine iteT ⟨trivial, ρ3, Z3, e', m3, S2.step s3 I3, ?_⟩
                  cases q4 : fe e' m3 with
                  | err c m4 => rw [q4] at h3'; cases h3'
                  | bad => rw [q4] at h3'; cases h3'
                  | ok d m4 =>
                    rw [q4] at h3'
                    have h3'' : (Res.ok (some d) m4 : Res (Option Dx.D)) = .ok o mo := h3'
                    injection h3'' with e1 e2
                    subst e1 e2
                    intro ρ4 Z4 H4 v s4 I4 rv
                    have F4 := F3.later hot1 s4 I4
                    obtain ⟨vs, hv, rr⟩ := F4.is_
                    have lvs := rr.length
                    have hx := of_decide_eq_true hl
                    refine ⟨vs, hv, by rw [sizeLine_eq]; omega, rfl, by omega, ρ4, Z4, m4, acc ++ [d], r, F4.app hv rv, h4, ?_, ?_⟩
                    · rw [List.append_assoc, ← ha, h5]; rfl
                    · rw [List.length_append]; simp only [List.length_singleton]; omega
          · cases h3
        · have ei : i = xs.length := by omega
          subst ei
          rw [List.drop_length] at hr
          have hr' : (Res.ok [] mi : Res (List Dx.D)) = .ok rest m2 := hr
          injection hr' with e1 e2
          subst e1 e2
          rw [List.append_nil] at ha
          subst ha
          exact .inl ⟨g2, fin ρi Zi H' F⟩
theorem s_comp {y tg' it' : Expr} {ifs : List Expr} {scope : Scope} {pos : Pos} {tg : Tg} {own : List Nat} {fi : Env' → M → Res Src} {fc : Env' → M → Res Bool} {fe : Env' → M → Res D} (G : Good T fa ca cf k S P X) (hc : S.calm = true) (hs : notSet it' = true)
    (hb : blkC S.N S.sc scope (own.map fun i => (S.N.getD i Str.empty, i)) = true) (hix : (tgIx tg).all own.contains = true)
    (hi : PI X tg' it' (tI X.K fa ca P W fi)) (hg : chkTg (S.blk scope) tg tg' = true)
    (ht : ∀ Xb, Xb.K = X.K → Good T fa ca cf k (S.blk scope) P1 Xb → PTs Xb ifs (RT Xb fa ca P1 W0 fc)) (he : ∀ Xb, Xb.K = X.K → Good T fa ca cf k (S.blk scope) P1 Xb → PE Xb y (RE Xb fa ca P1 W0 fe)) :
    PE X (.ListComp y [⟨tg', it', ifs, 0⟩] scope pos) (RF X fa ca P W fun e m => (fi e m).bind fun s m => match s with
      | .seq xs => if lineOk xs.length then compL (turnC tg (wipeE e own) fc fe) xs m else .bad
      | .rf _ _ => .bad) := by
  have hm : (own.map fun i => (S.N.getD i Str.empty, i)).map (·.2) = own := own_snd own
  have ok : BlkOk X.N X.env.scope scope (own.map fun i => (S.N.getD i Str.empty, i)) := by
    rw [G.N, G.sc]
    exact blkOk_by hb
  have main := pe_lc (pos := pos) (elt := y) (ifs := ifs) (G.calm hc) (by rw [G.N]; exact G.nd) hi ok (g := gD X.K fa tg) (tt := tR X.K fa ca P1 W0 (rEq Bool) fc) (te := tR X.K fa ca P1 W0 (rD X.K fa) fe)
    (fun s H C cl fp => s_tg (G.blk scope s H C cl fp) hg) (fun s H C cl fp => ht _ rfl (G.blk scope s H C cl fp)) (fun s H C cl fp => he _ rfl (G.blk scope s H C cl fp)) (notSet_iter hs)
  rw [hm] at main
  exact main.imp fun σ H Q h => comp_read hix h
end
end Dx
/-! Dx, part 13: every expression runs as the evaluator says. -/
namespace Dx
open PySem PySem.Spec PyProof.Rows L2
theorem evEs_len {c : Cfg} : ∀ {es : CEs} {xs : List Expr} {T : Tab} {S : SC} {e : Env'} {m : M} {ds : List D} {m1 : M}, chkEs T S es xs = true → evEs c es e m = .ok ds m1 → ds.length = xs.length
  | .nil, [], _, _, _, _, _, _, _, h => by
    unfold evEs at h
    injection h with h1 h2
    rw [← h1]; rfl
  | .nil, _ :: _, _, _, _, _, _, _, hc, _ => by cases hc
  | .cons _ _, [], _, _, _, _, _, _, hc, _ => by cases hc
  | .cons a es, x :: xs, T, S, e, m, ds, m1, hc, h => by
    unfold chkEs at hc
    simp only [Bool.and_eq_true] at hc
    unfold evEs at h
    cases q : evE c a e m with
    | ok d m2 =>
      rw [q] at h
      have h' : ((evEs c es e m2).bind fun ds m => Res.ok (d :: ds) m) = .ok ds m1 := h
      cases q2 : evEs c es e m2 with
      | ok r m3 =>
        rw [q2] at h'
        have h'' : Res.ok (d :: r) m3 = Res.ok ds m1 := h'
        injection h'' with e1 e2
        rw [← e1, List.length_cons, List.length_cons, evEs_len hc.2 q2]
      | err c2 m3 => rw [q2] at h'; cases h'
      | bad => rw [q2] at h'; cases h'
    | err c2 m3 => rw [q] at h; cases h
    | bad => rw [q] at h; cases h
theorem chkKs_some {T : Tab} {S : SC} : ∀ {es : CEs} {xs : List Keyword}, chkKs T S es xs = true → (∀ q ∈ xs, q.arg.isSome = true) ∧ (xs.filterMap (·.arg)).length = xs.length
  | .nil, [], _ => ⟨fun q h => (by cases h), rfl⟩
  | .nil, _ :: _, h => by cases h
  | .cons _ _, [], h => by cases h
  | .cons e es, x :: xs, h => by
    unfold chkKs at h
    simp only [Bool.and_eq_true] at h
    obtain ⟨h1, h2⟩ := chkKs_some h.2
    refine ⟨fun q hq => ?_, ?_⟩
    · rcases List.mem_cons.mp hq with z | z
      · rw [z]; exact h.1.1
      · exact h1 q z
    · obtain ⟨y, hy⟩ := Option.isSome_iff_exists.mp h.1.1
      rw [List.filterMap_cons, hy]
      simp [h2]
theorem evKs_len {c : Cfg} : ∀ {es : CEs} {xs : List Keyword} {T : Tab} {S : SC} {e : Env'} {m : M} {ds : List D} {m1 : M}, chkKs T S es xs = true → evEs c es e m = .ok ds m1 → ds.length = xs.length
  | .nil, [], _, _, _, _, _, _, _, h => by
    unfold evEs at h
    injection h with h1 h2
    rw [← h1]; rfl
  | .nil, _ :: _, _, _, _, _, _, _, hc, _ => by cases hc
  | .cons _ _, [], _, _, _, _, _, _, hc, _ => by cases hc
  | .cons a es, x :: xs, T, S, e, m, ds, m1, hc, h => by
    unfold chkKs at hc
    simp only [Bool.and_eq_true] at hc
    unfold evEs at h
    cases q : evE c a e m with
    | ok d m2 =>
      rw [q] at h
      have h' : ((evEs c es e m2).bind fun ds m => Res.ok (d :: ds) m) = .ok ds m1 := h
      cases q2 : evEs c es e m2 with
      | ok r m3 =>
        rw [q2] at h'
        have h'' : Res.ok (d :: r) m3 = Res.ok ds m1 := h'
        injection h'' with e1 e2
        rw [← e1, List.length_cons, List.length_cons, evKs_len hc.2 q2]
      | err c2 m3 => rw [q2] at h'; cases h'
      | bad => rw [q2] at h'; cases h'
    | err c2 m3 => rw [q] at h; cases h
    | bad => rw [q] at h; cases h
section
variable {T : Tab} {fa ca : Nat → Addr} {cf : Cfg} {k : Nat}
theorem hu_room {A : Around} (r : Room k A) : A.units + 64 < cLine := r.units
mutual
theorem sE : ∀ (c : CE) {S : SC} {P : L2.St → Prop} {X : Cx} {W : WX} {x : Expr}, Good T fa ca cf k S P X → Takes X W → chkE T S c x = true → PE X x (RE X fa ca P W (evE cf c))
  | .var i, S, P, X, W, x, G, tk, h => by
    unfold chkE at h
    split at h
    · exact s_var G h
    · cases h
  | .int i, S, P, X, W, x, G, tk, h => by
    unfold chkE at h
    split at h
    · have e := of_decide_eq_true h
      subst e
      exact s_const pe_int fun _ _ _ => rfl
    · cases h
  | .bl b, S, P, X, W, x, G, tk, h => by
    unfold chkE at h
    split at h
    · have e := of_decide_eq_true h
      subst e
      exact s_const pe_bl fun _ _ _ => rfl
    · cases h
  | .non, S, P, X, W, x, G, tk, h => by
    unfold chkE at h
    split at h
    · exact s_const pe_non fun _ _ _ => rfl
    · cases h
  | .str z, S, P, X, W, x, G, tk, h => by
    unfold chkE at h
    split at h
    · have e := of_decide_eq_true h
      subst e
      exact s_const pe_str fun _ _ _ => rfl
    · cases h
  | .glob i, S, P, X, W, x, G, tk, h => by
    unfold chkE at h
    split at h
    · split at h
      · rename_i n p q hq
        rw [Bool.and_eq_true] at h
        have e := of_decide_eq_true h.1
        subst e
        obtain ⟨h1, v, u, h2, h3, h4⟩ := G.f.glo i _ hq
        obtain ⟨g1, g2⟩ := glo_of G h.2
        have e0 : evE cf (.glob i) = fun _ m => .ok q.2 m := by
          funext e m
          show Res.of (cf.glob i) m = _
          rw [h1]; rfl
        rw [e0]
        exact s_const (pe_glob g1 h2 h3 g2) h4
      · cases h
    · cases h
  | .fn i, S, P, X, W, x, G, tk, h => by
    unfold chkE at h
    split at h
    · rw [Bool.and_eq_true] at h
      obtain ⟨h1, _⟩ := G.f.fns i _ (of_decide_eq_true h.1)
      obtain ⟨g1, g2⟩ := glo_of G h.2
      exact s_const (pe_glob g1 h1 (v := .ref (fa i)) rfl g2) fun _ _ _ => rfl
    · cases h
  | .bin o a b, S, P, X, W, x, G, tk, h => by
    unfold chkE at h
    split at h
    · simp only [Bool.and_eq_true] at h
      have e := of_decide_eq_true h.1.1
      subst e
      exact (pe_op (opB (fa := fa) o) (sE a G tk h.1.2) (sE b G tk h.2)).imp fun σ H Q q => tOp_bin (kk := fun m => evBin m o) q
    · cases h
  | .neg a, S, P, X, W, x, G, tk, h => by
    unfold chkE at h
    split at h
    · exact s_neg (sE a G tk h)
    · cases h
  | .cmp o a b, S, P, X, W, x, G, tk, h => by
    unfold chkE at h
    split at h
    · simp only [Bool.and_eq_true] at h
      obtain ⟨⟨⟨⟨⟨h1, h2⟩, h3⟩, h4⟩, h5⟩, h6⟩ := h
      have e := of_decide_eq_true h2
      subst e
      exact (pe_cmpR (opC (fa := fa) (hu_room (G.room h1)) o) (sE a G tk h5) (sE b G tk h6) (nomark _ (of_decide_eq_true h3) (of_decide_eq_true h4))).imp fun σ H Q q => tOp_cmp (kk := evCmp o) q
    · cases h
  | .chain o p a b c, S, P, X, W, x, G, tk, h => by
    unfold chkE at h
    split at h
    · simp only [Bool.and_eq_true] at h
      obtain ⟨⟨⟨⟨⟨⟨⟨⟨⟨h1, h2⟩, h3⟩, h4⟩, h5⟩, h6⟩, h7⟩, h8⟩, h9⟩, h10⟩ := h
      have e := of_decide_eq_true h2
      subst e
      have e := of_decide_eq_true h5
      subst e
      exact (pe_chain (opC (fa := fa) (hu_room (G.room h1)) o) (opC (fa := fa) (hu_room (G.room h1)) p) (sE a G tk h8) (sE b G tk h9) (sE c G tk h10) (last_marks (of_decide_eq_true h6) (of_decide_eq_true h7))).imp fun σ H Q q => tChain_of (k1 := evCmp o) (k2 := evCmp p) q
    · cases h
  | .andV es, S, P, X, W, x, G, tk, h => by
    unfold chkE at h
    split at h
    · exact sAnds es G tk h
    · cases h
  | .orV es, S, P, X, W, x, G, tk, h => by
    unfold chkE at h
    split at h
    · exact sOrs es G tk h
    · cases h
  | .notV a, S, P, X, W, x, G, tk, h => by
    unfold chkE at h
    split at h
    · exact s_not (sE a G tk h)
    · cases h
  | .orT a b, S, P, X, W, x, G, tk, h => by
    unfold chkE at h
    split at h
    · rw [Bool.and_eq_true] at h
      exact s_orT (sE a G tk h.1) (sE b G tk h.2)
    · cases h
  | .ife t a b, S, P, X, W, x, G, tk, h => by
    unfold chkE at h
    split at h
    · simp only [Bool.and_eq_true] at h
      exact s_ife (sT t G tk h.1.1) (sE a G tk h.1.2) (sE b G tk h.2)
    · cases h
  | .tup es, S, P, X, W, x, G, tk, h => by
    unfold chkE at h
    split at h
    · exact s_tup (sEs es G tk h)
    · cases h
  | .lv l, S, P, X, W, x, G, tk, h => s_lv (sL l G tk h)
  | .lm l, S, P, X, W, x, G, tk, h => s_lm (sL l G tk h)
  | .frz a, S, P, X, W, x, G, tk, h => s_frz (sE a G tk h)
  | .idx a b, S, P, X, W, x, G, tk, h => by
    unfold chkE at h
    split at h
    · simp only [Bool.and_eq_true] at h
      exact s_idx h.1.1 (sE a G tk h.1.2) (sE b G tk h.2)
    · cases h
  | .slc a lo hi, S, P, X, W, x, G, tk, h => by
    unfold chkE at h
    split at h
    · simp only [Bool.and_eq_true] at h
      exact s_slc (sE a G tk h.1.1) (sO lo G tk h.1.2) (sO hi G tk h.2)
    · cases h
  | .call f es, S, P, X, W, x, G, tk, h => by
    unfold chkE at h
    split at h
    · simp only [Bool.and_eq_true] at h
      exact s_call G tk h.1.1.1 (of_decide_eq_true h.1.1.2) h.1.2 (chkEs_ns h.2) (sEs es G tk h.2)
    · cases h
  | .callL i es, S, P, X, W, x, G, tk, h => by
    unfold chkE at h
    split at h
    · simp only [Bool.and_eq_true] at h
      exact s_callL G tk h.1.1 h.1.2 (chkEs_ns h.2) (sEs es G tk h.2)
    · cases h
  | .callK f es ks pm, S, P, X, W, x, G, tk, h => by
    unfold chkE at h
    split at h
    · simp only [Bool.and_eq_true] at h
      obtain ⟨⟨⟨⟨⟨h1, h2⟩, h3⟩, h4⟩, h5⟩, h6⟩ := h
      obtain ⟨k1, k2⟩ := chkKs_some h5
      refine s_callK G tk h1 (of_decide_eq_true h2) h3 (chkEs_ns h4) k1 (of_decide_eq_true h6) (fun hy e m => ?_) (fun e m ds m1 q => evEs_len h4 q) (fun e m ds m1 q => by rw [k2]; exact evKs_len h5 q) (sEs es G tk h4) (sKs ks G tk h5)
      rw [hy] at h4
      cases es with
      | nil => rfl
      | cons _ _ => cases h4
    · cases h
  | .blt b es, S, P, X, W, x, G, tk, h => by
    unfold chkE at h
    split at h
    · simp only [Bool.and_eq_true] at h
      exact s_blt G h.1.1.1 (of_decide_eq_true h.1.1.2) h.1.2 (chkEs_ns h.2) (sEs es G tk h.2)
    · cases h
  | .isI a ts, S, P, X, W, x, G, tk, h => by
    unfold chkE at h
    split at h
    · rename_i n p y z p2
      simp only [Bool.and_eq_true] at h
      obtain ⟨⟨⟨⟨⟨⟨h1, h2⟩, h3⟩, h4⟩, h5⟩, h6⟩, h7⟩ := h
      split at h7
      · rename_i zs kk p3
        simp only [Bool.and_eq_true] at h7
        exact s_isIT G (of_decide_eq_true h2) h3 h4 (fun z hz => List.all_eq_true.mp h7.1.2 z hz) (of_decide_eq_true h7.1.1) h7.2 (sE a G tk h6)
      · rw [Bool.and_eq_true] at h7
        obtain ⟨t, rfl⟩ := List.length_eq_one_iff.mp (of_decide_eq_true h7.1)
        exact s_isI1 G (of_decide_eq_true h2) h3 h4 h5 h7.2 (sE a G tk h6)
    · cases h
  | .excIs i, S, P, X, W, x, G, tk, h => by
    unfold chkE at h
    split at h
    · simp only [Bool.and_eq_true] at h
      obtain ⟨⟨⟨⟨⟨⟨h1, h2⟩, h3⟩, h4⟩, h5⟩, h6⟩, h7⟩ := h
      exact s_excIs G (of_decide_eq_true h2) h3 (of_decide_eq_true h4) h5 (of_decide_eq_true h6) h7
    · cases h
theorem sAnds : ∀ (es : CEs) {S : SC} {P : L2.St → Prop} {X : Cx} {W : WX} {xs : List Expr} {pos : Pos}, Good T fa ca cf k S P X → Takes X W → chkEs T S es xs = true → PE X (.BoolOp .And xs pos) (RE X fa ca P W (evAnds cf es))
  | .nil, S, P, X, W, xs, pos, G, tk, h => ⟨fun pins s σ H Q I q => by
      obtain ⟨_, ρ, Z, e, m, _, q⟩ := q
      exact (show False from q).elim⟩
  | .cons a .nil, S, P, X, W, xs, pos, G, tk, h => by
    unfold chkEs at h
    split at h
    · rename_i x xs
      simp only [Bool.and_eq_true] at h
      cases xs with
      | nil => exact s_and1 (sE a G tk h.1.2)
      | cons _ _ => cases h.2
    · cases h
  | .cons a (.cons b es), S, P, X, W, xs, pos, G, tk, h => by
    unfold chkEs at h
    split at h
    · rename_i x xs
      simp only [Bool.and_eq_true] at h
      cases xs with
      | nil => cases h.2
      | cons y ys => exact s_and (sE a G tk h.1.2) (sAnds (.cons b es) G tk h.2)
    · cases h
theorem sOrs : ∀ (es : CEs) {S : SC} {P : L2.St → Prop} {X : Cx} {W : WX} {xs : List Expr} {pos : Pos}, Good T fa ca cf k S P X → Takes X W → chkEs T S es xs = true → PE X (.BoolOp .Or xs pos) (RE X fa ca P W (evOrs cf es))
  | .nil, S, P, X, W, xs, pos, G, tk, h => ⟨fun pins s σ H Q I q => by
      obtain ⟨_, ρ, Z, e, m, _, q⟩ := q
      exact (show False from q).elim⟩
  | .cons a .nil, S, P, X, W, xs, pos, G, tk, h => by
    unfold chkEs at h
    split at h
    · rename_i x xs
      simp only [Bool.and_eq_true] at h
      cases xs with
      | nil => exact s_and1 (sE a G tk h.1.2)
      | cons _ _ => cases h.2
    · cases h
  | .cons a (.cons b es), S, P, X, W, xs, pos, G, tk, h => by
    unfold chkEs at h
    split at h
    · rename_i x xs
      simp only [Bool.and_eq_true] at h
      cases xs with
      | nil => cases h.2
      | cons y ys => exact s_or (sE a G tk h.1.2) (sOrs (.cons b es) G tk h.2)
    · cases h
theorem sEs : ∀ (es : CEs) {S : SC} {P : L2.St → Prop} {X : Cx} {W : WX} {xs : List Expr}, Good T fa ca cf k S P X → Takes X W → chkEs T S es xs = true → PA X xs (RA X fa ca P W (evEs cf es))
  | .nil, S, P, X, W, xs, G, tk, h => by
    unfold chkEs at h
    split at h
    · exact s_nil
    · cases h
  | .cons a es, S, P, X, W, xs, G, tk, h => by
    unfold chkEs at h
    split at h
    · simp only [Bool.and_eq_true] at h
      exact s_cons h.1.1 (sE a G tk h.1.2) (sEs es G tk h.2)
    · cases h
theorem sKs : ∀ (es : CEs) {S : SC} {P : L2.St → Prop} {X : Cx} {W : WX} {xs : List Keyword}, Good T fa ca cf k S P X → Takes X W → chkKs T S es xs = true → PK X xs (RA X fa ca P W (evEs cf es))
  | .nil, S, P, X, W, xs, G, tk, h => by
    unfold chkKs at h
    split at h
    · exact s_knil
    · cases h
  | .cons a es, S, P, X, W, xs, G, tk, h => by
    unfold chkKs at h
    split at h
    · rename_i x xs
      simp only [Bool.and_eq_true] at h
      obtain ⟨nm, v, kp⟩ := x
      exact s_kcons (sE a G tk h.1.2) (sKs es G tk h.2)
    · cases h
theorem sO : ∀ (o : CO) {S : SC} {P : L2.St → Prop} {X : Cx} {W : WX} {x : Option Expr}, Good T fa ca cf k S P X → Takes X W → chkO T S o x = true → PO X x (RO X fa ca P W (evO cf o))
  | .none, S, P, X, W, x, G, tk, h => by
    unfold chkO at h
    split at h
    · exact s_onone
    · cases h
  | .some a, S, P, X, W, x, G, tk, h => by
    unfold chkO at h
    split at h
    · exact s_osome (sE a G tk h)
    · cases h
theorem sL : ∀ (l : CL) {S : SC} {P : L2.St → Prop} {X : Cx} {W : WX} {x : Expr}, Good T fa ca cf k S P X → Takes X W → chkL T S l x = true → PE X x (RF X fa ca P W (evL cf l))
  | .disp es, S, P, X, W, x, G, tk, h => by
    unfold chkL at h
    split at h
    · exact s_disp (sEs es G tk h)
    · cases h
  | .comp elt tg it cond own, S, P, X, W, x, G, tk, h => by
    unfold chkL at h
    split at h
    · rename_i y g scope pos
      obtain ⟨tg', it', ifs, ia⟩ := g
      simp only [Bool.and_eq_true] at h
      obtain ⟨⟨⟨⟨⟨⟨⟨⟨h1, h2⟩, h3⟩, h4⟩, h5⟩, h6⟩, h7⟩, h8⟩, h9⟩ := h
      have e : ia = 0 := of_decide_eq_true h2
      subst e
      exact s_comp G h1 h3 h5 h6 (sI it G tk h4) h7 (fun Xb hK Gb => sTo cond Gb takes0 h8) (fun Xb hK Gb => sE elt Gb takes0 h9)
    · cases h
  | .cat a b, S, P, X, W, x, G, tk, h => by
    unfold chkL at h
    split at h
    · rw [Bool.and_eq_true] at h
      exact s_cat (sE a G tk h.1) (sE b G tk h.2)
    · cases h
  | .rep a b, S, P, X, W, x, G, tk, h => by
    unfold chkL at h
    split at h
    · rw [Bool.and_eq_true] at h
      exact s_rep (sE a G tk h.1) (sE b G tk h.2)
    · cases h
  | .lst a, S, P, X, W, x, G, tk, h => by
    unfold chkL at h
    split at h
    · simp only [Bool.and_eq_true] at h
      exact s_list G (of_decide_eq_true h.1.1.1) h.1.1.2 h.1.2 (sE a G tk h.2)
    · cases h
  | .slc a lo hi, S, P, X, W, x, G, tk, h => by
    unfold chkL at h
    split at h
    · simp only [Bool.and_eq_true] at h
      exact s_slcL (sE a G tk h.1.1) (sO lo G tk h.1.2) (sO hi G tk h.2)
    · cases h
theorem sI : ∀ (it : CI) {S : SC} {P : L2.St → Prop} {X : Cx} {W : WX} {tg x : Expr}, Good T fa ca cf k S P X → Takes X W → chkI T S it tg x = true → PI X tg x (tI X.K fa ca P W (evI cf it))
  | .seq a, S, P, X, W, tg, x, G, tk, h => s_seq (sE a G tk h)
  | .rng1 a, S, P, X, W, tg, x, G, tk, h => by
    unfold chkI at h
    split at h
    · simp only [Bool.and_eq_true] at h
      exact s_rng1 G (of_decide_eq_true h.1.1.1) h.1.1.2 h.1.2 (sE a G tk h.2)
    · cases h
  | .rng2 a b, S, P, X, W, tg, x, G, tk, h => by
    unfold chkI at h
    split at h
    · simp only [Bool.and_eq_true] at h
      obtain ⟨⟨⟨⟨⟨h1, h2⟩, h3⟩, h4⟩, h5⟩, h6⟩ := h
      exact s_rng2 G (of_decide_eq_true h1) h2 h3 h4 (sE a G tk h5) (sE b G tk h6)
    · cases h
  | .enum a, S, P, X, W, tg, x, G, tk, h => by
    unfold chkI at h
    split at h
    · simp only [Bool.and_eq_true] at h
      obtain ⟨⟨⟨⟨h1, h2⟩, h3⟩, h4⟩, h5⟩ := h
      cases tg <;> first | exact s_enum G (of_decide_eq_true h2) h3 h4 (sE a G tk h5) | cases h1
    · cases h
  | .zip a b, S, P, X, W, tg, x, G, tk, h => by
    unfold chkI at h
    split at h
    · simp only [Bool.and_eq_true] at h
      obtain ⟨⟨⟨⟨⟨⟨h1, h2⟩, h3⟩, h4⟩, h5⟩, h6⟩, h7⟩ := h
      cases tg <;> first | exact s_zip G (of_decide_eq_true h2) h3 h4 h5 (sE a G tk h6) (sE b G tk h7) | cases h1
    · cases h
theorem sT : ∀ (t : CT) {S : SC} {P : L2.St → Prop} {X : Cx} {W : WX} {x : Expr}, Good T fa ca cf k S P X → Takes X W → chkT T S t x = true → PT X x (RT X fa ca P W (evT cf t))
  | .val a, S, P, X, W, x, G, tk, h => by
    unfold chkT at h
    rw [Bool.and_eq_true] at h
    exact s_val h.1 (sE a G tk h.2)
  | .tru a, S, P, X, W, x, G, tk, h => by
    unfold chkT at h
    rw [Bool.and_eq_true] at h
    exact s_tru h.1 (sE a G tk h.2)
  | .cmp o a b, S, P, X, W, x, G, tk, h => by
    unfold chkT at h
    split at h
    · simp only [Bool.and_eq_true] at h
      obtain ⟨⟨⟨⟨⟨h1, h2⟩, h3⟩, h4⟩, h5⟩, h6⟩ := h
      have e := of_decide_eq_true h2
      subst e
      exact (pt_cmpR (opC (fa := fa) (hu_room (G.room h1)) o) (sE a G tk h5) (sE b G tk h6) (nomark _ (of_decide_eq_true h3) (of_decide_eq_true h4))).imp fun σ H Q q => tTest_cmp (kk := evCmp o) q
    · cases h
  | .chain o p a b c, S, P, X, W, x, G, tk, h => by
    unfold chkT at h
    split at h
    · simp only [Bool.and_eq_true] at h
      obtain ⟨⟨⟨⟨⟨⟨⟨⟨⟨h1, h2⟩, h3⟩, h4⟩, h5⟩, h6⟩, h7⟩, h8⟩, h9⟩, h10⟩ := h
      have e := of_decide_eq_true h2
      subst e
      have e := of_decide_eq_true h5
      subst e
      exact (pt_chain (opC (fa := fa) (hu_room (G.room h1)) o) (opC (fa := fa) (hu_room (G.room h1)) p) (sE a G tk h8) (sE b G tk h9) (sE c G tk h10) (last_marks (of_decide_eq_true h6) (of_decide_eq_true h7))).imp fun σ H Q q => tChainT_of (k1 := evCmp o) (k2 := evCmp p) q
    · cases h
  | .and ts, S, P, X, W, x, G, tk, h => by
    unfold chkT at h
    split at h
    · exact (sTAnd ts G tk h).pt
    · cases h
  | .or ts, S, P, X, W, x, G, tk, h => by
    unfold chkT at h
    split at h
    · exact (sTOr ts G tk h).pt
    · cases h
  | .not t, S, P, X, W, x, G, tk, h => by
    unfold chkT at h
    split at h
    · exact s_tnot (sT t G tk h)
    · cases h
theorem sTAnd : ∀ (ts : CTs) {S : SC} {P : L2.St → Prop} {X : Cx} {W : WX} {xs : List Expr} {pos : Pos}, Good T fa ca cf k S P X → Takes X W → chkTs T S ts xs = true → PW X (.BoolOp .And xs pos) (RT X fa ca P W (evTAnd cf ts))
  | .nil, S, P, X, W, xs, pos, G, tk, h => ⟨fun wh pins s σ H Q I q => by
      obtain ⟨_, ρ, Z, e, m, _, q⟩ := q
      exact (show False from q).elim⟩
  | .cons a .nil, S, P, X, W, xs, pos, G, tk, h => by
    unfold chkTs at h
    split at h
    · rename_i x xs
      rw [Bool.and_eq_true] at h
      cases xs with
      | nil => exact s_tand1 (sT a G tk h.1)
      | cons _ _ => cases h.2
    · cases h
  | .cons a (.cons b es), S, P, X, W, xs, pos, G, tk, h => by
    unfold chkTs at h
    split at h
    · rename_i x xs
      rw [Bool.and_eq_true] at h
      cases xs with
      | nil => cases h.2
      | cons y ys => exact s_tand (sT a G tk h.1) (sTAnd (.cons b es) G tk h.2)
    · cases h
theorem sTOr : ∀ (ts : CTs) {S : SC} {P : L2.St → Prop} {X : Cx} {W : WX} {xs : List Expr} {pos : Pos}, Good T fa ca cf k S P X → Takes X W → chkTs T S ts xs = true → PW X (.BoolOp .Or xs pos) (RT X fa ca P W (evTOr cf ts))
  | .nil, S, P, X, W, xs, pos, G, tk, h => ⟨fun wh pins s σ H Q I q => by
      obtain ⟨_, ρ, Z, e, m, _, q⟩ := q
      exact (show False from q).elim⟩
  | .cons a .nil, S, P, X, W, xs, pos, G, tk, h => by
    unfold chkTs at h
    split at h
    · rename_i x xs
      rw [Bool.and_eq_true] at h
      cases xs with
      | nil => exact s_tor1 (sT a G tk h.1)
      | cons _ _ => cases h.2
    · cases h
  | .cons a (.cons b es), S, P, X, W, xs, pos, G, tk, h => by
    unfold chkTs at h
    split at h
    · rename_i x xs
      rw [Bool.and_eq_true] at h
      cases xs with
      | nil => cases h.2
      | cons y ys => exact s_tor (sT a G tk h.1) (sTOr (.cons b es) G tk h.2)
    · cases h
theorem sTo : ∀ (t : CTo) {S : SC} {P : L2.St → Prop} {X : Cx} {W : WX} {xs : List Expr}, Good T fa ca cf k S P X → Takes X W → chkTo T S t xs = true → PTs X xs (RT X fa ca P W (evTo cf t))
  | .none, S, P, X, W, xs, G, tk, h => by
    unfold chkTo at h
    split at h
    · exact s_tyes
    · cases h
  | .some t, S, P, X, W, xs, G, tk, h => by
    unfold chkTo at h
    split at h
    · exact s_tone (sT t G tk h)
    · cases h
end
end
end Dx
/-! Dx, part 14: the tie for statements; statements from their parts. -/
namespace Dx
open PySem PySem.Spec PyProof.Rows L2
/-! ### the tie -/
def lineOf (ts : List Expr) : Nat := (ts.head?.map (·.pos.line)).getD 0
def plainNames (S : SC) (ts : List Expr) : List Str := ts.filterMap fun
  | .Name id pos => if S.sc.names.lookup id == some .local && pos.line == lineOf ts then some id else none
  | _ => none
/-- a tuple of targets, a tuple of values: the tuple is made, then taken apart from the left -/
def swN (S : SC) (ts vs : List Expr) : Bool := (!(ts.length == 2 || ts.length == 3) || vs.length != ts.length) || ((plainNames S ts).length != ts.length || (plainNames S ts).eraseDups.length != (plainNames S ts).length) || vs.all (foldedForSure 8)
/-- .. no tuple is made; stored from the right -/
def swY (S : SC) (ts vs : List Expr) : Bool := !(!(ts.length == 2 || ts.length == 3) || vs.length != ts.length) && !((plainNames S ts).length != ts.length || (plainNames S ts).eraseDups.length != (plainNames S ts).length) && !vs.all (foldedForSure 8) && !vs.all (constantsAlone 8)
/-- name = [..]: stored within the comprehension's frame -/
def swC (S : SC) (n : Str) (np : Pos) (vp : Pos) (scope : Scope) : Bool := S.sc.names.lookup n == some .local && np.line == vp.line && !(scope.names.any fun (x, k) => x == n && (k == .local || k == .cell))
def isTupOrLst : Expr → Bool
  | .Tuple _ _ _ => true
  | .List _ _ => true
  | _ => false
def nocall0 : Expr → Bool
  | .Call _ [] [] _ => false
  | _ => true
def chkAct (T : Tab) (S : SC) : HAct → List Stmt → Bool
  | .asg j e, b => (match b with
    | [.Assign [.Name n _] v _] => S.exc != some j && notComp v && locB S j n && chkE T S e v
    | _ => false)
  | .ret e, b => (match b with
    | [.Return (some v) _] => chkE T S e v
    | _ => false)
def chkH (T : Tab) (S : SC) : CHs → List ExceptHandler → Bool
  | .nil, hs => (match hs with
    | [] => true
    | _ => false)
  | .cons c i a hs, l => (match l with
    | .ExceptHandler (some (.Name x _)) n body _ :: l => decide (T.cls[c]? = some x) && gloB S x && (match i, n with
      | none, none => true
      | some i, some n => decide (S.N[i]? = some n) && S.sc.names.lookup n == some .local
      | _, _ => false) && chkAct T { S with calm := false, exc := i } a body && chkH T S hs l
    | _ => false)
mutual
def chkS (T : Tab) (S : SC) : CS → Stmt → Bool
  | .expr e, s => (match s with
    | .Expr v _ => notComp v && chkE T S e v
    | _ => false)
  | .ret e, s => (match s with
    | .Return (some v) _ => chkE T S e v
    | _ => false)
  | .retN, s => (match s with
    | .Return none _ => true
    | _ => false)
  | .asg t e, s => (match s with
    | .Assign [tg] v _ => chkTg S t tg && chkE T S e v && (match tg, v with
      | .Name n np, .ListComp _ _ scope vp => (match e with
        | .lv (.comp _ _ _ _ _) => true
        | .lm (.comp _ _ _ _ _) => true
        | _ => false)
      | .Name _ _, v => notComp v
      | .Tuple ts _ _, .Tuple vs _ _ => S.calm && swN S ts vs && vs.all nst
      | .Tuple _ _ _, v => S.calm && !isTupOrLst v
      | _, _ => false)
    | _ => false)
  | .par2 i j a b, s => (match s with
    | .Assign [.Tuple [.Name x px, .Name y py] _ _] (.Tuple [v, w] _ _) _ => S.calm && decide (i ≠ j) && decide (S.N[i]? = some x) && decide (S.N[j]? = some y) && S.sc.names.lookup x == some .local && S.sc.names.lookup y == some .local &&
      swY S [.Name x px, .Name y py] [v, w] && nst v && nst w && chkE T S a v && chkE T S b w
    | _ => false)
  | .setI o i e, s => (match s with
    | .Assign [.Subscript p q _] v _ => notSlice q && notComp v && chkE T S o p && chkE T S i q && chkE T S e v
    | _ => false)
  | .swap o1 i1 o2 i2 a b, s => false
  | .app o e, s => (match s with
    | .Expr (.Call (.Attribute p n ap) [v] [] cp) _ => decide (n = ("append" : Str)) && nocall0 p && (ap.endLine == cp.line) && nst v && chkE T S o p && chkE T S e v
    | _ => false)
  | .ext o e, s => (match s with
    | .Expr (.Call (.Attribute p n ap) [v] [] cp) _ => decide (n = ("extend" : Str)) && nocall0 p && (ap.endLine == cp.line) && nst v && chkE T S o p && chkE T S e v
    | _ => false)
  | .ife t a b, s => (match s with
    | .If c x y _ => chkT T S t c && chkSs T S a x && chkSs T S b y
    | _ => false)
  | .for_ tg it body, s => (match s with
    | .For x i b [] _ => S.calm && notSet i && chkTg S tg x && chkI T S it x i && chkSs T S body b
    | _ => false)
  | .while_ t body, s => (match s with
    | .While c b [] _ => chkT T S t c && chkSs T S body b
    | _ => false)
  | .brk, s => (match s with
    | .Break _ => true
    | _ => false)
  | .cnt, s => (match s with
    | .Continue _ => true
    | _ => false)
  | .pass, s => (match s with
    | .Pass _ => true
    | _ => false)
  | .raise c, s => (match s with
    | .Raise (some (.Call (.Name x _) [] [] _)) none _ => S.calm && decide (T.cls[c]? = some x) && gloB S x
    | _ => false)
  | .try_ body hs, s => (match s with
    | .Try b (h :: l) [] [] _ => chkSs T S body b && chkH T S hs (h :: l)
    | _ => false)
def chkSs (T : Tab) (S : SC) : CSs → List Stmt → Bool
  | .nil, l => (match l with
    | [] => true
    | _ => false)
  | .cons s ss, l => (match l with
    | x :: l => chkS T S s x && chkSs T S ss l
    | _ => false)
end
theorem swapsWith_no {e : Expr} {t : Option Expr} {l : Nat} {env : Env} (h : notComp e = true) : swapsWith e t l env = pure false := by
  cases e <;> first | rfl | cases h
section
variable {S : SC} {env : Env}
theorem block_kind (hk : env.scope.kind = .function) : env.blockKind = .function := by
  unfold Env.blockKind
  rw [hk]; rfl
def starB (vs : List Expr) : Bool := vs.any fun
  | .Starred .. => true
  | _ => false
def nmsE (env : Env) (ts : List Expr) : List Str := ts.filterMap fun
  | .Name id pos => if env.kindOf id == some .local && pos.line == (ts.head?.map (·.pos.line)).getD 0 then some id else none
  | _ => none
theorem nms_eq (hs : env.scope = S.sc) (ts : List Expr) : nmsE env ts = plainNames S ts := by
  unfold plainNames lineOf nmsE
  have e : env.kindOf = fun id => S.sc.names.lookup id := by
    funext id
    show env.scope.names.lookup id = _
    rw [hs]
  rw [e]
theorem star_none {vs : List Expr} (hn : vs.all nst = true) : starB vs = false := by
  unfold starB
  rw [List.any_eq_false]
  intro x hx
  have := List.all_eq_true.mp hn x hx
  cases x <;> first | exact Bool.false_ne_true | cases this
/-- the model's decision, once more -/
def swM (env : Env) (ts vs : List Expr) : Sem (Option (List Str)) :=
  if (!(ts.length == 2 || ts.length == 3) || vs.length != ts.length || env.blockKind != ScopeKind.function) = true then pure none
  else if starB vs = true then pure none
  else if ((nmsE env ts).length != ts.length || (nmsE env ts).eraseDups.length != (nmsE env ts).length) = true then pure none
  else if vs.all (foldedForSure 8) = true then pure none
  else if vs.all (constantsAlone 8) = true then (do unsupported "assign.tuple-of-constant-expressions:order-of-the-stores"; return some (nmsE env ts))
  else pure (some (nmsE env ts))
theorem sw_eq {ts vs : List Expr} {k1 k2 : Nat} {p1 p2 : Pos} : swappedStores [.Tuple ts k1 p1] (.Tuple vs k2 p2) env = swM env ts vs := rfl
theorem sw_no (hs : env.scope = S.sc) (hk : env.scope.kind = .function) {ts vs : List Expr} {k1 k2 : Nat} {p1 p2 : Pos} (hn : vs.all nst = true) (h : swN S ts vs = true) : swappedStores [.Tuple ts k1 p1] (.Tuple vs k2 p2) env = pure none := by
  rw [sw_eq]
  unfold swM
  rw [star_none hn, nms_eq hs ts, block_kind hk]
  unfold swN at h
  by_cases c1 : (!(ts.length == 2 || ts.length == 3) || vs.length != ts.length) = true
  · rw [if_pos (by rw [c1]; rfl)]
  · rw [Bool.not_eq_true] at c1
    rw [c1, Bool.false_or] at h
    rw [if_neg (by rw [c1]; simp), if_neg Bool.false_ne_true]
    by_cases c2 : ((plainNames S ts).length != ts.length || (plainNames S ts).eraseDups.length != (plainNames S ts).length) = true
    · rw [if_pos c2]
    · rw [if_neg c2]
      rw [Bool.not_eq_true] at c2
      rw [c2, Bool.false_or] at h
      rw [if_pos h]
theorem sw_yes (hs : env.scope = S.sc) (hk : env.scope.kind = .function) {ts vs : List Expr} {k1 k2 : Nat} {p1 p2 : Pos} (hn : vs.all nst = true) (h : swY S ts vs = true) : swappedStores [.Tuple ts k1 p1] (.Tuple vs k2 p2) env = pure (some (plainNames S ts)) := by
  unfold swY at h
  simp only [Bool.and_eq_true, Bool.not_eq_true'] at h
  obtain ⟨⟨⟨c1, c2⟩, c3⟩, c4⟩ := h
  rw [sw_eq]
  unfold swM
  rw [star_none hn, nms_eq hs ts, block_kind hk]
  rw [if_neg (by rw [c1]; simp), if_neg Bool.false_ne_true, if_neg (by rw [c2]; exact Bool.false_ne_true), if_neg (by rw [c3]; exact Bool.false_ne_true), if_neg (by rw [c4]; exact Bool.false_ne_true)]
theorem sw_nontup {t v : Expr} (h : isTupOrLst v = false ∨ isTupOrLst t = false) : swappedStores [t] v env = pure none := by
  unfold swappedStores
  cases t <;> cases v <;> first | rfl | (rcases h with h | h <;> cases h)
theorem sw_sole {t v : Expr} {l : Nat} (h : notComp v = true ∨ isTup t = true) : swapsWithSole [t] v l env = pure false := by
  show swapsWith v (some t) l env = pure false
  rcases h with h | h
  · exact swapsWith_no h
  · cases t <;> first | cases h | skip
    cases v <;> rfl
theorem sw_comp (hs : env.scope = S.sc) (hk : env.scope.kind = .function) {elt : Expr} {gs : List Comprehension} {scope : Scope} {vp np : Pos} {n : Str} {l : Nat} : swapsWith (.ListComp elt gs scope vp) (some (.Name n np)) l env = pure (swC S n np vp scope) := by
  have hb := block_kind hk
  have e : env.kindOf n = S.sc.names.lookup n := by
    show env.scope.names.lookup n = _
    rw [hs]
  unfold swapsWith swC
  simp only [hb, e, Expr.pos]
  rfl
end
end Dx
/-! Dx, part 15: statements from their parts. -/
namespace Dx
open PySem PySem.Spec PyProof.Rows L2
/-- what is wanted behind a statement, by data -/
def PSR (K : PySem.W.Frag) (fa ca : Nat → Addr) (W : WX) (ρ : List Addr) (Z : Addr → Prop) (H : Hp) (r : SRes) (D : Ends) : Prop := match r with
  | .nx e m => ∀ ρ' Z' H' σ', Step ρ Z H ρ' Z' H' → Sim K fa ρ' Z' H' σ' e m → D.nx σ' H'
  | .brk e m => ∀ ρ' Z' H' σ', Step ρ Z H ρ' Z' H' → Sim K fa ρ' Z' H' σ' e m → D.bk σ' H'
  | .cnt e m => ∀ ρ' Z' H' σ', Step ρ Z H ρ' Z' H' → Sim K fa ρ' Z' H' σ' e m → D.ct σ' H'
  | .ret d m => ∀ ρ' Z' H' v, Step ρ Z H ρ' Z' H' → MOk K fa ρ' Z' H' m → RelD K fa ρ' Z' H' d v → D.rt v H'
  | .err c e m => ∀ ρ' Z' H' σ', Step ρ Z H ρ' Z' H' → Sim K fa ρ' Z' H' σ' e m → W (.ref (ca c)) none σ' H'
  | .bad => False
def tS (K : PySem.W.Frag) (fa ca : Nat → Addr) (W : WX) (f : Env' → M → SRes) : TS := fun D σ H => ∃ ρ Z e m, Sim K fa ρ Z H σ e m ∧ PSR K fa ca W ρ Z H (f e m) D
structure GoodS (T : Tab) (fa ca : Nat → Addr) (cf : Cfg) (k : Nat) (S : SC) (X : Cx) : Prop where
  g : Good T fa ca cf k S P1 X
  hp : PassesOwn (model X.prog X.w) X.A X.env X.xe
  hs : X.stack = X.env :: X.outer
  hf : X.env.frame = some X.env.locals
  kind : S.sc.kind = .function
  ex : S.exc = none
section
variable {K : PySem.W.Frag} {fa ca : Nat → Addr} {W : WX} {ρ ρ1 : List Addr} {Z Z1 : Addr → Prop} {H H1 : Hp} {σ : L2.St} {e : Env'} {m : M} {En : Ends}
theorem PSR.step {r : SRes} (hot : Hot Z H) (s : Step ρ Z H ρ1 Z1 H1) (h : PSR K fa ca W ρ Z H r En) : PSR K fa ca W ρ1 Z1 H1 r En := by
  cases r with
  | nx e m => exact fun ρ' Z' H' σ' t S => h ρ' Z' H' σ' (s.trans hot t) S
  | brk e m => exact fun ρ' Z' H' σ' t S => h ρ' Z' H' σ' (s.trans hot t) S
  | cnt e m => exact fun ρ' Z' H' σ' t S => h ρ' Z' H' σ' (s.trans hot t) S
  | err c e m => exact fun ρ' Z' H' σ' t S => h ρ' Z' H' σ' (s.trans hot t) S
  | ret d m => exact fun ρ' Z' H' v t S => h ρ' Z' H' v (s.trans hot t) S
  | bad => exact h
/-- behind an expression -/
theorem PSR.ofE {r : Res D} {kk : D → M → SRes} (Sm : Sim K fa ρ Z H σ e m) (h : PSR K fa ca W ρ Z H (r.toS e kk) En) :
    PR K fa ca W σ (rD K fa) ρ Z H r fun v H1 => ∃ ρ1 Z1 d m1, Step ρ Z H ρ1 Z1 H1 ∧ MOk K fa ρ1 Z1 H1 m1 ∧ RelD K fa ρ1 Z1 H1 d v ∧ PSR K fa ca W ρ1 Z1 H1 (kk d m1) En := by
  cases r with
  | ok d m1 => exact fun ρ1 Z1 H1 v s I r => ⟨ρ1, Z1, d, m1, s, I, r, PSR.step Sm.mok.hot s h⟩
  | err c m1 => exact fun ρ1 Z1 H1 s I => h ρ1 Z1 H1 σ s (Sm.step s I)
  | bad => exact h
end
section
variable {T : Tab} {fa ca : Nat → Addr} {cf : Cfg} {k : Nat} {S : SC} {X : Cx} {W : WX}
abbrev RS (X : Cx) (fa ca : Nat → Addr) (W : WX) (f : Env' → M → SRes) : TS := tS X.K fa ca W f
/-- the parts of a statement that begins by an expression -/
theorem RS_E {f : Env' → M → Res D} {kk : Env' → D → M → SRes} {En : Ends} {σ : L2.St} {H : Hp} (h : RS X fa ca W (fun e m => (f e m).toS e (kk e)) En σ H) (Q : VK)
    (hk : ∀ ρ Z e m d v H1, Sim X.K fa ρ Z H1 σ e m → RelD X.K fa ρ Z H1 d v → PSR X.K fa ca W ρ Z H1 (kk e d m) En → Q v H1) : RE X fa ca P1 W f σ H Q := by
  obtain ⟨ρ, Z, e, m, Sm, h⟩ := h
  exact ⟨trivial, ρ, Z, e, m, Sm, (PSR.ofE Sm h).mono fun v H1 ⟨ρ1, Z1, d, m1, s1, I1, r1, h1⟩ => hk ρ1 Z1 e m1 d v H1 (Sm.step s1 I1) r1 h1⟩
theorem s_expr {a : Expr} {pos : Pos} {f : Env' → M → Res D} (hn : notComp a = true) (ha : PE X a (RE X fa ca P1 W f)) : PS X (.Expr a pos) (RS X fa ca W fun e m => (f e m).toS e fun _ m => .nx e m) :=
  (ps_expr ha (swapsWith_no hn)).imp fun D σ H h => RS_E h _ fun ρ Z e m d v H1 Sm r q => q ρ Z H1 σ Step.refl Sm
theorem s_ret {a : Expr} {pos : Pos} {f : Env' → M → Res D} (ha : PE X a (RE X fa ca P1 W f)) : PS X (.Return (some a) pos) (RS X fa ca W fun e m => (f e m).toS e fun d m => .ret d m) :=
  (ps_ret ha).imp fun D σ H h => RS_E h _ fun ρ Z e m d v H1 Sm r q => q ρ Z H1 v Step.refl Sm.mok r
theorem s_retN {pos : Pos} : PS X (.Return none pos) (RS X fa ca W fun _ m => .ret .non m) :=
  ps_retN.imp fun D σ H ⟨ρ, Z, e, m, Sm, q⟩ => q ρ Z H .non Step.refl Sm.mok rfl
theorem s_pass {pos : Pos} : PS X (.Pass pos) (RS X fa ca W fun e m => .nx e m) := ps_pass.imp fun D σ H ⟨ρ, Z, e, m, Sm, q⟩ => q ρ Z H σ Step.refl Sm
theorem s_brk {pos : Pos} : PS X (.Break pos) (RS X fa ca W fun e m => .brk e m) := ps_break.imp fun D σ H ⟨ρ, Z, e, m, Sm, q⟩ => q ρ Z H σ Step.refl Sm
theorem s_cnt {pos : Pos} : PS X (.Continue pos) (RS X fa ca W fun e m => .cnt e m) := ps_continue.imp fun D σ H ⟨ρ, Z, e, m, Sm, q⟩ => q ρ Z H σ Step.refl Sm
/-- a value into a target -/
theorem into {t : Tg} {En : Ends} {σ : L2.St} {ρ : List Addr} {Z : Addr → Prop} {H : Hp} {e : Env'} {m : M} {d : D} {v : V} (Sm : Sim X.K fa ρ Z H σ e m) (r : RelD X.K fa ρ Z H d v)
    (q : PSR X.K fa ca W ρ Z H (match assignTg t d e with
      | some e' => .nx e' m
      | none => .bad) En) : gD X.K fa t v σ H En.nx := by
  split at q
  · rename_i e' he
    exact ⟨ρ, Z, e, m, d, e', Sm, r, he, fun σ' S' _ _ => q ρ Z H σ' Step.refl S'⟩
  · exact q.elim
theorem s_asg {tg a : Expr} {t : Tg} {pos : Pos} {f : Env' → M → Res D} (G : Good T fa ca cf k S P1 X) (hg : chkTg S t tg = true) (hs : swapsWithSole [tg] a pos.line X.env = pure false) (hw : swappedStores [tg] a X.env = pure none) (hn : nst tg = true)
    (ha : PE X a (RE X fa ca P1 W f)) : PS X (.Assign [tg] a pos) (RS X fa ca W fun e m => (f e m).toS e fun d m => match assignTg t d e with
      | some e' => .nx e' m
      | none => .bad) :=
  (ps_asg ha (s_tg G hg) hs hw (by rw [assignEach_ns hn]; rfl)).imp fun D σ H h => RS_E h _ fun ρ Z e m d v H1 Sm r q => into Sm r q
theorem s_par2 {x y : Str} {a b : Expr} {i j : Nat} {px py pt : Pos} {kt k2 : Nat} {pt2 pos : Pos} {f g : Env' → M → Res D} (G : GoodS T fa ca cf k S X) (hc : S.calm = true) (hij : i ≠ j) (hi : S.N[i]? = some x) (hj : S.N[j]? = some y)
    (hx : S.sc.names.lookup x = some .local) (hy : S.sc.names.lookup y = some .local) (hw : swY S [.Name x px, .Name y py] [a, b] = true) (na : nst a = true) (nb : nst b = true) (ha : PE X a (RE X fa ca P1 W f)) (hb : PE X b (RE X fa ca P1 W g)) :
    PS X (.Assign [.Tuple [.Name x px, .Name y py] kt pt] (.Tuple [a, b] k2 pt2) pos) (RS X fa ca W fun e m => (f e m).toS e fun x m => (g e m).toS e fun y m => .nx ((e.set i (some x)).set j (some y)) m) := by
  have hw' : swappedStores [.Tuple [.Name x px, .Name y py] kt pt] (.Tuple [a, b] k2 pt2) X.env = pure (some [x, y]) := by
    rw [sw_yes (S := S) G.g.sc (by rw [G.g.sc]; exact G.kind) (by simp [na, nb]) hw]
    have e : plainNames S [.Name x px, .Name y py] = [x, y] := by
      have hl : (plainNames S [.Name x px, .Name y py]).length = 2 := by
        unfold swY at hw
        simp only [Bool.and_eq_true, Bool.not_eq_true', Bool.or_eq_false_iff, bne_eq_false_iff_eq] at hw
        exact hw.1.1.2.1
      unfold plainNames at hl ⊢
      simp only [List.filterMap_cons, List.filterMap_nil, hx, hy] at hl ⊢
      split at hl <;> split at hl <;> simp_all
    rw [e]
  refine (ps_par (G.g.calm hc) (by rw [G.g.N]; exact G.g.nd) (by rw [G.g.N]; exact hi) (by rw [G.g.N]; exact hj) hij (by rw [G.g.sc]; exact hx) (by rw [G.g.sc]; exact hy) (pa_cons ha (pa_cons hb pa_nil (starEach_ns nb)) (starEach_ns na)) hw' (sw_sole (.inr rfl))).imp fun D σ H h => ?_
  refine RS_E (kk := fun e x m => (g e m).toS e fun y m => .nx ((e.set i (some x)).set j (some y)) m) h _ fun ρ Z e m d v H1 Sm r q => ?_
  refine ⟨trivial, ρ, Z, e, m, Sm, (PSR.ofE Sm q).mono fun w H2 ⟨ρ2, Z2, d2, m2, s2, I2, r2, q2⟩ => ?_⟩
  have Sm2 := Sm.step s2 I2
  exact ⟨v, w, rfl, q2 ρ2 Z2 H2 _ Step.refl ((Sm2.set (RelD.mono s2 Sm.mok.hot _ _ r)).set r2)⟩
/-- o[i] = v by data -/
theorem set_data {σ : L2.St} {ρ : List Addr} {Z : Addr → Prop} {H : Hp} {e : Env'} {m : M} {o i d : D} {ov iv v : V} {Q : Hp → Prop} (Sm : Sim X.K fa ρ Z H σ e m) (ro : RelD X.K fa ρ Z H o ov) (ri : RelD X.K fa ρ Z H i iv) (r : RelD X.K fa ρ Z H d v)
    {En : Ends} (q : PSR X.K fa ca W ρ Z H (storeI cf m o i d e) En) (hk : ∀ H' m', storeI cf m o i d e = .nx e m' → Step ρ Z H ρ Z H' → MOk X.K fa ρ Z H' m' → Q H') : rSetL ov iv v H Q := by
  unfold storeI at q hk
  split at q
  · rename_i rr kk
    split at q
    · rename_i xs hx
      split at q
      · rename_i j hj
        obtain ⟨p, rfl, hp⟩ := ro
        cases (show iv = _ from ri)
        obtain ⟨p', vs, hp', zp, hv, t⟩ := Sm.mok.get hx
        rw [hp] at hp'
        cases hp'
        obtain ⟨I', s'⟩ := Sm.mok.set hx hp (RelDs.set r j t)
        refine ⟨p, vs, kk, j, rfl, rfl, hv, by rw [← t.length]; exact hj, ?_⟩
        unfold store at q
        split at q
        · rename_i hst
          refine hk _ (m.set rr (.lst (xs.set j d))) ?_ s' I'
          simp only [hx, hj]
          unfold store
          rw [if_pos hst]
        · exact q.elim
      · exact q.elim
    · exact q.elim
  · exact q.elim
theorem storeI_nx {c : Cfg} {m : M} {o i d : D} {e : Env'} : storeI c m o i d e = .bad ∨ ∃ m', storeI c m o i d e = .nx e m' := by
  unfold storeI
  split
  · split
    · split
      · unfold store
        split
        · exact .inr ⟨_, rfl⟩
        · exact .inl rfl
      · exact .inl rfl
    · exact .inl rfl
  · exact .inl rfl
end
end Dx
/-! Dx, part 16: changes, branches, loops. -/
namespace Dx
open PySem PySem.Spec PyProof.Rows L2
section
variable {T : Tab} {fa ca : Nat → Addr} {cf : Cfg} {k : Nat} {S : SC} {X : Cx} {W : WX}
/-- the next expression of a statement -/
theorem nextE {f : Env' → M → Res D} {kk : D → M → SRes} {En : Ends} {ρ : List Addr} {Z : Addr → Prop} {H : Hp} {σ : L2.St} {e : Env'} {m : M} {Q : VK} (Sm : Sim X.K fa ρ Z H σ e m) (h : PSR X.K fa ca W ρ Z H ((f e m).toS e kk) En)
    (hk : ∀ ρ1 Z1 d m1 v H1, Step ρ Z H ρ1 Z1 H1 → Sim X.K fa ρ1 Z1 H1 σ e m1 → RelD X.K fa ρ1 Z1 H1 d v → PSR X.K fa ca W ρ1 Z1 H1 (kk d m1) En → Q v H1) : RE X fa ca P1 W f σ H Q :=
  ⟨trivial, ρ, Z, e, m, Sm, (PSR.ofE Sm h).mono fun v H1 ⟨ρ1, Z1, d, m1, s1, I1, r1, h1⟩ => hk ρ1 Z1 d m1 v H1 s1 (Sm.step s1 I1) r1 h1⟩
theorem isSlice_no {i : Expr} (h : notSlice i = true) {o : Expr} {pos : Pos} {env : Env} (v : Value) : assign (.Subscript o i pos) env v = (do
      let ov ← holding [v] (eval o env)
      let iv ← holding [v, ov] (eval i env)
      standAt pos
      holding [v, ov, iv] (setItem ov iv v)
      release [v, ov, iv] []) := by
  cases i <;> first | rfl | cases h
theorem sub_nst {o i : Expr} {pos : Pos} : nst (.Subscript o i pos) = true := rfl
theorem s_setI {p q a : Expr} {tp pos : Pos} {fa' fo fi : Env' → M → Res D} (hn : notSlice q = true) (hs : swapsWithSole [.Subscript p q tp] a pos.line X.env = pure false) (hw : swappedStores [.Subscript p q tp] a X.env = pure none)
    (ha : PE X a (RE X fa ca P1 W fa')) (ho : PE X p (RE X fa ca P1 W fo)) (hi : PE X q (RE X fa ca P1 W fi)) :
    PS X (.Assign [.Subscript p q tp] a pos) (RS X fa ca W fun e m => (fa' e m).toS e fun d m => (fo e m).toS e fun o m => (fi e m).toS e fun i m => storeI cf m o i d e) := by
  refine (ps_asg ha (pg_sub ho hi set_list (isSlice_no hn)) hs hw (by rw [assignEach_ns sub_nst]; rfl)).imp fun En σ H h => ?_
  refine RS_E (kk := fun e d m => (fo e m).toS e fun o m => (fi e m).toS e fun i m => storeI cf m o i d e) h _ fun ρ Z e m d v H1 Sm r q => ?_
  refine nextE (kk := fun o m => (fi e m).toS e fun i m => storeI cf m o i d e) Sm q fun ρ2 Z2 o m2 ov H2 s2 Sm2 ro q2 => ?_
  refine nextE (kk := fun i m => storeI cf m o i d e) Sm2 q2 fun ρ3 Z3 i m3 iv H3 s3 Sm3 ri q3 => ?_
  refine set_data (cf := cf) (e := e) Sm3 (RelD.mono s3 Sm2.mok.hot _ _ ro) ri (RelD.mono s3 Sm2.mok.hot _ _ (RelD.mono s2 Sm.mok.hot _ _ r)) q3 fun H4 m4 e4 s4 I4 => ?_
  rw [e4] at q3
  exact q3 ρ3 Z3 H4 σ s4 (Sm3.step s4 I4)
theorem rels_sing {K : PySem.W.Frag} {ρ : List Addr} {Z : Addr → Prop} {H : Hp} {d : D} {v : V} (r : RelD K fa ρ Z H d v) : RelDs K fa ρ Z H [d] [v] := ⟨v, [], rfl, r, rfl⟩
theorem base_no {p : Expr} {n : Str} {env : Env} {w : Sem Value} (h : nocall0 p = true) : attributeBase p n env w = w := by
  cases p with
  | Call f as ks pos =>
    cases as with
    | cons _ _ => cases f <;> rfl
    | nil => cases ks with
      | cons _ _ => cases f <;> rfl
      | nil => cases h
  | _ => rfl
theorem few_one {a : Expr} {env : Env} {cp : Pos} (hn : nst a = true) : ((backTo cp (starEach [a] env)).all (fun x => !x.1) && (backToKw cp (keywordEach [] env)).all (fun x => x.1.isSome)
      && decide (([a] : List Expr).length + ([] : List Keyword).length + (if ([] : List Keyword).isEmpty then 0 else 1) < 30)) = true := by
  rw [starEach_ns hn]; rfl
/-- app's end -/
theorem s_app {p a : Expr} {ap cp pos : Pos} {fo fe : Env' → M → Res D} (hb : nocall0 p = true) (hl : (ap.endLine == cp.line) = true) (hn : nst a = true) (ho : PE X p (RE X fa ca P1 W fo)) (ha : PE X a (RE X fa ca P1 W fe)) :
    PS X (.Expr (.Call (.Attribute p "append" ap) [a] [] cp) pos) (RS X fa ca W fun e m => (fo e m).toS e fun o m => match o with
    | .ref r => (match m[r]? with
      | some (.lst _) => (fe e m).toS e fun d m => (match m[r]? with
        | some (.lst xs) => if lineOk xs.length then store cf m r (xs ++ [d]) d e else .bad
        | _ => .bad)
      | _ => .bad)
    | _ => .bad) := by
  refine (ps_expr (pe_bm (T := "list") (id := "list.append") PySem.F.plainAttrs_list PySem.F.slot_list_append PySem.F.type_list_append mt_append ho (pa_cons ha pa_nil (starEach_ns hn)) (base_no hb) (few_one hn) hl (starEach_ns hn) rfl) (swapsWith_no rfl)).imp fun En σ H h => ?_
  refine RS_E (kk := fun e o m => match o with
    | .ref r => (match m[r]? with
      | some (.lst _) => (fe e m).toS e fun d m => (match m[r]? with
        | some (.lst xs) => if lineOk xs.length then store cf m r (xs ++ [d]) d e else .bad
        | _ => .bad)
      | _ => .bad)
    | _ => .bad) h _ fun ρ Z e m o ov H1 Sm ro q => ?_
  split at q
  · rename_i r
    split at q
    · rename_i xs0 hx0
      obtain ⟨p1, rfl, hp1⟩ := ro
      obtain ⟨p', vs0, hp', _, hv0, _⟩ := Sm.mok.get hx0
      rw [hp1] at hp'
      cases hp'
      refine ⟨.inl ⟨rfl, vs0, SqL.of hv0⟩, ?_⟩
      refine nextE (kk := fun d m => (match m[r]? with
        | some (.lst xs) => if lineOk xs.length then store cf m r (xs ++ [d]) d e else .bad
        | _ => .bad)) Sm q fun ρ2 Z2 d m2 v H2 s2 Sm2 rd q2 => ?_
      split at q2
      · rename_i xs hx
        split at q2
        · rename_i hl
          unfold store at q2
          split at q2
          · obtain ⟨p', vs, hp', zp, hv, t⟩ := Sm2.mok.get hx
            have hp2 := s2.ix hp1
            rw [hp2] at hp'
            cases hp'
            obtain ⟨I', s'⟩ := Sm2.mok.set hx hp2 (t.append (rels_sing rd))
            exact ⟨p1, vs, v, rfl, rfl, hv, by rw [← t.length]; exact line_lt hl, q2 ρ2 Z2 _ σ s' (Sm2.step s' I')⟩
          · exact q2.elim
        · exact q2.elim
      · exact q2.elim
    · exact q.elim
  · exact q.elim
theorem s_ext {p a : Expr} {ap cp pos : Pos} {fo fe : Env' → M → Res D} (hb : nocall0 p = true) (hl : (ap.endLine == cp.line) = true) (hn : nst a = true) (ho : PE X p (RE X fa ca P1 W fo)) (ha : PE X a (RE X fa ca P1 W fe)) :
    PS X (.Expr (.Call (.Attribute p "extend" ap) [a] [] cp) pos) (RS X fa ca W fun e m => (fo e m).toS e fun o m => match o with
    | .ref r => (match m[r]? with
      | some (.lst _) => (fe e m).toS e fun d m => (match m[r]?, lstOf m d with
        | some (.lst xs), some ys => if lineOk (xs.length + ys.length) then store cf m r (xs ++ ys) (.lst ys) e else .bad
        | _, _ => .bad)
      | _ => .bad)
    | _ => .bad) := by
  refine (ps_expr (pe_bm (T := "list") (id := "list.extend") PySem.F.plainAttrs_list PySem.F.slot_list_extend PySem.F.type_list_extend mt_extend ho (pa_cons ha pa_nil (starEach_ns hn)) (base_no hb) (few_one hn) hl (starEach_ns hn) rfl) (swapsWith_no rfl)).imp fun En σ H h => ?_
  refine RS_E (kk := fun e o m => match o with
    | .ref r => (match m[r]? with
      | some (.lst _) => (fe e m).toS e fun d m => (match m[r]?, lstOf m d with
        | some (.lst xs), some ys => if lineOk (xs.length + ys.length) then store cf m r (xs ++ ys) (.lst ys) e else .bad
        | _, _ => .bad)
      | _ => .bad)
    | _ => .bad) h _ fun ρ Z e m o ov H1 Sm ro q => ?_
  split at q
  · rename_i r
    split at q
    · rename_i xs0 hx0
      obtain ⟨p1, rfl, hp1⟩ := ro
      obtain ⟨p', vs0, hp', _, hv0, _⟩ := Sm.mok.get hx0
      rw [hp1] at hp'
      cases hp'
      refine ⟨.inl ⟨rfl, vs0, SqL.of hv0⟩, ?_⟩
      refine nextE (kk := fun d m => (match m[r]?, lstOf m d with
        | some (.lst xs), some ys => if lineOk (xs.length + ys.length) then store cf m r (xs ++ ys) (.lst ys) e else .bad
        | _, _ => .bad)) Sm q fun ρ2 Z2 d m2 v H2 s2 Sm2 rd q2 => ?_
      split at q2
      · rename_i xs ys hx hy
        split at q2
        · rename_i hl
          unfold store at q2
          split at q2
          · obtain ⟨p', vs, hp', zp, hv, t⟩ := Sm2.mok.get hx
            have hp2 := s2.ix hp1
            rw [hp2] at hp'
            cases hp'
            obtain ⟨b, ws, rfl, hb, u⟩ := lst_seq Sm2.mok rd hy
            obtain ⟨I', s'⟩ := Sm2.mok.set hx hp2 (t.append u)
            exact ⟨p1, b, vs, ws, rfl, rfl, hv, hb, by rw [← t.length, ← u.length]; exact line_le hl, q2 ρ2 Z2 _ σ s' (Sm2.step s' I')⟩
          · exact q2.elim
        · exact q2.elim
      · exact q2.elim
    · exact q.elim
  · exact q.elim
theorem s_ifS {c : Expr} {a b : List Stmt} {pos : Pos} {ft : Env' → M → Res Bool} {fx fy : Env' → M → SRes} (hc : PT X c (RT X fa ca P1 W ft)) (ha : PSs X a (RS X fa ca W fx)) (hb : PSs X b (RS X fa ca W fy)) :
    PS X (.If c a b pos) (RS X fa ca W fun e m => match ft e m with
    | .ok k m => if k then fx e m else fy e m
    | .err x m => .err x e m
    | .bad => .bad) := by
  refine (ps_if hc ha hb).imp fun En σ H h => ?_
  obtain ⟨ρ, Z, e, m, Sm, h⟩ := h
  refine ⟨trivial, ρ, Z, e, m, Sm, ?_⟩
  dsimp only at h
  cases q : ft e m with
  | bad => rw [q] at h; exact h
  | err c m1 => rw [q] at h; exact fun ρ1 Z1 H1 s I => h ρ1 Z1 H1 σ s (Sm.step s I)
  | ok kk m1 =>
    rw [q] at h
    intro ρ1 Z1 H1 b s I hb'
    cases (show kk = b from hb')
    cases kk with
    | true => exact ⟨ρ1, Z1, e, m1, Sm.step s I, PSR.step Sm.mok.hot s h⟩
    | false => exact ⟨ρ1, Z1, e, m1, Sm.step s I, PSR.step Sm.mok.hot s h⟩
/-- one turn of a loop -/
theorem turnP {ρ : List Addr} {Z : Addr → Prop} {H : Hp} {r : SRes} {L : Env' → M → SRes} {En : Ends} (h : PSR X.K fa ca W ρ Z H (match r with
    | .nx e m => L e m
    | .cnt e m => L e m
    | .brk e m => .nx e m
    | r => r) En) (hot : Hot Z H) : PSR X.K fa ca W ρ Z H r { En with
      nx := fun σ' H' => ∃ ρ' Z' e' m', Step ρ Z H ρ' Z' H' ∧ Sim X.K fa ρ' Z' H' σ' e' m' ∧ PSR X.K fa ca W ρ' Z' H' (L e' m') En
      ct := fun σ' H' => ∃ ρ' Z' e' m', Step ρ Z H ρ' Z' H' ∧ Sim X.K fa ρ' Z' H' σ' e' m' ∧ PSR X.K fa ca W ρ' Z' H' (L e' m') En
      bk := En.nx } := by
  cases r with
  | nx e m => exact fun ρ' Z' H' σ' s S => ⟨ρ', Z', e, m, s, S, PSR.step hot s h⟩
  | cnt e m => exact fun ρ' Z' H' σ' s S => ⟨ρ', Z', e, m, s, S, PSR.step hot s h⟩
  | brk e m => exact h
  | ret d m => exact h
  | err c e m => exact h
  | bad => exact h
theorem psr_nx {K : PySem.W.Frag} {fa ca : Nat → Addr} {W : WX} {ρ : List Addr} {Z : Addr → Prop} {H : Hp} {r : SRes} {En : Ends} {N N' : L2.St → Hp → Prop} {b : L2.St → Hp → Prop} (h : PSR K fa ca W ρ Z H r { En with nx := N, ct := N, bk := b }) (hN : ∀ σ H, N σ H → N' σ H) : PSR K fa ca W ρ Z H r { En with nx := N', ct := N', bk := b } := by
  cases r with
  | nx e m => exact fun ρ' Z' H' σ' s S => hN _ _ (h ρ' Z' H' σ' s S)
  | cnt e m => exact fun ρ' Z' H' σ' s S => hN _ _ (h ρ' Z' H' σ' s S)
  | brk e m => exact h
  | ret d m => exact h
  | err c e m => exact h
  | bad => exact h
theorem s_while {c : Expr} {body : List Stmt} {pos : Pos} {ft : Env' → M → Res Bool} {fb : Env' → M → SRes} {n : Nat} (hp : PassesOwn (model X.prog X.w) X.A X.env X.xe) (hc : PT X c (RT X fa ca P1 W ft)) (hb : PSs X body (RS X fa ca W fb)) :
    PS X (.While c body [] pos) (RS X fa ca W fun e m => whileN ft fb n e m) := by
  refine (ps_while hp hc hb).imp fun En σ H h => ?_
  refine ⟨fun n σ H => ∃ ρ Z e m, Sim X.K fa ρ Z H σ e m ∧ PSR X.K fa ca W ρ Z H (whileN ft fb n e m) En, ⟨n, h⟩, ?_⟩
  intro n σ H ⟨ρ, Z, e, m, Sm, h⟩
  cases n with
  | zero => exact (show False from h).elim
  | succ n =>
    refine ⟨trivial, ρ, Z, e, m, Sm, ?_⟩
    unfold whileN at h
    cases q : ft e m with
    | bad => rw [q] at h; exact h
    | err c m1 => rw [q] at h; exact fun ρ1 Z1 H1 s I => h ρ1 Z1 H1 σ s (Sm.step s I)
    | ok kk m1 =>
      rw [q] at h
      intro ρ1 Z1 H1 b s I hb'
      cases (show kk = b from hb')
      have Sm1 := Sm.step s I
      have h := PSR.step Sm.mok.hot s h
      cases kk with
      | false => exact h ρ1 Z1 H1 σ Step.refl Sm1
      | true =>
        have t := turnP (L := whileN ft fb n) h Sm1.mok.hot
        exact ⟨_, fun σ' H' ⟨ρ', Z', e', m', s', S', h'⟩ => ⟨n, Nat.lt_succ_self n, ρ', Z', e', m', S', h'⟩, ρ1, Z1, e, m1, Sm1, t⟩
/-- a for over fixed items -/
theorem s_for {tg it' : Expr} {body : List Stmt} {tg0 : Tg} {pos : Pos} {fi : Env' → M → Res Src} {fb : Env' → M → SRes} (G : GoodS T fa ca cf k S X) (hc : S.calm = true) (hs : notSet it' = true)
    (hi : PI X tg it' (tI X.K fa ca P1 W fi)) (hg : chkTg S tg0 tg = true) (hb : PSs X body (RS X fa ca W fb)) :
    PS X (.For tg it' body [] pos) (RS X fa ca W fun e m => match fi e m with
    | .ok (.seq xs) m => forL (fun x e m => match assignTg tg0 x e with
      | some e' => fb e' m
      | none => .bad) xs e m
    | .ok (.rf r n) m => forR (fun x e m => match assignTg tg0 x e with
      | some e' => fb e' m
      | none => .bad) r n 0 e m
    | .err x m => .err x e m
    | .bad => .bad) := by
  refine (ps_for G.hp (G.g.calm hc) hi (s_tg G.g hg) hb (notSet_iter hs)).imp fun En σ H h => ?_
  obtain ⟨ρ, Z, e, m, Sm, h⟩ := h
  refine ⟨trivial, ρ, Z, e, m, Sm, ?_⟩
  dsimp only at h
  cases q : fi e m with
  | bad => rw [q] at h; exact h
  | err c m1 => rw [q] at h; exact fun ρ1 Z1 H1 s I => h ρ1 Z1 H1 σ s (Sm.step s I)
  | ok sr m1 =>
    rw [q] at h
    cases sr with
    | seq xs =>
      intro ρ1 Z1 H1 J s I g
      have Sm1 := Sm.step s I
      have h := PSR.step Sm.mok.hot s h
      refine ⟨fun i n σi Hi => n = xs.length - i ∧ i ≤ xs.length ∧ ∃ ρi Zi ei mi, Step ρ1 Z1 H1 ρi Zi Hi ∧ Sim X.K fa ρi Zi Hi σi ei mi ∧ PSR X.K fa ca W ρi Zi Hi (forL (fun x e m => match assignTg tg0 x e with
        | some e' => fb e' m
        | none => .bad) (xs.drop i) ei mi) En, ⟨xs.length, rfl, Nat.zero_le _, ρ1, Z1, e, m1, Step.refl, Sm1, h⟩, ?_⟩
      intro i n σi Hi ⟨hn, hle, ρi, Zi, ei, mi, si, Si, hi⟩
      have gi := g ρi Zi Hi si Si.mok.hot
      by_cases hl : i < xs.length
      · refine .inr ?_
        have hx : xs[i]? = some xs[i] := List.getElem?_eq_getElem hl
        obtain ⟨g1, g2⟩ := gi.1 i xs[i] hx
        rw [List.drop_eq_getElem_cons hl] at hi
        unfold forL at hi
        refine ⟨g1, fun σ' H' => ∃ ρ' Z' e' m', Step ρi Zi Hi ρ' Z' H' ∧ Sim X.K fa ρ' Z' H' σ' e' m' ∧ PSR X.K fa ca W ρ' Z' H' (forL (fun x e m => match assignTg tg0 x e with
            | some e' => fb e' m
            | none => .bad) (xs.drop (i + 1)) e' m') En, fun σ' H' hN => ?_, fun v H' y => ?_⟩
        · obtain ⟨ρ', Z', e', m', s', S', h'⟩ := hN
          exact ⟨xs.length - (i + 1), by omega, rfl, by omega, ρ', Z', e', m', si.trans I.hot s', S', h'⟩
        · obtain ⟨sy, ky, ry⟩ := g2 v H' y
          have Sy := Si.step sy (ky mi Si.mok)
          have hi := PSR.step Si.mok.hot sy hi
          cases qa : assignTg tg0 xs[i] ei with
          | none => rw [qa] at hi; exact (show False from hi).elim
          | some e' =>
            rw [qa] at hi
            refine ⟨ρi, Zi, ei, mi, xs[i], e', Sy, ry, qa, fun σ2 S2 _ _ => ?_⟩
            have t := turnP (L := forL (fun x e m => match assignTg tg0 x e with
              | some e' => fb e' m
              | none => .bad) (xs.drop (i + 1))) hi Sy.mok.hot
            refine ⟨ρi, Zi, e', mi, S2, ?_⟩
            refine psr_nx t (fun σ' H' hN => ?_)
            obtain ⟨ρ', Z', e2, m2, s2, S2', h2⟩ := hN
            exact ⟨ρ', Z', e2, m2, sy.trans Si.mok.hot s2, S2', h2⟩
      · have e1 : i = xs.length := by omega
        subst e1
        rw [List.drop_length] at hi
        exact .inl ⟨gi.2, hi ρi Zi Hi σi Step.refl Si⟩
    | rf r n =>
      intro ρ1 Z1 H1 p s I hp
      have Sm1 := Sm.step s I
      have h := PSR.step Sm.mok.hot s h
      refine ⟨fun i n σi Hi => ∃ ρi Zi ei mi, ρi[r]? = some p ∧ Sim X.K fa ρi Zi Hi σi ei mi ∧ PSR X.K fa ca W ρi Zi Hi (forR (fun x e m => match assignTg tg0 x e with
        | some e' => fb e' m
        | none => .bad) r n i ei mi) En, ⟨n, ρ1, Z1, e, m1, hp, Sm1, h⟩, ?_⟩
      intro i n σi Hi ⟨ρi, Zi, ei, mi, hpi, Si, hi⟩
      cases n with
      | zero =>
        unfold forR at hi
        split at hi
        · rename_i xs hx
          split at hi
          · rename_i hle
            obtain ⟨p', vs, hp', _, hv, t⟩ := Si.mok.get hx
            rw [hpi] at hp'
            cases hp'
            exact .inl ⟨⟨vs, SqL.of hv, by rw [← t.length]; exact hle⟩, hi ρi Zi Hi σi Step.refl Si⟩
          · exact (show False from hi).elim
        · exact (show False from hi).elim
      | succ n =>
        unfold forR at hi
        split at hi
        · rename_i xs hx
          obtain ⟨p', vs, hp', _, hv, t⟩ := Si.mok.get hx
          rw [hpi] at hp'
          cases hp'
          split at hi
          · rename_i hxn
            refine .inl ⟨⟨vs, SqL.of hv, ?_⟩, hi ρi Zi Hi σi Step.refl Si⟩
            rw [← t.length]
            exact List.getElem?_eq_none_iff.mp hxn
          · rename_i x hxs
            obtain ⟨v, hvv, rv⟩ := t.get hxs
            refine .inr ⟨⟨vs, v, SqL.of hv, hvv⟩, fun σ' H' => ∃ ρ' Z' e' m', Step ρi Zi Hi ρ' Z' H' ∧ Sim X.K fa ρ' Z' H' σ' e' m' ∧ PSR X.K fa ca W ρ' Z' H' (forR (fun x e m => match assignTg tg0 x e with
                | some e' => fb e' m
                | none => .bad) r n (i + 1) e' m') En, fun σ' H' hN => ?_, fun w H' y => ?_⟩
            · obtain ⟨ρ', Z', e', m', s', S', h'⟩ := hN
              exact ⟨n, Nat.lt_succ_self n, ρ', Z', e', m', s'.ix hpi, S', h'⟩
            · obtain ⟨rfl, y⟩ := y
              have ey := y vs (SqL.of hv)
              rw [hvv] at ey
              cases ey
              cases qa : assignTg tg0 x ei with
              | none => rw [qa] at hi; exact (show False from hi).elim
              | some e' =>
                rw [qa] at hi
                refine ⟨ρi, Zi, ei, mi, x, e', Si, rv, qa, fun σ2 S2 _ _ => ?_⟩
                exact ⟨ρi, Zi, e', mi, S2, turnP (L := forR (fun x e m => match assignTg tg0 x e with
                  | some e' => fb e' m
                  | none => .bad) r n (i + 1)) hi Si.mok.hot⟩
        · exact (show False from hi).elim
end
end Dx
/-! Dx, part 17: several except clauses, each may name what it caught. -/
namespace Dx
open PySem PySem.Spec PyProof.Rows L2
abbrev Hdl := Value × Option Nat × (Addr → Value → Option Addr → TS)
/-- a suite's ends: its name goes -/
def endsX (En : Ends) : Option Nat → Ends
  | none => En
  | some i => { nx := fun σ H => En.nx (σ.set i none) H, rt := En.rt, bk := fun σ H => En.bk (σ.set i none) H, ct := fun σ H => En.ct (σ.set i none) H }
def slotX (σ : L2.St) (a : Addr) : Option Nat → L2.St
  | none => σ
  | some i => σ.set i (some (.ref a))
def wX (K : PySem.W.Frag) (Wo : WX) (En : Ends) : List Hdl → WX
  | [] => Wo
  | (c, i, ts) :: r => fun cls d σ H => ∃ b, PySem.W.exmOne K cls c = some b ∧ (b = true → ∀ a, H a = none → ts a cls d (endsX En i) (slotX σ a i) H) ∧ (b = false → wX K Wo En r cls d σ H)
/-- the clauses, each with its reading -/
inductive HdX (X : Cx) : List ExceptHandler → List Hdl → Prop
  | nil : HdX X [] []
  | cons {x : Str} {c : Value} {i : Option Nat} {nm : Option Str} {ts : Addr → Value → Option Addr → TS} {b : Stmt} {bs : List Stmt} {np hp : Pos} {l : List ExceptHandler} {r : List Hdl} (hc : Names X x c)
      (hn : match i, nm with
        | none, none => True
        | some i, some n => X.N[i]? = some n ∧ X.env.kindOf n = some .local
        | _, _ => False)
      (hs : ∀ (a : Addr) (oe : Obj) (cls : Value) (d : Option Addr) (pn : List (Addr × Obj)), Zc cls d oe → (∃ vs, oe.data = .fields vs) → PSs (X.suite a ((a, oe) :: pn)) (b :: bs) (ts a cls d)) (hr : HdX X l r) :
      HdX X (.ExceptHandler (some (.Name x np)) nm (b :: bs) hp :: l) ((c, i, ts) :: r)
section
variable {X : Cx} {body : List Stmt} {hd : ExceptHandler} {hds : List ExceptHandler} {l : List Hdl} {pos : Pos} {tb : WX → TS} {Wo : WX}
theorem ps_tryX (hst : X.stack = X.env :: X.outer) (hfr : X.env.frame = some X.env.locals) (hN : X.N.Nodup) (tk : Takes X Wo)
    (hb : ∀ (W : WX) (pn : List (Addr × Obj)) (xe : Value → Shared → Prop), Takes (X.tr pn xe) W → PassesOwn (model X.prog X.w) X.A X.env xe → PSs (X.tr pn xe) body (tb W))
    (hh : HdX X (hd :: hds) l) : PS X (.Try body (hd :: hds) [] [] pos) (fun En σ H => tb (wX X.K Wo En l) En σ H) := by
  refine ⟨fun pins s0 σ0 H0 En I0 q0 => ?_⟩
  have xok := I0.ok
  have hA : X.A.frames = some (X.env :: X.outer) := by rw [xok.frames, hst]
  refine wpAny_Try_except ?_
  let next : Value → Shared → Prop := fun e s₁ => wpAny (model X.prog X.w) X.A (noteFrame e X.env) (fun _ s₂ => wpAny (model X.prog X.w) X.A (setFlight e none)
    (fun _ s₃ => wpAny (model X.prog X.w) X.A (handleBy e X.env (hd :: hds)) (SP X pins En) X.xe s₃) X.xe s₂) X.xe s₁
  refine wpAny_mono ((hb (wX X.K Wo En l) (X.pn ++ pins) next (fun u sE xx => ?_) PassesOwn.looking).run [] s0 σ0 H0 En (I0.toTry _) q0) (fun f s1 done => ?_) (fun e s1 he => he)
  · obtain ⟨ea, B, sI, pins', σ1, H1, cls, d, rfl, JT, nb, up, sky, na, os, ag, want⟩ := xx
    have J1 : Inv X pins σ1 H1 sI := JT.ofTry xok
    have sky1 : Sky B (X.env :: X.outer) ea (Zc cls d) X.env.locals sE.heap := by rw [← hst]; exact sky
    show wpAny (model X.prog X.w) X.A (noteFrame (.ref ea) X.env) _ _ _
    refine Sky.land Zc.steady hA hfr sky1 fun hL flL upL => ?_
    have K1 : Inv X pins σ1 H1 { sE with heap := hL } := J1.landed nb flL.1 (up.trans upL) os ag
    obtain ⟨oe, evs, gE, zE, dE⟩ := flL.there
    -- the exception is no frame
    have apart : ea ∉ frs (X.env :: X.outer) := fun hm => by
      obtain ⟨_, o', e', hnf⟩ := flL.2.2.1.mem hm
      rw [gE] at e'
      cases e'
      exact hnf _ dE
    have ne1 : ea ≠ X.env.locals := fun z => apart (List.mem_filterMap.mpr ⟨X.env, List.mem_cons_self, by rw [hfr, z]⟩)
    have ne2 : ea ∉ X.fs := fun hm => by
      obtain ⟨e, he, q⟩ := List.mem_filterMap.mp hm
      exact apart (List.mem_filterMap.mpr ⟨e, List.mem_cons_of_mem _ he, q⟩)
    have KS := K1.suite gE dE na ne1 ne2
    have go : ∀ {hs' : List ExceptHandler} {r : List Hdl}, HdX X hs' r → wX X.K Wo En r cls d σ1 H1 → wpAny (model X.prog X.w) X.A (handleBy (.ref ea) X.env hs') (SP X pins En) X.xe { sE with heap := hL } := by
      intro hs' r hk
      induction hk with
      | nil =>
        intro w
        refine wpAny_handleBy_nil ?_
        obtain ⟨_, _, _, o2, vs2, T2, oT2, ts2, g2, z2, d2, h2, _⟩ := id flL
        unfold PySem.passOn
        refine wpAny_bind (wpAny_field g2 d2 h2 ?_)
        rw [if_neg (show ¬ ((Value.ref T2 == Value.none) = true) from by simp)]
        have last : wpAny (model X.prog X.w) X.A (setFlight (.ref ea) X.env.frame) (fun _ s4 => wpAny (model X.prog X.w) X.A (throw (.ref ea) : Sem Flow) (SP X pins En) X.xe s4) X.xe { sE with heap := hL } := by
          rw [hfr]
          exact HandSPX.setFlight_upZ flL fun hM hhM upM => wpAny_throw (tk _ _ ⟨ea, B, sI, pins, σ1, H1, cls, d, rfl, J1, nb, (up.trans upL).trans upM, .inr (.inr (by rw [hst]; exact hhM)), na, os, ag, w⟩)
        first
          | exact wpAny_bind (wpAny_pure (wpAny_bind last))
          | exact wpAny_bind last
      | @cons x c i nm ts b bs np hp hs2 r2 hc hn hsu hr ih =>
        intro w
        obtain ⟨k, hk1, hyes, hno⟩ := w
        refine wpAny_handleBy_cons (codeAny_handlers_test ?_) (by intro q; cases q)
        have LT : PySem.W.Looks (model X.prog X.w) hL (typeOf (.ref ea)) cls := fun A Q E s kk q => wpAny_typeOf_ref (kk _ _ gE) (by rw [zE.1]; exact q)
        have LM := PySem.W.exm_one (M := model X.prog X.w) K1.kIn LT hk1
        have named : ∀ {Q : Value → Shared → Prop} {E : Value → Shared → Prop}, Q c { sE with heap := hL } → wpAny (model X.prog X.w) (X.A.mark (some (.ref ea))) (eval (.Name x np) X.env) Q E { sE with heap := hL } := fun {Q E} q => by
          obtain ⟨hg, hdb, hm | ⟨hm, hv, hnn⟩⟩ := hc
          · exact ld_glob (X := X.suite ea ((ea, oe) :: (X.pn ++ pins))) KS hg hm q hdb
          · exact ld_blt (X := X.suite ea ((ea, oe) :: (X.pn ++ pins))) KS hg hm hv q hnn hdb
        refine named (LM.here ?_)
        cases k with
        | false =>
          show wpAny _ X.A (handleBy (.ref ea) X.env hs2) _ _ _
          exact ih (hno rfl)
        | true =>
          cases i with
          | none => cases nm with
            | some _ => exact hn.elim
            | none =>
              refine codeAny_handlers_suite (HandSPX.lands_againZ flL fun hM flM upM => ?_)
              have K2 : Inv X pins σ1 H1 { sE with heap := hM } := J1.landed nb flM.1 ((up.trans upL).trans upM) os ag
              obtain ⟨o4, vs4, g4, z4, d4⟩ := flM.there
              refine wpAny_mono ((hsu ea o4 cls d (X.pn ++ pins) z4 ⟨_, d4⟩).run [] _ _ H1 _ (K2.suite g4 d4 na ne1 ne2) (hyes rfl ea na)) (fun f s6 hsp => ?_) (fun _ _ z => False.elim z)
              cases f with
              | ret u => obtain ⟨v6, σ6, H6, S6, r6, q6⟩ := hsp; exact ⟨_, _, _, S6.unsuite xok, r6, q6⟩
              | next => obtain ⟨σ6, H6, S6, q6⟩ := hsp; exact ⟨_, _, S6.unsuite xok, q6⟩
              | brk => obtain ⟨σ6, H6, S6, q6⟩ := hsp; exact ⟨_, _, S6.unsuite xok, q6⟩
              | cont => obtain ⟨σ6, H6, S6, q6⟩ := hsp; exact ⟨_, _, S6.unsuite xok, q6⟩
          | some i => cases nm with
            | none => exact hn.elim
            | some n =>
              obtain ⟨hi, hl⟩ := hn
              refine codeAny_handlers_suite_as (HandSPX.lands_againZ flL fun hM flM upM => ?_)
              have K2 : Inv X pins σ1 H1 { sE with heap := hM } := J1.landed nb flM.1 ((up.trans upL).trans upM) os ag
              obtain ⟨o4, vs4, g4, z4, d4⟩ := flM.there
              refine store_ok (X := X.suite ea ((ea, o4) :: (X.pn ++ pins))) (v := .ref ea) (K2.suite g4 d4 na ne1 ne2) hN hi (.inl hl) rfl (fun s5 S5 => ?_) (.inr hl)
              refine wpAny_mono ((hsu ea o4 cls d (X.pn ++ pins) z4 ⟨_, d4⟩).run [] s5 _ H1 _ S5 (hyes rfl ea na)) (fun f s6 hsp => ?_) (fun _ _ z => False.elim z)
              have gone : ∀ {σ6 : L2.St} {H6 : Hp} {Q : Shared → Prop}, Inv (X.suite ea ((ea, o4) :: (X.pn ++ pins))) [] σ6 H6 s6 → (∀ s7, Inv X pins (σ6.set i none) H6 s7 → Q s7) →
                  wpAny (model X.prog X.w) X.A (do bindName X.env n .none; unbindBehindTheSuite X.env n hp) (fun _ s7 => Q s7) X.xe s6 := fun S6 hq => gone_ok (S6.unsuite xok) hN hi hl hq
              cases f with
              | ret u => obtain ⟨v6, σ6, H6, S6, r6, q6⟩ := hsp; exact gone S6 fun s7 J7 => ⟨_, _, _, J7, r6, q6⟩
              | next => obtain ⟨σ6, H6, S6, q6⟩ := hsp; exact gone S6 fun s7 J7 => ⟨_, _, J7, q6⟩
              | brk => obtain ⟨σ6, H6, S6, q6⟩ := hsp; exact gone S6 fun s7 J7 => ⟨_, _, J7, q6⟩
              | cont => obtain ⟨σ6, H6, S6, q6⟩ := hsp; exact gone S6 fun s7 J7 => ⟨_, _, J7, q6⟩
    exact go hh want
  · cases f with
    | ret u => obtain ⟨v, σ', H', J', r, q⟩ := done; exact ⟨v, σ', H', J'.ofTry xok, r, q⟩
    | next => obtain ⟨σ', H', J', q⟩ := done; exact wpAny_execs_nil ⟨σ', H', J'.ofTry xok, q⟩
    | brk => obtain ⟨σ', H', J', q⟩ := done; exact ⟨σ', H', J'.ofTry xok, q⟩
    | cont => obtain ⟨σ', H', J', q⟩ := done; exact ⟨σ', H', J'.ofTry xok, q⟩
end
end Dx
/-! Dx, part 18: raise and try by data. -/
namespace Dx
open PySem PySem.Spec PyProof.Rows L2
section
variable {T : Tab} {fa ca : Nat → Addr} {cf : Cfg} {k : Nat} {S : SC} {X : Cx} {W : WX}
theorem raises_cls {X : Cx} {x : Str} {C : Addr} (c : ClsOk X.K X.mg x C) : Raises X (.ref C) := raises_own c.sb c.ty
/-- x() -/
theorem pmk0 {x : Str} {C : Addr} {p pos : Pos} (c : ClsOk X.K X.mg x C) (hg : Gl X x) : PMk X (.Call (.Name x p) [] [] pos) (fun _ H Q => Q (.ref C) none H) := by
  intro pins s σ H Q I h
  refine wpAny_Call_Name_kw (ld_glob I hg c.g ?_ c.db)
  refine PySem.W.callWith_K0 I.kIn c.kp ?_
  show wpAny _ _ (call (.ref C) []) _ _ _
  obtain ⟨bm, N, nm, qn, bs, hdct, sn, sub, ab, col, dd, k0, k1, k2, k3, k5, mN, hC, hN, hni, T'⟩ := exc_obj I.kIn c.ex
  obtain ⟨hp1, g1, d1, tk1, os1⟩ := s
  refine wpAny_call_exc_subT PySem.F.excBase_ValueError T' hC hN hni (fun h' e hm => ?_) (Nat.zero_le _)
  exact mk_of I hm (raises_cls c) h (I.hok.gone hm.new)
theorem s_raise {x : Str} {i : Nat} {p pos pos2 : Pos} (G : GoodS T fa ca cf k S X) (tk : Takes X W) (hc : S.calm = true) (hi : T.cls[i]? = some x) (hg : gloB S x = true) :
    PS X (.Raise (some (.Call (.Name x p) [] [] pos)) none pos2) (RS X fa ca W fun e m => .err i e m) := by
  refine (ps_raise (G.g.calm hc) tk (pmk0 (G.g.f.cls i x hi) (glo_of G.g hg).1)).imp fun En σ H h => ?_
  obtain ⟨ρ, Z, e, m, Sm, h⟩ := h
  exact h ρ Z H σ Step.refl Sm
/-! ### try -/
def PXs (a : Addr) : Option Nat → L2.St → Prop
  | none, _ => True
  | some i, σ => σ[i]? = some (some (.ref a))
def evAct (c : Cfg) : HAct → Env' → M → SRes
  | .asg j a, e, m => (match evE c a e m with
    | .ok d m => .nx (e.set j (some d)) m
    | _ => .bad)
  | .ret a, e, m => (match evE c a e m with
    | .ok d m => .ret d m
    | _ => .bad)
def tAct (K : PySem.W.Frag) (fa ca : Nat → Addr) (cf : Cfg) (y : Nat) (i : Option Nat) (act : HAct) : Addr → Value → Option Addr → TS := fun a cls d En σ H =>
  cls = .ref (ca y) ∧ d = none ∧ (∃ σ0, σ = slotX σ0 a i) ∧ ∃ ρ Z e m, Sim K fa ρ Z H σ e m ∧ PSR K fa ca W0 ρ Z H (evAct cf act e m) En
theorem evH_eq {c : Cfg} {y : Nat} {i : Option Nat} {act : HAct} {hs : CHs} {x : Nat} {e : Env'} {m : M} : evH c (.cons y i act hs) x e m = if x = y then evAct c act (dropN e i) m else evH c hs x e m := by
  cases act <;> rfl
/-- an expression within the suite -/
theorem inSuite {f : Env' → M → Res D} {kk : Env' → D → M → SRes} {P : L2.St → Prop} {En : Ends} {σ : L2.St} {H : Hp} {ρ : List Addr} {Z : Addr → Prop} {e : Env'} {m : M} (hp : P σ) (Sm : Sim X.K fa ρ Z H σ e m) (h : PSR X.K fa ca W0 ρ Z H (match f e m with
    | .ok d m => kk e d m
    | _ => .bad) En) (Q : VK) (hk : ∀ ρ1 Z1 d m1 v H1, Sim X.K fa ρ1 Z1 H1 σ e m1 → RelD X.K fa ρ1 Z1 H1 d v → PSR X.K fa ca W0 ρ1 Z1 H1 (kk e d m1) En → Q v H1) : RE X fa ca P W0 f σ H Q := by
  refine ⟨hp, ρ, Z, e, m, Sm, ?_⟩
  cases q : f e m with
  | ok d m1 =>
    rw [q] at h
    exact fun ρ1 Z1 H1 v s I r => hk ρ1 Z1 d m1 v H1 (Sm.step s I) r (PSR.step Sm.mok.hot s h)
  | err c m1 => rw [q] at h; exact h.elim
  | bad => rw [q] at h; exact h.elim
theorem act_asg {j : Nat} {e : CE} {body : List Stmt} (h : chkAct T S (.asg j e) body = true) : ∃ n np v pos, body = [.Assign [.Name n np] v pos] ∧ S.exc ≠ some j ∧ notComp v = true ∧ locB S j n = true ∧ chkE T S e v = true := by
  simp only [chkAct] at h
  split at h
  · rename_i n np v vp
    simp only [Bool.and_eq_true, bne_iff_ne, ne_eq] at h
    exact ⟨_, _, _, _, rfl, h.1.1.1, h.1.1.2, h.1.2, h.2⟩
  · cases h
theorem act_ret {e : CE} {body : List Stmt} (h : chkAct T S (.ret e) body = true) : ∃ v pos, body = [.Return (some v) pos] ∧ chkE T S e v = true := by
  simp only [chkAct] at h
  split at h
  · exact ⟨_, _, rfl, h⟩
  · cases h
theorem s_act {y : Nat} {i : Option Nat} {act : HAct} {a : Addr} {oe : Obj} {cls : Value} {d : Option Addr} {pn : List (Addr × Obj)} {body : List Stmt} {x : Str} (G : GoodS T fa ca cf k S X) (hy : T.cls[y]? = some x) (hz : Zc cls d oe) (hf : ∃ vs, oe.data = .fields vs)
    (hin : ∀ i', i = some i' → ∃ n, S.N[i']? = some n) (h : chkAct T { S with calm := false, exc := i } act body = true) : PSs (X.suite a ((a, oe) :: pn)) body (tAct X.K fa ca cf y i act a cls d) := by
  refine ⟨fun pins s σ H En I q => ?_⟩
  obtain ⟨rfl, rfl, ⟨σ0, eσ⟩, q⟩ := q
  have hp : PXs a i σ := by
    cases i with
    | none => trivial
    | some i =>
      obtain ⟨n, hn⟩ := hin i rfl
      have l := I.len
      have e1 : (X.suite a ((a, oe) :: pn)).N = S.N := G.g.N
      rw [e1, eσ] at l
      have l2 := (List.getElem?_eq_some_iff.mp hn).1
      show σ[i]? = _
      rw [eσ]
      refine List.getElem?_set_self ?_
      have e2 : (slotX σ0 a (some i)).length = σ0.length := List.length_set
      omega
  have G2 : Good T fa ca cf k { S with calm := false, exc := i } (PXs a i) (X.suite a ((a, oe) :: pn)) := by
    refine ⟨G.g.N, G.g.sc, G.g.nd, G.g.fnb, fun z => absurd z Bool.false_ne_true, fun z => absurd z Bool.false_ne_true, fun j hj => ?_, G.g.f⟩
    cases (show i = some j from hj)
    exact ⟨a, ca y, fun σ h => h, call_isE (G.g.f.cls y x hy).ec hz hf, (G.g.f.cls y x hy).ve⟩
  have tk0 : Takes (X.suite a ((a, oe) :: pn)) W0 := takes_none5
  cases act with
  | asg j e =>
    obtain ⟨n, np, v, pos, rfl, h1, h2, h3, h4⟩ := act_asg h
    have pv := sE e G2 tk0 h4
    obtain ⟨l1, l2, l3⟩ := loc_of G2 h3
    refine (pss_cons (ps_set (X := X.suite a ((a, oe) :: pn)) (by rw [show (X.suite a ((a, oe) :: pn)).N = S.N from G.g.N]; exact G.g.nd) l1 l2 pv (swapsWith_no h2) l3) pss_nil).run pins s σ H En I ?_
    obtain ⟨ρ, Z, e0, m, Sm, q⟩ := q
    refine inSuite (kk := fun e d m => .nx (e.set j (some d)) m) hp Sm q _ fun ρ1 Z1 d m1 v H1 Sm1 r q1 => ?_
    exact q1 ρ1 Z1 H1 _ Step.refl (Sm1.set r)
  | ret e =>
    obtain ⟨v, pos, rfl, h4⟩ := act_ret h
    refine (pss_cons (ps_ret (X := X.suite a ((a, oe) :: pn)) (sE e G2 tk0 h4)) pss_nil).run pins s σ H En I ?_
    obtain ⟨ρ, Z, e0, m, Sm, q⟩ := q
    refine inSuite (kk := fun e d m => .ret d m) hp Sm q _ fun ρ1 Z1 d m1 v H1 Sm1 r q1 => ?_
    exact q1 ρ1 Z1 H1 v Step.refl Sm1.mok r
/-- the clauses' reading -/
def hdlOf (K : PySem.W.Frag) (fa ca : Nat → Addr) (cf : Cfg) : CHs → List Hdl
  | .nil => []
  | .cons y i act hs => (.ref (ca y), i, tAct K fa ca cf y i act) :: hdlOf K fa ca cf hs
theorem s_hdls (G : GoodS T fa ca cf k S X) : ∀ (hs : CHs) {l : List ExceptHandler}, chkH T S hs l = true → HdX X l (hdlOf X.K fa ca cf hs)
  | .nil, l, h => by
    unfold chkH at h
    split at h
    · exact .nil
    · cases h
  | .cons y i act hs, l, h => by
    unfold chkH at h
    split at h
    · rename_i x np nm body hp l2
      simp only [Bool.and_eq_true] at h
      obtain ⟨⟨⟨⟨h1, h2⟩, h3⟩, h4⟩, h5⟩ := h
      have h1 := of_decide_eq_true h1
      obtain ⟨g1, g2⟩ := glo_of G.g h2
      cases body with
      | nil => cases act <;> cases h4
      | cons b bs =>
        refine .cons ⟨g1, g2, .inl (G.g.f.cls y x h1).g⟩ ?_ (fun a oe cls d pn hz hf => s_act G h1 hz hf (fun i' hi => ?_) h4) (s_hdls G hs h5)
        rotate_left
        · subst hi
          cases nm with
          | none => cases h3
          | some n => rw [Bool.and_eq_true] at h3; exact ⟨n, of_decide_eq_true h3.1⟩
        split at h3
        · trivial
        · rename_i i n
          rw [Bool.and_eq_true] at h3
          refine ⟨by rw [G.g.N]; exact of_decide_eq_true h3.1, ?_⟩
          show X.env.scope.names.lookup n = _
          rw [G.g.sc]
          exact of_decide_eq_true (by simpa using h3.2)
        · cases h3
    · cases h
theorem unname {K : PySem.W.Frag} {ρ : List Addr} {Z : Addr → Prop} {H : Hp} {σ : L2.St} {e : Env'} {m : M} (S : Sim K fa ρ Z H σ e m) {i : Nat} {o : Option V} (h : getV e i = none) : Sim K fa ρ Z H (σ.set i o) e m := by
  refine ⟨S.mok, fun j d hj => ?_, by rw [List.length_set]; exact S.len⟩
  have ne : i ≠ j := fun z => by rw [← z, h] at hj; cases hj
  obtain ⟨v, h1, h2⟩ := S.env j d hj
  exact ⟨v, by rw [List.getElem?_set_ne ne]; exact h1, h2⟩
theorem getV_drop {e : Env'} {i j : Nat} {d : D} (h : i ≠ j) : getV ((e.set i none).set j (some d)) i = none := by
  cases q : getV ((e.set i none).set j (some d)) i with
  | none => rfl
  | some d' =>
    rcases getV_set q with ⟨z, _⟩ | ⟨_, q⟩
    · exact absurd z.symm h
    · exact absurd rfl (getV_none q).1
theorem act_ends {K : PySem.W.Frag} {ρ : List Addr} {Z : Addr → Prop} {H : Hp} {En : Ends} {i : Option Nat} {act : HAct} {body : List Stmt} {e : Env'} {m : M} (hc : chkAct T { S with calm := false, exc := i } act body = true) (h : PSR K fa ca W ρ Z H (evAct cf act (dropN e i) m) En) :
    PSR K fa ca W0 ρ Z H (evAct cf act (dropN e i) m) (endsX En i) := by
  cases act with
  | ret a =>
    simp only [evAct] at h ⊢
    cases q : evE cf a (dropN e i) m with
    | ok d m1 =>
      rw [q] at h
      cases i <;> exact h
    | err c m1 => rw [q] at h; exact h.elim
    | bad => rw [q] at h; exact h.elim
  | asg j a =>
    obtain ⟨n, np, v, pos, rfl, h1, _⟩ := act_asg hc
    simp only [evAct] at h ⊢
    cases q : evE cf a (dropN e i) m with
    | err c m1 => rw [q] at h; exact h.elim
    | bad => rw [q] at h; exact h.elim
    | ok d m1 =>
      rw [q] at h
      cases i with
      | none => exact h
      | some i => exact fun ρ' Z' H' σ' s S' => h ρ' Z' H' _ s (unname S' (getV_drop fun z => h1 (by rw [z])))
/-- what the clauses wish, by data -/
theorem wX_of {K : PySem.W.Frag} {ρ : List Addr} {Z : Addr → Prop} {H : Hp} {En : Ends} {x : Nat} {xn : Str} {σ : L2.St} {e : Env'} {m : M} (hK : K = X.K) (G : GoodS T fa ca cf k S X) (hx : T.cls[x]? = some xn) (Sm : Sim K fa ρ Z H σ e m) :
    ∀ (hs : CHs) {l : List ExceptHandler}, chkH T S hs l = true → PSR K fa ca W ρ Z H (evH cf hs x e m) En → wX K W En (hdlOf K fa ca cf hs) (.ref (ca x)) none σ H
  | .nil, l, _, h => h ρ Z H σ Step.refl Sm
  | .cons y i act hs, l, hl, h => by
    rw [evH_eq] at h
    unfold chkH at hl
    split at hl
    · rename_i xs np nm body hp l2
      simp only [Bool.and_eq_true] at hl
      obtain ⟨⟨⟨⟨h1, h2⟩, h3⟩, h4⟩, h5⟩ := hl
      refine ⟨decide (x = y), by rw [hK]; exact G.g.f.exm x y xn xs hx (of_decide_eq_true h1), fun hb a ha => ?_, fun hb => ?_⟩
      · have exy := of_decide_eq_true hb
        rw [if_pos exy] at h
        refine ⟨by rw [exy], rfl, ⟨σ, rfl⟩, ρ, Z, dropN e i, m, ?_, ?_⟩
        · cases i with
          | none => exact Sm
          | some i => exact Sm.drop _
        · exact act_ends h4 h
      · rw [if_neg (of_decide_eq_false hb)] at h
        exact wX_of hK G hx Sm hs (l := l2) h5 h
    · cases hl
end
end Dx
/-! Dx, part 19: every statement runs as the evaluator says. -/
namespace Dx
open PySem PySem.Spec PyProof.Rows L2
section
variable {T : Tab} {fa ca : Nat → Addr} {cf : Cfg} {k : Nat} {S : SC} {X : Cx} {W : WX}
/-- name = [..]: stored within the comprehension's frame -/
theorem s_setC {y : Str} {py pos spos : Pos} {i : Nat} {l : CL} {elt : Expr} {gs : List Comprehension} {scope : Scope} {f : Env' → M → Res D} (G : GoodS T fa ca cf k S X) (tk : Takes X W) (hl : locB S i y = true) (hw : swC S y py pos scope = true)
    (hc : chkL T S l (.ListComp elt gs scope pos) = true) (hcm : (match l with
      | .comp _ _ _ _ _ => true
      | _ => false) = true) (hr : ∀ {σ : L2.St} {H : Hp} {Q : VK}, RE X fa ca P1 W f σ H Q → RF X fa ca P1 W (evL cf l) σ H Q) :
    PS X (.Assign [.Name y py] (.ListComp elt gs scope pos) spos) (RS X fa ca W fun e m => (f e m).toS e fun d m => match assignTg (.name i) d e with
      | some e' => .nx e' m
      | none => .bad) := by
  cases l <;> first | cases hcm | skip
  rename_i ce tg it cond own
  unfold chkL at hc
  split at hc
  · rename_i y0 g scope0 pos0 e0
    injection e0 with e1 e2 e3 e4
    subst e1 e2 e3 e4
    obtain ⟨tg', it', ifs, ia⟩ := g
    simp only [Bool.and_eq_true] at hc
    obtain ⟨⟨⟨⟨⟨⟨⟨⟨h1, h2⟩, h3⟩, h4⟩, h5⟩, h6⟩, h7⟩, h8⟩, h9⟩ := hc
    have e : ia = 0 := of_decide_eq_true h2
    subst e
    have hm : (own.map fun i => (S.N.getD i Str.empty, i)).map (·.2) = own := own_snd own
    have ok : BlkOk X.N X.env.scope scope (own.map fun i => (S.N.getD i Str.empty, i)) := by
      rw [G.g.N, G.g.sc]
      exact blkOk_by h5
    obtain ⟨l1, l2, l3⟩ := loc_of G.g hl
    have hyl : X.env.scope.names.lookup y = some .local := by
      rw [G.g.sc]
      unfold swC at hw
      simp only [Bool.and_eq_true] at hw
      exact by simpa using hw.1.1
    have main := ps_setLc (py := py) (spos := spos) (pos := pos) (elt := elt) (ifs := ifs) (G.g.calm h1) (by rw [G.g.N]; exact G.g.nd) l1 hyl (by rw [sw_comp (S := S) G.g.sc (by rw [G.g.sc]; exact G.kind), hw]) (sI it G.g tk h4) ok
      (g := gD X.K fa tg) (tt := tR X.K fa ca P1 W0 (rEq Bool) (evTo cf cond)) (te := tR X.K fa ca P1 W0 (rD X.K fa) (evE cf ce))
      (fun s H C cl fp => s_tg (G.g.blk scope s H C cl fp) h7) (fun s H C cl fp => sTo cond (G.g.blk scope s H C cl fp) takes0 h8) (fun s H C cl fp => sE ce (G.g.blk scope s H C cl fp) takes0 h9) (notSet_iter h3)
    rw [hm] at main
    refine main.imp fun En σ H h => ?_
    refine comp_read h6 (hr (RS_E (kk := fun e d m => match assignTg (.name i) d e with
      | some e' => .nx e' m
      | none => .bad) h _ fun ρ Z e m d v H1 Sm r q => ?_))
    exact q ρ Z H1 _ Step.refl (Sm.set r)
  · cases hc
theorem s_try {b : List Stmt} {hd : ExceptHandler} {l : List ExceptHandler} {pos : Pos} {fb : Env' → M → SRes} {hs : CHs} (G : GoodS T fa ca cf k S X) (tk : Takes X W) (hh : chkH T S hs (hd :: l) = true)
    (hb : ∀ {X' : Cx} {W' : WX}, X'.K = X.K → GoodS T fa ca cf k S X' → Takes X' W' → PSs X' b (RS X' fa ca W' fb)) :
    PS X (.Try b (hd :: l) [] [] pos) (RS X fa ca W fun e m => match fb e m with
    | .err x e m => if x < cf.nc then evH cf hs x e m else .bad
    | r => r) := by
  have good : ∀ pn xe, PassesOwn (model X.prog X.w) X.A X.env xe → GoodS T fa ca cf k S (X.tr pn xe) := fun pn xe hp => by
    refine ⟨⟨G.g.N, G.g.sc, G.g.nd, G.g.fnb, G.g.calm, G.g.room, fun i hi => ?_, G.g.f⟩, hp, G.hs, G.hf, G.kind, G.ex⟩
    rw [G.ex] at hi
    cases hi
  refine (ps_tryX (Wo := W) (tb := fun W' => RS X fa ca W' fb) G.hs G.hf (by rw [G.g.N]; exact G.g.nd) tk (fun W' pn xe tk' hp => hb rfl (good pn xe hp) tk') (s_hdls G hs hh)).imp fun En σ H h => ?_
  obtain ⟨ρ, Z, e, m, Sm, h⟩ := h
  refine ⟨ρ, Z, e, m, Sm, ?_⟩
  dsimp only at h
  cases q : fb e m with
  | nx e m => rw [q] at h; exact h
  | brk e m => rw [q] at h; exact h
  | cnt e m => rw [q] at h; exact h
  | ret d m => rw [q] at h; exact h
  | bad => rw [q] at h; exact h
  | err x e1 m1 =>
    rw [q] at h
    dsimp only at h
    by_cases hx : x < cf.nc
    · rw [if_pos hx] at h
      rw [G.g.f.domc] at hx
      exact fun ρ' Z' H' σ' s S' => wX_of rfl G (List.getElem?_eq_getElem hx) S' hs hh (PSR.step Sm.mok.hot s h)
    · rw [if_neg hx] at h
      exact h.elim
mutual
theorem sS : ∀ (s : CS) {X : Cx} {W : WX} {st : Stmt}, GoodS T fa ca cf k S X → Takes X W → chkS T S s st = true → PS X st (RS X fa ca W (evS cf s))
  | .expr a, X, W, st, G, tk, h => by
    unfold chkS at h
    split at h
    · rw [Bool.and_eq_true] at h
      exact s_expr h.1 (sE a G.g tk h.2)
    · cases h
  | .ret a, X, W, st, G, tk, h => by
    unfold chkS at h
    split at h
    · exact s_ret (sE a G.g tk h)
    · cases h
  | .retN, X, W, st, G, tk, h => by
    unfold chkS at h
    split at h
    · exact s_retN
    · cases h
  | .asg t a, X, W, st, G, tk, h => by
    unfold chkS at h
    split at h
    · rename_i tg v pos
      simp only [Bool.and_eq_true] at h
      obtain ⟨⟨h1, h2⟩, h3⟩ := h
      split at h3
      · rename_i n np elt gs scope vp
        by_cases hw : swC S n np vp scope = true
        · cases t with
          | tup ts => cases h1
          | name i =>
            have hl : locB S i n = true := h1
            split at h3
            · exact s_setC (l := .comp _ _ _ _ _) G tk hl hw h2 rfl fun {σ H Q} h => lv_read h
            · exact s_setC (l := .comp _ _ _ _ _) G tk hl hw h2 rfl fun {σ H Q} h => lm_read h
            · cases h3
        · rw [Bool.not_eq_true] at hw
          refine s_asg G.g h1 ?_ (sw_nontup (.inr rfl)) rfl (sE a G.g tk h2)
          have e := sw_comp (S := S) (env := X.env) G.g.sc (by rw [G.g.sc]; exact G.kind) (elt := elt) (gs := gs) (scope := scope) (vp := vp) (np := np) (n := n) (l := pos.line)
          rw [hw] at e
          exact e
      · exact s_asg G.g h1 (sw_sole (.inl h3)) (sw_nontup (.inr rfl)) rfl (sE a G.g tk h2)
      · simp only [Bool.and_eq_true] at h3
        exact s_asg G.g h1 (sw_sole (.inr rfl)) (sw_no (S := S) G.g.sc (by rw [G.g.sc]; exact G.kind) h3.2 h3.1.2) rfl (sE a G.g tk h2)
      · simp only [Bool.and_eq_true, Bool.not_eq_true'] at h3
        exact s_asg G.g h1 (sw_sole (.inr rfl)) (sw_nontup (.inl h3.2)) rfl (sE a G.g tk h2)
      · cases h3
    · cases h
  | .par2 i j a b, X, W, st, G, tk, h => by
    unfold chkS at h
    split at h
    · simp only [Bool.and_eq_true] at h
      obtain ⟨⟨⟨⟨⟨⟨⟨⟨⟨⟨h1, h2⟩, h3⟩, h4⟩, h5⟩, h6⟩, h7⟩, h8⟩, h9⟩, h10⟩, h11⟩ := h
      exact s_par2 G h1 (of_decide_eq_true h2) (of_decide_eq_true h3) (of_decide_eq_true h4) (by simpa using h5) (by simpa using h6) h7 h8 h9 (sE a G.g tk h10) (sE b G.g tk h11)
    · cases h
  | .setI o i a, X, W, st, G, tk, h => by
    unfold chkS at h
    split at h
    · simp only [Bool.and_eq_true] at h
      obtain ⟨⟨⟨⟨h1, h2⟩, h3⟩, h4⟩, h5⟩ := h
      exact s_setI h1 (sw_sole (.inl h2)) (sw_nontup (.inr rfl)) (sE a G.g tk h5) (sE o G.g tk h3) (sE i G.g tk h4)
    · cases h
  | .swap o1 i1 o2 i2 a b, X, W, st, G, tk, h => by
    unfold chkS at h
    cases h
  | .app o a, X, W, st, G, tk, h => by
    unfold chkS at h
    split at h
    · simp only [Bool.and_eq_true] at h
      obtain ⟨⟨⟨⟨⟨h1, h2⟩, h3⟩, h4⟩, h5⟩, h6⟩ := h
      have e := of_decide_eq_true h1
      subst e
      exact s_app h2 h3 h4 (sE o G.g tk h5) (sE a G.g tk h6)
    · cases h
  | .ext o a, X, W, st, G, tk, h => by
    unfold chkS at h
    split at h
    · simp only [Bool.and_eq_true] at h
      obtain ⟨⟨⟨⟨⟨h1, h2⟩, h3⟩, h4⟩, h5⟩, h6⟩ := h
      have e := of_decide_eq_true h1
      subst e
      exact s_ext h2 h3 h4 (sE o G.g tk h5) (sE a G.g tk h6)
    · cases h
  | .ife t a b, X, W, st, G, tk, h => by
    unfold chkS at h
    split at h
    · simp only [Bool.and_eq_true] at h
      exact s_ifS (sT t G.g tk h.1.1) (sSs a G tk h.1.2) (sSs b G tk h.2)
    · cases h
  | .for_ tg it body, X, W, st, G, tk, h => by
    unfold chkS at h
    split at h
    · simp only [Bool.and_eq_true] at h
      obtain ⟨⟨⟨⟨h1, h2⟩, h3⟩, h4⟩, h5⟩ := h
      exact s_for G h1 h2 (sI it G.g tk h4) h3 (sSs body G tk h5)
    · cases h
  | .while_ t body, X, W, st, G, tk, h => by
    unfold chkS at h
    split at h
    · rw [Bool.and_eq_true] at h
      exact s_while G.hp (sT t G.g tk h.1) (sSs body G tk h.2)
    · cases h
  | .brk, X, W, st, G, tk, h => by
    unfold chkS at h
    split at h
    · exact s_brk
    · cases h
  | .cnt, X, W, st, G, tk, h => by
    unfold chkS at h
    split at h
    · exact s_cnt
    · cases h
  | .pass, X, W, st, G, tk, h => by
    unfold chkS at h
    split at h
    · exact s_pass
    · cases h
  | .raise c, X, W, st, G, tk, h => by
    unfold chkS at h
    split at h
    · simp only [Bool.and_eq_true] at h
      exact s_raise G tk h.1.1 (of_decide_eq_true h.1.2) h.2
    · cases h
  | .try_ body hs, X, W, st, G, tk, h => by
    unfold chkS at h
    split at h
    · simp only [Bool.and_eq_true] at h
      exact s_try G tk h.2 fun {X' W'} hK G' tk' => sSs body G' tk' h.1
    · cases h
theorem sSs : ∀ (ss : CSs) {X : Cx} {W : WX} {st : List Stmt}, GoodS T fa ca cf k S X → Takes X W → chkSs T S ss st = true → PSs X st (RS X fa ca W (evSs cf ss))
  | .nil, X, W, st, G, tk, h => by
    unfold chkSs at h
    split at h
    · exact pss_nil.imp fun En σ H ⟨ρ, Z, e, m, Sm, q⟩ => q ρ Z H σ Step.refl Sm
    · cases h
  | .cons s ss, X, W, st, G, tk, h => by
    unfold chkSs at h
    split at h
    · rw [Bool.and_eq_true] at h
      refine (pss_cons (sS s G tk h.1) (sSs ss G tk h.2)).imp fun En σ H ⟨ρ, Z, e, m, Sm, q⟩ => ⟨ρ, Z, e, m, Sm, ?_⟩
      unfold evSs at q
      cases q1 : evS cf s e m with
      | nx e1 m1 => rw [q1] at q; exact fun ρ' Z' H' σ' s S' => ⟨ρ', Z', e1, m1, S', PSR.step Sm.mok.hot s q⟩
      | brk e1 m1 => rw [q1] at q; exact q
      | cnt e1 m1 => rw [q1] at q; exact q
      | ret d m1 => rw [q1] at q; exact q
      | err c e1 m1 => rw [q1] at q; exact q
      | bad => rw [q1] at q; exact q
    · cases h
end
end
end Dx
/-! Dx, part 20: a whole text: every def keeps its promise. -/
namespace Dx
open PySem PySem.Spec PyProof.Rows L2
/-! ### a body, run -/
section
variable {K : PySem.W.Frag} {fa ca : Nat → Addr}
theorem start_env {ρ : List Addr} {Z : Addr → Prop} {H : Hp} {m : M} (I : MOk K fa ρ Z H m) : ∀ {ds : List D} {vs : List V} (n : Nat) (_ : RelDs K fa ρ Z H ds vs),
    Sim K fa ρ Z H (vs.map some ++ List.replicate n none) (ds.map some ++ List.replicate n none) m := by
  intro ds vs n r
  refine ⟨I, fun i d h => ?_, by simp [r.length]⟩
  unfold getV at h
  by_cases hi : i < ds.length
  · rw [List.getElem?_append_left (by simpa using hi), List.getElem?_map] at h
    cases q : ds[i]? with
    | none => rw [q] at h; cases h
    | some d' =>
      rw [q] at h
      cases h
      obtain ⟨v, hv, rv⟩ := r.get q
      refine ⟨v, ?_, rv⟩
      rw [List.getElem?_append_left (by rw [List.length_map, ← r.length]; exact hi), List.getElem?_map, hv]; rfl
  · rw [List.getElem?_append_right (by simpa using hi), List.getElem?_replicate] at h
    split at h
    · rename_i z
      split at z
      · cases z
      · cases z
    · cases h
/-- a body's end, by data -/
theorem body_ends {defs : List CDef} {glob : Nat → Option D} {nc k f : Nat} {d : CDef} {ds : List D} {m : M} {ρ : List Addr} {Z : Addr → Prop} {H : Hp} {Q : VK} {E : XK} (I : MOk K fa ρ Z H m) (hd : defs[f]? = some d)
    (h : PR K fa ca (fun cls d _ H' => E cls d H') [] (rD K fa) ρ Z H (callF defs glob nc (k + 1) f ds m) Q) :
    PSR K fa ca (fun cls d _ H' => E cls d H') ρ Z H (evSs ⟨callF defs glob nc k, glob, m.length, defs.length, nc⟩ d.body (ds.map some ++ List.replicate (d.ns - d.np) none) m) { nx := fun _ H' => Q .non H', rt := Q } := by
  unfold callF at h
  rw [hd] at h
  dsimp only at h
  split at h
  · have L : LowS m.length m (evSs ⟨callF defs glob nc k, glob, m.length, defs.length, nc⟩ d.body (ds.map some ++ List.replicate (d.ns - d.np) none) m) :=
      low_Ss (c := ⟨callF defs glob nc k, glob, m.length, defs.length, nc⟩) ⟨fun f ds m => low_call defs glob nc k f ds m⟩ d.body _ m (Nat.le_refl _)
    revert L h
    generalize evSs ⟨callF defs glob nc k, glob, m.length, defs.length, nc⟩ d.body (ds.map some ++ List.replicate (d.ns - d.np) none) m = r
    intro h L
    have fin : ∀ (dd : D) (m' : M), LowR m.length m m' → PR K fa ca (fun cls d _ H' => E cls d H') [] (rD K fa) ρ Z H (finish d.rm m.length dd m') Q → ∀ ρ' Z' H' v, Step ρ Z H ρ' Z' H' → MOk K fa ρ' Z' H' m' → RelD K fa ρ' Z' H' dd v → Q v H' := by
      intro dd m' Lr h ρ' Z' H' v s I' rr
      cases q : finish d.rm m.length dd m' with
      | ok e m2 =>
        rw [q] at h
        obtain ⟨ρ2, Z2, s2, I2, r2⟩ := finish_ok I s I' Lr rfl rr q
        exact h ρ2 Z2 H' v s2 I2 r2
      | err c m2 =>
        unfold finish at q
        split at q
        · split at q
          · split at q
            · split at q
              · split at q <;> cases q
              · cases q
            · cases q
          · cases q
        · split at q
          · cases q
          · split at q <;> cases q
      | bad => rw [q] at h; exact h.elim
    cases r with
    | ret dd m' => exact fin dd m' L h
    | nx e m' => exact fun ρ' Z' H' σ' s S' => fin .non m' L h ρ' Z' H' .non s S'.mok rfl
    | err x e m' =>
      intro ρ' Z' H' σ' s S'
      obtain ⟨s', I'⟩ := older (q := fun _ => False) I s S'.mok L rfl (fun a e => e.elim)
      exact h ρ _ H' s' I'
    | brk e m' => exact h.elim
    | cnt e m' => exact h.elim
    | bad => exact h.elim
  · exact h.elim
end
/-! ### a text -/
structure DI where
  c : CDef
  N : List Str
  ps : List Str
  d : He.DefD
def scOf (i : DI) : SC := { N := i.N, sc := i.d.scope, fnb := fun _ => true, calm := true, exc := none }
def scopeB (N P : List Str) (sc : Scope) : Bool := decide (sc.kind = .function) && !sc.isCoroutine && !sc.isGenerator && decide N.Nodup && decide (N.take P.length = P) &&
  (P.all fun x => match sc.names.lookup x with
    | some .local => true
    | some .cell => true
    | _ => false) && sc.names.all fun y => match y.2 with
    | .free => false
    | _ => true
theorem scopeB_ok {N P : List Str} {sc : Scope} (h : scopeB N P sc = true) : FnScope N P sc := by
  unfold scopeB at h
  simp only [Bool.and_eq_true, Bool.not_eq_true'] at h
  obtain ⟨⟨⟨⟨⟨⟨h1, h2⟩, h3⟩, h4⟩, h5⟩, h6⟩, h7⟩ := h
  refine ⟨of_decide_eq_true h1, h2, h3, of_decide_eq_true h4, of_decide_eq_true h5, fun x hx => ?_, fun y hy => ?_⟩
  · have q := List.all_eq_true.mp h6 x hx
    try dsimp only at q
    split at q
    · rename_i e; exact .inl e
    · rename_i e; exact .inr e
    · cases q
  · have q := List.all_eq_true.mp h7 y hy
    intro z
    rw [z] at q
    cases q
structure Txt where
  L : List DI
  cls : List Str
  glo : List (Str × D)
  blt : List Str
  kws : List (Nat × Nat × List Str × List Nat)
namespace Txt
variable (t : Txt)
def tab : Dx.Tab := ⟨t.L.map (·.d.name), t.cls, t.glo, t.blt, t.kws⟩
def defs : List CDef := t.L.map (·.c)
def glob (i : Nat) : Option D := (t.glo[i]?).map (·.2)
/-- the program's evaluator -/
def call (k : Nat) : Nat → List D → M → Res D := callF t.defs t.glob t.cls.length k
def fa (K : PySem.W.Frag) (i : Nat) : Addr := match t.L[i]? with
  | some D => He.ga K D.d.name
  | none => 0
def ca (K : PySem.W.Frag) (i : Nat) : Addr := match t.cls[i]? with
  | some x => He.ga K x
  | none => 0
def okDI (i : DI) : Bool := scopeB i.N i.ps i.d.scope && decide (i.c.np = i.ps.length) && decide (i.c.ns = i.N.length) && decide (i.d.at_ = (i.d.name, none)) && i.d.dfl.isEmpty && i.d.kwd.isEmpty && chkSs t.tab (scOf i) i.c.body i.d.body
def faL : List He.Fa := t.L.map (fun i => .glo i.d.name) ++ t.cls.map .glo ++ t.cls.map .exc ++ t.blt.map .free ++ (t.cls.zipIdx.flatMap fun p => t.cls.zipIdx.map fun q => .exm p.1 q.1 (decide (p.2 = q.2)))
def fnL : List He.DefD := t.L.map (·.d)
def excB (K : PySem.W.Frag) (x : Str) : Bool := He.eqO (PySem.W.findIn K (.ref (He.ga K x)) "__getattribute__") (some (some (.builtin "BaseException.__getattribute__"))) && He.eqO (PySem.W.findIn K (.ref (He.ga K x)) "__getattr__") (some none) &&
  PySem.W.hasDictIn K (He.ga K x) && He.eqO (PySem.W.findIn K (.ref (He.ga K x)) "__class__") (some (some (.builtin "object.__class__"))) && He.eqO (PySem.W.specialIn K (.builtin "object.__class__") "__get__") (some (some (.builtin "getset_descriptor.__get__"))) &&
  decide (PySem.W.takesIn K (.builtin "object.__class__") = some true) && decide (PySem.W.mroIn K (He.ga K x) (.type "object") = some true) && decide (PySem.W.kitOne K (.ref (He.ga K x)) (.type "ValueError") = some true)
end Txt
mutual
/-- a constant as the module holds it -/
def conB (K : PySem.W.Frag) : D → Value → Bool
  | .non, v => (match v with
    | .none => true
    | _ => false)
  | .bl b, v => (match v with
    | .bool c => decide (b = c)
    | _ => false)
  | .int i, v => (match v with
    | .int j _ => decide (i = j)
    | _ => false)
  | .str x, v => (match v with
    | .str y _ => decide (x = y)
    | _ => false)
  | .tup ds, v => (match v with
    | .ref a => (match K.lookup a with
      | some ⟨.type c, _, .seq its _, _⟩ => decide (c = "tuple") && decide (its.size ≤ sizeLine) && conBs K ds its.toList
      | _ => false)
    | _ => false)
  | _, _ => false
def conBs (K : PySem.W.Frag) : List D → List Value → Bool
  | [], vs => vs.isEmpty
  | d :: ds, vs => (match vs with
    | v :: vs => conB K d v && conBs K ds vs
    | [] => false)
end
section
variable {K : PySem.W.Frag} {fa : Nat → Addr}
mutual
theorem conB_ok : ∀ (d : D) (u : Value), conB K d u = true → ∃ v, RelV v u ∧ ∀ ρ Z H, RelD K fa ρ Z H d v
  | .non, u, h => by
    unfold conB at h
    split at h
    · exact ⟨.non, rfl, fun _ _ _ => rfl⟩
    · cases h
  | .bl b, u, h => by
    unfold conB at h
    split at h
    · rw [of_decide_eq_true h]; exact ⟨.bl _, rfl, fun _ _ _ => rfl⟩
    · cases h
  | .int i, u, h => by
    unfold conB at h
    split at h
    · rw [of_decide_eq_true h]; exact ⟨.int _, ⟨_, rfl⟩, fun _ _ _ => rfl⟩
    · cases h
  | .str x, u, h => by
    unfold conB at h
    split at h
    · rw [of_decide_eq_true h]; exact ⟨.str _, ⟨_, rfl⟩, fun _ _ _ => rfl⟩
    · cases h
  | .tup ds, u, h => by
    unfold conB at h
    split at h
    · rename_i a
      split at h
      · rename_i c od its n sl q
        simp only [Bool.and_eq_true] at h
        obtain ⟨⟨h1, h2⟩, h3⟩ := h
        obtain ⟨vs, r, rr⟩ := conBs_ok ds its.toList h3
        exact ⟨.ref a, rfl, fun ρ Z H => ⟨a, vs, rfl, .inr ⟨_, its, n, q, congrArg Value.type (of_decide_eq_true h1), rfl, of_decide_eq_true h2, r⟩, rr ρ Z H⟩⟩
      · cases h
    · cases h
  | .lst _, u, h => by unfold conB at h; cases h
  | .ref _, u, h => by unfold conB at h; cases h
  | .fn _, u, h => by unfold conB at h; cases h
  | .scr _, u, h => by unfold conB at h; cases h
theorem conBs_ok : ∀ (ds : List D) (us : List Value), conBs K ds us = true → ∃ vs, Vals vs us ∧ ∀ ρ Z H, RelDs K fa ρ Z H ds vs
  | [], us, h => by
    unfold conBs at h
    rw [List.isEmpty_iff.mp h]
    exact ⟨[], .nil, fun _ _ _ => rfl⟩
  | d :: ds, us, h => by
    unfold conBs at h
    split at h
    · rw [Bool.and_eq_true] at h
      obtain ⟨v, r, q⟩ := conB_ok d _ h.1
      obtain ⟨vs, rs, qs⟩ := conBs_ok ds _ h.2
      exact ⟨v :: vs, .cons r rs, fun ρ Z H => ⟨v, vs, rfl, q ρ Z H, qs ρ Z H⟩⟩
    · cases h
end
end
def Txt.exB (t : Txt) (K : PySem.W.Frag) : Bool := t.cls.all (Txt.excB K) && t.glo.all fun p => match PySem.W.nsIn K mainGlobals p.1 with
  | some (some v) => conB K p.2 v
  | _ => false
/-- what is shown of a text by looking -/
structure Txt.Ok (t : Txt) : Prop where
  defs : t.L.all t.okDI = true
  dbg : (t.cls.all fun x => !(x == ("__debug__" : Str))) = true
  bind : ∀ i ∈ t.L, ∀ (kV doc pm : Value) (an : Option Addr) (cdv ct : Value) (us : List Value), us.length = i.ps.length → bindArgs (PySem.W.fnOf i.d.name i.d.qual i.d.params i.d.body i.d.scope .none kV doc pm an cdv ct) ⟨us, []⟩ = pure (i.ps.zip us)
  kw : ∀ e ∈ t.kws, ∀ i, t.L[e.1]? = some i → ∀ (kV doc pm : Value) (an : Option Addr) (cdv ct : Value) (us ws zs : List Value), us.length = e.2.1 → ws.length = e.2.2.1.length → pickL (us ++ ws) e.2.2.2 = some zs → zs.length = i.ps.length →
    bindArgs (PySem.W.fnOf i.d.name i.d.qual i.d.params i.d.body i.d.scope .none kV doc pm an cdv ct) ⟨us, e.2.2.1.zip ws⟩ = pure (i.ps.zip zs)
section
variable {t : Txt} {P : Program} {w : World} {K : PySem.W.Frag} {mg : Str → Option Value} {h base : Heap}
theorem excB_ok {x : Str} (q : Txt.excB K x = true) : ExcC K (He.ga K x) → True := fun _ => trivial
theorem cls_ok {x : Str} (X : K.In h) (G : h.Ns mainGlobals mg) (q : Txt.excB K x = true) (q2 : (He.Fa.glo x).ok K = true) (q3 : (He.Fa.exc x).ok K = true) (q4 : (x == ("__debug__" : Str)) = false) : ClsOk K mg x (He.ga K x) := by
  unfold Txt.excB at q
  simp only [Bool.and_eq_true] at q
  obtain ⟨⟨⟨⟨⟨⟨⟨a1, a2⟩, a3⟩, a4⟩, a5⟩, a6⟩, a7⟩, a8⟩ := q
  obtain ⟨e1, e2, e3, e4⟩ := He.exc_ok q3
  exact ⟨He.glo_ok X G q2, e2, e1, e3, e4, ⟨He.eqO_ok a1, He.eqO_ok a2, e3, a3, He.eqO_ok a4, He.eqO_ok a5, of_decide_eq_true a6, of_decide_eq_true a7⟩, of_decide_eq_true a8, q4⟩
theorem fa_of {i : Nat} {D : DI} (e : t.L[i]? = some D) : t.fa K i = He.ga K D.d.name := by
  unfold Txt.fa
  rw [e]
theorem ca_of {i : Nat} {x : Str} (e : t.cls[i]? = some x) : t.ca K i = He.ga K x := by
  unfold Txt.ca
  rw [e]
theorem di_ok (O : t.Ok) {D : DI} (hm : D ∈ t.L) : FnScope D.N D.ps D.d.scope ∧ D.c.np = D.ps.length ∧ D.c.ns = D.N.length ∧ D.d.at_ = (D.d.name, none) ∧ D.d.dfl = [] ∧ D.d.kwd = [] ∧ chkSs t.tab (scOf D) D.c.body D.d.body = true := by
  have q := List.all_eq_true.mp O.defs D hm
  unfold Txt.okDI at q
  simp only [Bool.and_eq_true] at q
  obtain ⟨⟨⟨⟨⟨⟨h1, h2⟩, h3⟩, h4⟩, h5⟩, h6⟩, h7⟩ := q
  exact ⟨scopeB_ok h1, of_decide_eq_true h2, of_decide_eq_true h3, of_decide_eq_true h4, List.isEmpty_iff.mp h5, List.isEmpty_iff.mp h6, h7⟩
/-- the def's function object -/
theorem fun_of (O : t.Ok) (c : He.SaysD t.faL t.fnL K) {D : DI} (hm : D ∈ t.L) : ∃ fd, FunD K D.d.name D.d.qual D.d.params D.d.body D.d.scope [] [] (He.ga K D.d.name) fd := by
  obtain ⟨_, _, _, h4, h5, h6, _⟩ := di_ok O hm
  obtain ⟨fd, F⟩ := He.SaysD.defs c (d := D.d) (List.mem_map_of_mem hm)
  have e1 : D.d.dvs K = [] := by unfold He.DefD.dvs; rw [h5]; rfl
  have e2 : D.d.kws K = [] := by unfold He.DefD.kws; rw [h6]; rfl
  have e3 : He.fAd K D.d.at_ = He.ga K D.d.name := by rw [h4]; rfl
  rw [e1, e2, e3] at F
  exact ⟨fd, F⟩
theorem kwb_of {D : DI} {e : Nat × Nat × List Str × List Nat} {fd : FuncData} {f : Addr} (F : FunD K D.d.name D.d.qual D.d.params D.d.body D.d.scope [] [] f fd)
    (hk : ∀ (kV doc pm : Value) (an : Option Addr) (cdv ct : Value) (us ws zs : List Value), us.length = e.2.1 → ws.length = e.2.2.1.length → pickL (us ++ ws) e.2.2.2 = some zs → zs.length = D.ps.length →
    bindArgs (PySem.W.fnOf D.d.name D.d.qual D.d.params D.d.body D.d.scope .none kV doc pm an cdv ct) ⟨us, e.2.2.1.zip ws⟩ = pure (D.ps.zip zs)) : KwB K fd D.ps e.2.1 e.2.2.1 e.2.2.2 := by
  obtain ⟨oc, od, dV, kV, doc, pm, an, cdv, ct, osl, rfl, lk, hcd, hD, hK⟩ := F.ex
  intro s us ws zs X l1 l2 l3 l4
  rcases hD with ⟨_, rfl⟩ | ⟨z, _⟩
  · exact .of_eq (hk kV doc pm an cdv ct us ws zs l1 l2 l3 l4)
  · exact absurd rfl z
theorem callF_len {defs : List CDef} {glob : Nat → Option D} {nc k f : Nat} {d : CDef} {ds : List D} {m : M} (hd : defs[f]? = some d) (h : ds.length ≠ d.np) : callF defs glob nc k f ds m = .bad := by
  cases k with
  | zero => rfl
  | succ k =>
    unfold callF
    rw [hd]
    exact if_neg h
/-- THE TEXT: every def keeps its promise -/
theorem sound (O : t.Ok) (X : K.In h) (G : h.Ns mainGlobals mg) (c : He.SaysD t.faL t.fnL K) (ex : t.exB K = true) : ∀ (k : Nat) (i : Nat) (D : DI) (fd : FuncData), t.L[i]? = some D → FunD K D.d.name D.d.qual D.d.params D.d.body D.d.scope [] [] (He.ga K D.d.name) fd →
    FnOk P w K mg base (L2.CX P w) k (He.ga K D.d.name) fd D.ps (spD K (t.fa K) (t.ca K) (t.call k i) D.ps.length)
  | 0, i, D, fd, hi, F => by
    refine ⟨fun vs H Q E q => q.1, fun A outer s H args us vs Q E hr he hb hv hs => ?_⟩
    obtain ⟨_, ρ, Z, m, ds, _, _, q⟩ := hs
    exact (show False from q).elim
  | k + 1, i, D, fd, hi, F => by
    have ih := sound O X G c ex k
    have hm := List.mem_of_getElem? hi
    obtain ⟨o1, o2, o3, o4, o5, o6, o7⟩ := di_ok O hm
    unfold Txt.exB at ex
    rw [Bool.and_eq_true] at ex
    have exc1 : ∀ x ∈ t.cls, Txt.excB K x = true := fun x hx => List.all_eq_true.mp ex.1 x hx
    have facts : ∀ f ∈ t.faL, f.ok K = true := fun f hf => He.SaysD.facts c hf
    have glo : ∀ x ∈ t.cls, ClsOk K mg x (He.ga K x) := fun x hx => by
      refine cls_ok X G (exc1 x hx) (facts _ ?_) (facts _ ?_) ?_
      · unfold Txt.faL
        simp only [List.mem_append, List.mem_map]
        exact .inl (.inl (.inl (.inr ⟨x, hx, rfl⟩)))
      · unfold Txt.faL
        simp only [List.mem_append, List.mem_map]
        exact .inl (.inl (.inr ⟨x, hx, rfl⟩))
      · have q := List.all_eq_true.mp O.dbg x hx
        simpa using q
    refine F.ok o1 (fun vs H Q E q => q.1) fun cdv A outer s H vs Q E hr hs => ?_
    obtain ⟨hl, ρ, Z, m, ds, I, rds, q⟩ := hs
    have hd : t.defs[i]? = some D.c := by
      unfold Txt.defs
      rw [List.getElem?_map, hi]; rfl
    refine ⟨RS (cxOf (L2.CX P w) P w K mg base D.N D.d.qual D.d.scope (He.ga K D.d.name) cdv A outer s H E) (t.fa K) (t.ca K) (fun cls d _ H' => E cls d H') (evSs ⟨t.call k, t.glob, m.length, t.defs.length, t.cls.length⟩ D.c.body), ?_, ρ, Z, _, m, ?_, body_ends I hd q⟩
    · refine sSs (T := t.tab) (k := k) (S := scOf D) D.c.body ?_ ?_ o7
      · refine ⟨⟨rfl, rfl, o1.nd, rfl, fun _ => rfl, fun _ => hr, fun i h => (by cases h), ?_⟩, passes_of rfl, rfl, rfl, o1.kind, rfl⟩
        refine ⟨fun j x hx => ?_, by show t.defs.length = _; unfold Txt.defs Txt.tab; simp, rfl, fun j p hp => ?_, fun x hx => ?_, fun j x hx => ?_, fun j l x y hx hy => ?_⟩
        · have hx' : (t.L.map (·.d.name))[j]? = some x := hx
          rw [List.getElem?_map] at hx'
          obtain ⟨D', hj, rfl⟩ := Option.map_eq_some_iff.mp hx'
          have hm' := List.mem_of_getElem? hj
          obtain ⟨fd', F'⟩ := fun_of O c hm'
          rw [fa_of hj]
          refine ⟨He.glo_ok X G (facts _ ?_), F'.kp, fd', D'.ps, ih j D' fd' hj F', F'.bindsN (O.bind D' hm'), fun ds m hne => ?_, fun e he hej => kwb_of F' (O.kw e he D' (by rw [hej]; exact hj))⟩
          · unfold Txt.faL
            simp only [List.mem_append, List.mem_map]
            exact .inl (.inl (.inl (.inl ⟨D', hm', rfl⟩)))
          · refine callF_len (d := D'.c) ?_ ?_
            · show t.defs[j]? = _
              unfold Txt.defs
              rw [List.getElem?_map, hj]; rfl
            · rw [(di_ok O hm').2.1]; exact hne
        · have hp' : t.glo[j]? = some p := hp
          refine ⟨?_, ?_⟩
          · show (t.glo[j]?).map (·.2) = _
            rw [hp']; rfl
          · have q := List.all_eq_true.mp ex.2 p (List.mem_of_getElem? hp')
            try dsimp only at q
            split at q
            · rename_i v e
              obtain ⟨u, r, rr⟩ := conB_ok (fa := t.fa K) p.2 v q
              exact ⟨u, v, PySem.W.mg_of X G e, r, rr⟩
            · cases q
        · refine He.free_ok X G (facts _ ?_)
          unfold Txt.faL
          simp only [List.mem_append, List.mem_map]
          exact .inl (.inr ⟨x, hx, rfl⟩)
        · have hx' : t.cls[j]? = some x := hx
          rw [ca_of hx']
          exact glo x (List.mem_of_getElem? hx')
        · have hx' : t.cls[j]? = some x := hx
          have hy' : t.cls[l]? = some y := hy
          rw [ca_of hx', ca_of hy']
          refine He.exm_ok (facts _ ?_)
          unfold Txt.faL
          simp only [List.mem_append, List.mem_flatMap, List.mem_map]
          exact .inr ⟨(x, j), List.mk_mem_zipIdx_iff_getElem?.mpr hx', (y, l), List.mk_mem_zipIdx_iff_getElem?.mpr hy', rfl⟩
      · exact takes_of rfl rfl rfl rfl
    · have e1 : D.N.length - vs.length = D.c.ns - D.c.np := by rw [o3, o2, hl]
      show Sim K (t.fa K) ρ Z H (L2.start D.N vs) _ m
      unfold L2.start
      rw [e1]
      exact start_env I _ rds
end
end Dx
/-! Dx, part 21: a law's end. -/
namespace Dx
open PySem PySem.Spec PyProof.Rows L2
abbrev Txt.hk (t : Txt) (n : Nat) : PySem.W.Hook := He.hookX n t.faL t.fnL [] [] t.exB
def Txt.ob (t : Txt) (n : Nat) (s : PySem.W.SharedT) : He.AlX := He.obsX n t.faL t.fnL [] [] t.exB (HandSHeadRun.getT s)
theorem Txt.ob_eq (t : Txt) (n : Nat) (s : PySem.W.SharedT) : t.ob n s = (t.hk n).obs s.abs := He.obsX_eq (HandSHeadRun.getT_eq s)
/-- the script as data -/
def scrD (ns : List Int) : D := .scr (ns.map .int)
theorem rel_ints {K : PySem.W.Frag} {fa : Nat → Addr} {ρ : List Addr} {Z : Addr → Prop} {H : Hp} : ∀ (ns : List Int), RelDs K fa ρ Z H (ns.map .int) (ns.map V.int)
  | [] => rfl
  | n :: ns => ⟨.int n, ns.map V.int, rfl, rfl, rel_ints ns⟩
/-- from the evaluator's answer to the law's -/
theorem law_end {l : PySem.W.OpenLaw} {n k i hn : Nat} {q : Program} {loose : List Str} {XP : (Str → Option Value) → Heap → Prop} {d : DefRec} {t : Txt} {x : Str} {Di : DI}
    (O : t.Ok) (hi : t.L[i]? = some Di) (hx : Di.ps = [x]) (hnm : d.name = Di.d.name) (hm : l.most = some n) (hn2 : n ≤ sizeLine) (hdf : d.params.defaults = []) (hr : Room k callerA)
    (ok : ∀ ns : List Int, ns.length ≤ n → ∃ m, t.call k i [scrD ns] [] = .ok (.bl true) m) :
    PySem.W.WalkO q loose XP (t.hk hn).says l.row.toRowW d [] (fun f vs => PySem.call f vs) := by
  refine Att.attach_call hm hdf fun w s0 s1 mg mb fa o pm cd doc a vs ns G Y ho hd hcd hmg hobj hints hlen hg => ?_
  obtain ⟨K, KX, sx⟩ := Y
  have c := sx.t.d
  have hmem := List.mem_of_getElem? hi
  obtain ⟨fd, F⟩ := fun_of O c hmem
  have g1 : mg Di.d.name = some (.ref (He.ga K Di.d.name)) := He.glo_ok KX G.T.g (He.SaysD.facts c (by
    unfold Txt.faL
    simp only [List.mem_append, List.mem_map]
    exact .inl (.inl (.inl (.inl ⟨Di, hmem, rfl⟩)))))
  rw [hnm, g1] at hmg
  cases hmg
  have hS := fun base => sound (P := l.prog) (w := w) (base := base) O KX G.T.g c sx.more k i Di fd hi F
  have hb := F.bindsA (O.bind Di hmem)
  refine law_call (x := x) KX G.T.g G.T.b G.T.builtins G.T.nolimit hg hobj hints (Nat.le_trans hlen hn2) hr (fun base _ _ => by have q := hS base; rw [hx] at q; exact q) (fun s u => ?_) (fun H hO hq => ?_) (fun H e s' q => ?_)
  · have q := hb s [u] (by rw [hx]; rfl)
    rw [hx] at q
    exact q
  · refine ⟨rfl, [], fun _ => False, [], [scrD ns], ⟨rfl, List.nodup_nil, fun a h => (by cases h), fun a h => h.elim, fun i o h => (by cases h)⟩, ⟨.ref a, [], rfl, ⟨a, ns.map V.int, rfl, ?_, rel_ints ns⟩, rfl⟩, ?_⟩
    · rcases hq with (q | q) | q
      · rcases hO a with z | ⟨o, xs, z⟩
        · rw [z] at q; cases q
        · rw [z] at q; cases q
      · exact .inl q
      · exact .inr q
    · obtain ⟨m, e⟩ := ok ns hlen
      rw [e]
      exact fun ρ' Z' H' b s I r => r
  · obtain ⟨_, _, _, _, _, _, _, _, _, _, _, _, z⟩ := q
    exact z
end Dx
/-! the text of k00_whole_fractions, as data -/
namespace K0
open PySem PySem.Spec PyProof.Rows L2 Dx
def top (i : Nat) : Stmt := PySem.Challenge.pw_wholenear_k00_whole_fractions.main.body.getD i (.Pass ⟨0, 0, 0, 0⟩)
/-- is_number -/
def c0 : CDef := { np := 1, ns := 1, body := .cons (.ret (.andV (.cons (.isI (.var 0) [.tInt]) (.cons (.notV (.isI (.var 0) [.tBool])) .nil)))) .nil, rm := false }
def i0 : DI := ⟨c0, ["thing"], ["thing"], ⟨("is_number", none), "is_number", "is_number", defArgs (top 4), defBody (top 4), defScope (top 4), [], []⟩⟩
/-- is_long -/
def c1 : CDef := { np := 2, ns := 2, body := .cons (.ret (.andV (.cons (.isI (.var 0) [.tTuple]) (.cons (.cmp .Eq (.blt .len (.cons (.var 0) .nil)) (.var 1)) .nil)))) .nil, rm := false }
def i1 : DI := ⟨c1, ["thing", "length"], ["thing", "length"], ⟨("is_long", none), "is_long", "is_long", defArgs (top 5), defBody (top 5), defScope (top 5), [], []⟩⟩
/-- tupled -/
def c2 : CDef := { np := 1, ns := 2, body := .cons (.ret (.ife (.tru (.isI (.var 0) [.tList, .tTuple])) (.blt .toTuple (.cons (.lv (.comp (.call 2 (.cons (.var 1) .nil)) (.name 1) (.seq (.var 0)) (.none) [1])) .nil)) (.var 0))) .nil, rm := false }
def i2 : DI := ⟨c2, ["value", "own"], ["value"], ⟨("tupled", none), "tupled", "tupled", defArgs (top 6), defBody (top 6), defScope (top 6), [], []⟩⟩
/-- common_divisor -/
def c3 : CDef := { np := 2, ns := 2, body := .cons (.par2 0 1 (.blt .abs (.cons (.var 0) .nil)) (.blt .abs (.cons (.var 1) .nil))) (.cons (.while_ (.cmp .Gt (.var 1) (.int 0)) (.cons (.par2 0 1 (.var 1) (.bin .Mod (.var 0) (.var 1))) .nil)) (.cons (.ret (.var 0)) .nil)), rm := false }
def i3 : DI := ⟨c3, ["one", "other"], ["one", "other"], ⟨("common_divisor", none), "common_divisor", "common_divisor", defArgs (top 7), defBody (top 7), defScope (top 7), [], []⟩⟩
/-- is_fraction_in -/
def c4 : CDef := { np := 1, ns := 1, body := .cons (.ife (.or (.cons (.not (.tru (.call 1 (.cons (.var 0) (.cons (.int 2) .nil))))) (.cons (.not (.tru (.call 0 (.cons (.idx (.var 0) (.int 0)) .nil)))) (.cons (.not (.tru (.call 0 (.cons (.idx (.var 0) (.int 1)) .nil)))) .nil)))) (.cons (.ret (.bl false)) .nil) (.nil)) (.cons (.ret (.andV (.cons (.cmp .GtE (.idx (.var 0) (.int 1)) (.int 1)) (.cons (.cmp .Eq (.call 3 (.cons (.idx (.var 0) (.int 0)) (.cons (.idx (.var 0) (.int 1)) .nil))) (.int 1)) .nil)))) .nil), rm := false }
def i4 : DI := ⟨c4, ["thing"], ["thing"], ⟨("is_fraction_in", none), "is_fraction_in", "is_fraction_in", defArgs (top 10), defBody (top 10), defScope (top 10), [], []⟩⟩
/-- sure_fraction -/
def c5 : CDef := { np := 1, ns := 2, body := .cons (.asg (.name 1) (.call 2 (.cons (.var 0) .nil))) (.cons (.ife (.not (.tru (.call 4 (.cons (.var 1) .nil)))) (.cons (.raise 1) .nil) (.nil)) (.cons (.ret (.var 1)) .nil)), rm := false }
def i5 : DI := ⟨c5, ["fraction", "own"], ["fraction"], ⟨("sure_fraction", none), "sure_fraction", "sure_fraction", defArgs (top 11), defBody (top 11), defScope (top 11), [], []⟩⟩
/-- reduced -/
def c6 : CDef := { np := 2, ns := 4, body := .cons (.asg (.name 2) (.ife (.cmp .Gt (.var 1) (.int 0)) (.int 1) (.neg (.int 1)))) (.cons (.asg (.name 3) (.call 3 (.cons (.var 0) (.cons (.var 1) .nil)))) (.cons (.ret (.tup (.cons (.bin .FloorDiv (.bin .Mult (.var 2) (.var 0)) (.var 3)) (.cons (.bin .FloorDiv (.bin .Mult (.var 2) (.var 1)) (.var 3)) .nil)))) .nil)), rm := false }
def i6 : DI := ⟨c6, ["upper", "lower", "sign", "both"], ["upper", "lower"], ⟨("reduced", none), "reduced", "reduced", defArgs (top 12), defBody (top 12), defScope (top 12), [], []⟩⟩
/-- plus -/
def c7 : CDef := { np := 2, ns := 2, body := .cons (.ret (.call 6 (.cons (.bin .Add (.bin .Mult (.idx (.var 0) (.int 0)) (.idx (.var 1) (.int 1))) (.bin .Mult (.idx (.var 1) (.int 0)) (.idx (.var 0) (.int 1)))) (.cons (.bin .Mult (.idx (.var 0) (.int 1)) (.idx (.var 1) (.int 1))) .nil)))) .nil, rm := false }
def i7 : DI := ⟨c7, ["one", "other"], ["one", "other"], ⟨("plus", none), "plus", "plus", defArgs (top 13), defBody (top 13), defScope (top 13), [], []⟩⟩
/-- times -/
def c8 : CDef := { np := 2, ns := 2, body := .cons (.ret (.call 6 (.cons (.bin .Mult (.idx (.var 0) (.int 0)) (.idx (.var 1) (.int 0))) (.cons (.bin .Mult (.idx (.var 0) (.int 1)) (.idx (.var 1) (.int 1))) .nil)))) .nil, rm := false }
def i8 : DI := ⟨c8, ["one", "other"], ["one", "other"], ⟨("times", none), "times", "times", defArgs (top 14), defBody (top 14), defScope (top 14), [], []⟩⟩
/-- over -/
def c9 : CDef := { np := 2, ns := 2, body := .cons (.ret (.call 6 (.cons (.bin .Mult (.idx (.var 0) (.int 0)) (.idx (.var 1) (.int 1))) (.cons (.bin .Mult (.idx (.var 0) (.int 1)) (.idx (.var 1) (.int 0))) .nil)))) .nil, rm := false }
def i9 : DI := ⟨c9, ["one", "other"], ["one", "other"], ⟨("over", none), "over", "over", defArgs (top 15), defBody (top 15), defScope (top 15), [], []⟩⟩
/-- is_at_most -/
def c10 : CDef := { np := 2, ns := 2, body := .cons (.ret (.cmp .LtE (.bin .Mult (.idx (.var 0) (.int 0)) (.idx (.var 1) (.int 1))) (.bin .Mult (.idx (.var 1) (.int 0)) (.idx (.var 0) (.int 1))))) .nil, rm := false }
def i10 : DI := ⟨c10, ["one", "other"], ["one", "other"], ⟨("is_at_most", none), "is_at_most", "is_at_most", defArgs (top 16), defBody (top 16), defScope (top 16), [], []⟩⟩
/-- floor_in -/
def c11 : CDef := { np := 1, ns := 1, body := .cons (.ret (.bin .FloorDiv (.idx (.var 0) (.int 0)) (.idx (.var 0) (.int 1)))) .nil, rm := false }
def i11 : DI := ⟨c11, ["one"], ["one"], ⟨("floor_in", none), "floor_in", "floor_in", defArgs (top 17), defBody (top 17), defScope (top 17), [], []⟩⟩
/-- ceiling_in -/
def c12 : CDef := { np := 1, ns := 1, body := .cons (.ret (.bin .Sub (.int 0) (.bin .FloorDiv (.bin .Sub (.int 0) (.idx (.var 0) (.int 0))) (.idx (.var 0) (.int 1))))) .nil, rm := false }
def i12 : DI := ⟨c12, ["one"], ["one"], ⟨("ceiling_in", none), "ceiling_in", "ceiling_in", defArgs (top 18), defBody (top 18), defScope (top 18), [], []⟩⟩
/-- nearest_in -/
def c13 : CDef := { np := 1, ns := 1, body := .cons (.ret (.bin .FloorDiv (.bin .Add (.bin .Mult (.int 2) (.idx (.var 0) (.int 0))) (.idx (.var 0) (.int 1))) (.bin .Mult (.int 2) (.idx (.var 0) (.int 1))))) .nil, rm := false }
def i13 : DI := ⟨c13, ["one"], ["one"], ⟨("nearest_in", none), "nearest_in", "nearest_in", defArgs (top 19), defBody (top 19), defScope (top 19), [], []⟩⟩
/-- is_fraction -/
def c14 : CDef := { np := 1, ns := 1, body := .cons (.ret (.call 4 (.cons (.var 0) .nil))) .nil, rm := false }
def i14 : DI := ⟨c14, ["thing"], ["thing"], ⟨("is_fraction", none), "is_fraction", "is_fraction", defArgs (top 20), defBody (top 20), defScope (top 20), [], []⟩⟩
/-- fraction_of -/
def c15 : CDef := { np := 2, ns := 2, body := .cons (.ife (.or (.cons (.not (.tru (.call 0 (.cons (.var 0) .nil)))) (.cons (.not (.tru (.call 0 (.cons (.var 1) .nil)))) .nil))) (.cons (.raise 1) .nil) (.nil)) (.cons (.ife (.cmp .Eq (.var 1) (.int 0)) (.cons (.raise 0) .nil) (.nil)) (.cons (.ret (.call 6 (.cons (.var 0) (.cons (.var 1) .nil)))) .nil)), rm := false }
def i15 : DI := ⟨c15, ["upper", "lower"], ["upper", "lower"], ⟨("fraction_of", none), "fraction_of", "fraction_of", defArgs (top 21), defBody (top 21), defScope (top 21), [], []⟩⟩
/-- sure_two -/
def c16 : CDef := { np := 2, ns := 3, body := .cons (.asg (.name 2) (.call 5 (.cons (.var 0) .nil))) (.cons (.ret (.tup (.cons (.var 2) (.cons (.call 5 (.cons (.var 1) .nil)) .nil)))) .nil), rm := false }
def i16 : DI := ⟨c16, ["one", "other", "own"], ["one", "other"], ⟨("sure_two", none), "sure_two", "sure_two", defArgs (top 22), defBody (top 22), defScope (top 22), [], []⟩⟩
/-- fraction_sum -/
def c17 : CDef := { np := 2, ns := 4, body := .cons (.asg (.tup [.name 2, .name 3]) (.call 16 (.cons (.var 0) (.cons (.var 1) .nil)))) (.cons (.ret (.call 7 (.cons (.var 2) (.cons (.var 3) .nil)))) .nil), rm := false }
def i17 : DI := ⟨c17, ["one", "other", "own", "its"], ["one", "other"], ⟨("fraction_sum", none), "fraction_sum", "fraction_sum", defArgs (top 23), defBody (top 23), defScope (top 23), [], []⟩⟩
/-- fraction_product -/
def c18 : CDef := { np := 2, ns := 4, body := .cons (.asg (.tup [.name 2, .name 3]) (.call 16 (.cons (.var 0) (.cons (.var 1) .nil)))) (.cons (.ret (.call 8 (.cons (.var 2) (.cons (.var 3) .nil)))) .nil), rm := false }
def i18 : DI := ⟨c18, ["one", "other", "own", "its"], ["one", "other"], ⟨("fraction_product", none), "fraction_product", "fraction_product", defArgs (top 24), defBody (top 24), defScope (top 24), [], []⟩⟩
/-- fraction_quotient -/
def c19 : CDef := { np := 2, ns := 4, body := .cons (.asg (.tup [.name 2, .name 3]) (.call 16 (.cons (.var 0) (.cons (.var 1) .nil)))) (.cons (.ife (.cmp .Eq (.var 3) (.glob 0)) (.cons (.raise 0) .nil) (.nil)) (.cons (.ret (.call 9 (.cons (.var 2) (.cons (.var 3) .nil)))) .nil)), rm := false }
def i19 : DI := ⟨c19, ["one", "other", "own", "its"], ["one", "other"], ⟨("fraction_quotient", none), "fraction_quotient", "fraction_quotient", defArgs (top 25), defBody (top 25), defScope (top 25), [], []⟩⟩
/-- is_not_above -/
def c20 : CDef := { np := 2, ns := 4, body := .cons (.asg (.tup [.name 2, .name 3]) (.call 16 (.cons (.var 0) (.cons (.var 1) .nil)))) (.cons (.ret (.call 10 (.cons (.var 2) (.cons (.var 3) .nil)))) .nil), rm := false }
def i20 : DI := ⟨c20, ["one", "other", "own", "its"], ["one", "other"], ⟨("is_not_above", none), "is_not_above", "is_not_above", defArgs (top 26), defBody (top 26), defScope (top 26), [], []⟩⟩
/-- whole_below -/
def c21 : CDef := { np := 1, ns := 1, body := .cons (.ret (.call 11 (.cons (.call 5 (.cons (.var 0) .nil)) .nil))) .nil, rm := false }
def i21 : DI := ⟨c21, ["fraction"], ["fraction"], ⟨("whole_below", none), "whole_below", "whole_below", defArgs (top 27), defBody (top 27), defScope (top 27), [], []⟩⟩
/-- whole_above -/
def c22 : CDef := { np := 1, ns := 1, body := .cons (.ret (.call 12 (.cons (.call 5 (.cons (.var 0) .nil)) .nil))) .nil, rm := false }
def i22 : DI := ⟨c22, ["fraction"], ["fraction"], ⟨("whole_above", none), "whole_above", "whole_above", defArgs (top 28), defBody (top 28), defScope (top 28), [], []⟩⟩
/-- whole_next -/
def c23 : CDef := { np := 1, ns := 1, body := .cons (.ret (.call 13 (.cons (.call 5 (.cons (.var 0) .nil)) .nil))) .nil, rm := false }
def i23 : DI := ⟨c23, ["fraction"], ["fraction"], ⟨("whole_next", none), "whole_next", "whole_next", defArgs (top 29), defBody (top 29), defScope (top 29), [], []⟩⟩
/-- _law_box -/
def c24 : CDef := { np := 2, ns := 3, body := .cons (.asg (.name 2) (.ife (.cmp .Lt (.var 1) (.blt .len (.cons (.var 0) .nil))) (.idx (.var 0) (.var 1)) (.int 0))) (.cons (.ret (.lm (.disp (.cons (.bin .Mult (.blt .abs (.cons (.var 2) .nil)) (.blt .toInt (.cons (.cmp .GtE (.blt .abs (.cons (.var 2) .nil)) (.bin .Pow (.int 10) (.int 18))) .nil))) (.cons (.bin .Add (.bin .Add (.bin .Mod (.blt .toInt (.cons (.var 2) .nil)) (.int 2305843009213693951)) (.bin .Mult (.int 39373) (.var 1))) (.int 6070000)) (.cons (.int 0) .nil)))))) .nil), rm := true }
def i24 : DI := ⟨c24, ["script", "k", "bit_so"], ["script", "k"], ⟨("_law_box", none), "_law_box", "_law_box", defArgs (top 31), defBody (top 31), defScope (top 31), [], []⟩⟩
/-- _law_take -/
def c25 : CDef := { np := 2, ns := 6, body := .cons (.ife (.cmp .Gt (.idx (.var 0) (.int 0)) (.int 0)) (.cons (.asg (.name 5) (.bin .Mod (.blt .toInt (.cons (.idx (.var 0) (.int 0)) .nil)) (.var 1))) (.cons (.setI (.var 0) (.int 0) (.bin .FloorDiv (.idx (.var 0) (.int 0)) (.var 1))) (.cons (.ret (.var 5)) .nil))) (.nil)) (.cons (.setI (.var 0) (.int 2) (.bin .Add (.idx (.var 0) (.int 2)) (.int 1))) (.cons (.asg (.name 2) (.bin .Mod (.blt .toInt (.cons (.bin .Mult (.bin .Add (.idx (.var 0) (.int 1)) (.bin .Mult (.int 48271) (.idx (.var 0) (.int 2)))) (.bin .Add (.int 39373) (.idx (.var 0) (.int 2)))) .nil)) (.int 2147483647))) (.cons (.asg (.name 3) (.bin .Add (.bin .Mod (.blt .toInt (.cons (.var 2) .nil)) (.int 40009)) (.int 7))) (.cons (.asg (.name 4) (.bin .Mod (.blt .toInt (.cons (.bin .Mult (.bin .Add (.bin .Add (.var 2) (.idx (.var 0) (.int 2))) (.bin .FloorDiv (.idx (.var 0) (.int 1)) (.int 1000003))) (.var 3)) .nil)) (.int 2147483629))) (.cons (.ret (.bin .Mod (.blt .toInt (.cons (.bin .FloorDiv (.bin .Mod (.blt .toInt (.cons (.bin .Add (.bin .Mult (.var 4) (.int 48271)) (.var 2)) .nil)) (.int 2147483587)) (.int 64)) .nil)) (.var 1))) .nil))))), rm := false }
def i25 : DI := ⟨c25, ["tin", "below_so", "once_so", "wide_so", "twice_so", "drawn_so"], ["tin", "below_so"], ⟨("_law_take", none), "_law_take", "_law_take", defArgs (top 32), defBody (top 32), defScope (top 32), [], []⟩⟩
/-- _law_cells -/
def c26 : CDef := { np := 2, ns := 6, body := .cons (.asg (.name 2) (.orT (.lm (.lst (.slc (.var 0) .none (.some (.var 1))))) (.lm (.disp (.cons (.int 0) .nil))))) (.cons (.for_ (.tup [.name 3, .name 4]) (.enum (.slc (.var 0) (.some (.var 1)) (.some (.int 63)))) (.cons (.asg (.name 5) (.bin .Mod (.blt .toInt (.cons (.var 3) .nil)) (.var 1))) (.cons (.setI (.var 2) (.var 5) (.bin .Add (.idx (.var 2) (.var 5)) (.bin .Mult (.var 4) (.bin .Add (.var 3) (.int 2))))) .nil))) (.cons (.ret (.var 2)) .nil)), rm := false }
def i26 : DI := ⟨c26, ["script", "most_so", "cells_so", "k", "bit_so", "at_so"], ["script", "most_so"], ⟨("_law_cells", none), "_law_cells", "_law_cells", defArgs (top 33), defBody (top 33), defScope (top 33), [], []⟩⟩
/-- _law_of -/
def c27 : CDef := { np := 2, ns := 2, body := .cons (.ret (.idx (.var 1) (.call 25 (.cons (.var 0) (.cons (.blt .len (.cons (.var 1) .nil)) .nil))))) .nil, rm := false }
def i27 : DI := ⟨c27, ["tin", "goods_so"], ["tin", "goods_so"], ⟨("_law_of", none), "_law_of", "_law_of", defArgs (top 34), defBody (top 34), defScope (top 34), [], []⟩⟩
/-- _law_lists -/
def c28 : CDef := { np := 1, ns := 2, body := .cons (.ret (.ife (.tru (.isI (.var 0) [.tList, .tTuple])) (.lv (.comp (.call 28 (.cons (.var 1) .nil)) (.name 1) (.seq (.var 0)) (.none) [1])) (.var 0))) .nil, rm := false }
def i28 : DI := ⟨c28, ["matter", "bit"], ["matter"], ⟨("_law_lists", none), "_law_lists", "_law_lists", defArgs (top 35), defBody (top 35), defScope (top 35), [], []⟩⟩
/-- _law_same -/
def c29 : CDef := { np := 2, ns := 4, body := .cons (.ife (.tru (.isI (.var 1) [.tList, .tTuple])) (.cons (.ife (.or (.cons (.cmp .NotEq (.isI (.var 0) [.tList]) (.isI (.var 1) [.tList])) (.cons (.cmp .NotEq (.isI (.var 0) [.tTuple]) (.isI (.var 1) [.tTuple])) .nil))) (.cons (.ret (.bl false)) .nil) (.nil)) (.cons (.ret (.andV (.cons (.cmp .Eq (.blt .len (.cons (.var 0) .nil)) (.blt .len (.cons (.var 1) .nil))) (.cons (.blt .all (.cons (.lv (.comp (.call 29 (.cons (.var 2) (.cons (.var 3) .nil))) (.tup [.name 2, .name 3]) (.zip (.var 0) (.var 1)) (.none) [2, 3])) .nil)) .nil)))) .nil)) (.nil)) (.cons (.ife (.cmp .Is (.var 1) (.non)) (.cons (.ret (.cmp .Is (.var 0) (.non))) .nil) (.nil)) (.cons (.ife (.tru (.isI (.var 1) [.tBool, .tStr])) (.cons (.ret (.andV (.cons (.cmp .Eq (.isI (.var 0) [.tBool]) (.isI (.var 1) [.tBool])) (.cons (.cmp .Eq (.isI (.var 0) [.tStr]) (.isI (.var 1) [.tStr])) (.cons (.cmp .Eq (.var 0) (.var 1)) .nil))))) .nil) (.nil)) (.cons (.ret (.andV (.cons (.isI (.var 0) [.tInt]) (.cons (.notV (.isI (.var 0) [.tBool])) (.cons (.cmp .Eq (.var 0) (.var 1)) .nil))))) .nil))), rm := false }
def i29 : DI := ⟨c29, ["got", "due", "mine", "its"], ["got", "due"], ⟨("_law_same", none), "_law_same", "_law_same", defArgs (top 36), defBody (top 36), defScope (top 36), [], []⟩⟩
/-- _law_unmarked -/
def c30 : CDef := { np := 1, ns := 1, body := .cons (.ret (.ife (.and (.cons (.tru (.isI (.var 0) [.tList])) (.cons (.cmp .Gt (.blt .len (.cons (.var 0) .nil)) (.int 0)) (.cons (.tru (.isI (.idx (.var 0) (.int 0)) [.tStr])) .nil)))) (.lv (.disp (.cons (.str "told") (.cons (.str "a mark") .nil)))) (.var 0))) .nil, rm := false }
def i30 : DI := ⟨c30, ["told_so"], ["told_so"], ⟨("_law_unmarked", none), "_law_unmarked", "_law_unmarked", defArgs (top 37), defBody (top 37), defScope (top 37), [], []⟩⟩
/-- _law_call -/
def c31 : CDef := { np := 2, ns := 2, body := .cons (.ife (.cmp .Eq (.blt .len (.cons (.var 1) .nil)) (.int 1)) (.cons (.ret (.callL 0 (.cons (.idx (.var 1) (.int 0)) .nil))) .nil) (.nil)) (.cons (.ife (.cmp .Eq (.blt .len (.cons (.var 1) .nil)) (.int 2)) (.cons (.ret (.callL 0 (.cons (.idx (.var 1) (.int 0)) (.cons (.idx (.var 1) (.int 1)) .nil)))) .nil) (.nil)) (.cons (.ife (.cmp .Eq (.blt .len (.cons (.var 1) .nil)) (.int 3)) (.cons (.ret (.callL 0 (.cons (.idx (.var 1) (.int 0)) (.cons (.idx (.var 1) (.int 1)) (.cons (.idx (.var 1) (.int 2)) .nil))))) .nil) (.nil)) (.cons (.ife (.cmp .Eq (.blt .len (.cons (.var 1) .nil)) (.int 4)) (.cons (.ret (.callL 0 (.cons (.idx (.var 1) (.int 0)) (.cons (.idx (.var 1) (.int 1)) (.cons (.idx (.var 1) (.int 2)) (.cons (.idx (.var 1) (.int 3)) .nil)))))) .nil) (.nil)) (.cons (.ret (.callL 0 (.cons (.idx (.var 1) (.int 0)) (.cons (.idx (.var 1) (.int 1)) (.cons (.idx (.var 1) (.int 2)) (.cons (.idx (.var 1) (.int 3)) (.cons (.idx (.var 1) (.int 4)) .nil))))))) .nil)))), rm := false }
def i31 : DI := ⟨c31, ["door", "goods_so"], ["door", "goods_so"], ⟨("_law_call", none), "_law_call", "_law_call", defArgs (top 38), defBody (top 38), defScope (top 38), [], []⟩⟩
/-- _law_cut -/
def c32 : CDef := { np := 2, ns := 5, body := .cons (.par2 3 4 (.blt .abs (.cons (.var 0) .nil)) (.blt .abs (.cons (.var 1) .nil))) (.cons (.while_ (.cmp .Gt (.var 4) (.int 0)) (.cons (.par2 3 4 (.var 4) (.bin .Mod (.var 3) (.var 4))) .nil)) (.cons (.asg (.name 2) (.ife (.cmp .Gt (.var 1) (.int 0)) (.int 1) (.neg (.int 1)))) (.cons (.ret (.tup (.cons (.bin .FloorDiv (.bin .Mult (.var 2) (.var 0)) (.var 3)) (.cons (.bin .FloorDiv (.bin .Mult (.var 2) (.var 1)) (.var 3)) .nil)))) .nil))), rm := false }
def i32 : DI := ⟨c32, ["upper_so", "lower_so", "sign_so", "a", "b"], ["upper_so", "lower_so"], ⟨("_law_cut", none), "_law_cut", "_law_cut", defArgs (top 39), defBody (top 39), defScope (top 39), [], []⟩⟩
/-- _law_plus -/
def c33 : CDef := { np := 2, ns := 2, body := .cons (.ret (.call 32 (.cons (.bin .Add (.bin .Mult (.idx (.var 0) (.int 0)) (.idx (.var 1) (.int 1))) (.bin .Mult (.idx (.var 1) (.int 0)) (.idx (.var 0) (.int 1)))) (.cons (.bin .Mult (.idx (.var 0) (.int 1)) (.idx (.var 1) (.int 1))) .nil)))) .nil, rm := false }
def i33 : DI := ⟨c33, ["one", "two"], ["one", "two"], ⟨("_law_plus", none), "_law_plus", "_law_plus", defArgs (top 40), defBody (top 40), defScope (top 40), [], []⟩⟩
/-- _law_by -/
def c34 : CDef := { np := 2, ns := 2, body := .cons (.ret (.call 32 (.cons (.bin .Mult (.idx (.var 0) (.int 0)) (.idx (.var 1) (.int 0))) (.cons (.bin .Mult (.idx (.var 0) (.int 1)) (.idx (.var 1) (.int 1))) .nil)))) .nil, rm := false }
def i34 : DI := ⟨c34, ["one", "two"], ["one", "two"], ⟨("_law_by", none), "_law_by", "_law_by", defArgs (top 41), defBody (top 41), defScope (top 41), [], []⟩⟩
/-- _law_up_to -/
def c35 : CDef := { np := 2, ns := 2, body := .cons (.ret (.cmp .LtE (.bin .Mult (.idx (.var 0) (.int 0)) (.idx (.var 1) (.int 1))) (.bin .Mult (.idx (.var 1) (.int 0)) (.idx (.var 0) (.int 1))))) .nil, rm := false }
def i35 : DI := ⟨c35, ["one", "two"], ["one", "two"], ⟨("_law_up_to", none), "_law_up_to", "_law_up_to", defArgs (top 42), defBody (top 42), defScope (top 42), [], []⟩⟩
/-- _law_heard -/
def c36 : CDef := { np := 2, ns := 6, body := .cons (.asg (.tup [.name 4, .name 5]) (.tup (.cons (.non) (.cons (.non) .nil)))) (.cons (.try_ (.cons (.asg (.name 5) (.call 30 (.cons (.call 31 (.cons (.var 0) (.cons (.var 1) .nil))) .nil))) .nil) (.cons 0 (some 2) (.asg 4 (.lv (.disp (.cons (.str "cannot") (.cons (.excIs 2) .nil))))) (.cons 1 (some 3) (.asg 4 (.lv (.disp (.cons (.str "unfit") (.cons (.excIs 3) .nil))))) (.nil)))) (.cons (.ret (.ife (.cmp .Is (.var 4) (.non)) (.var 5) (.var 4))) .nil)), rm := false }
def i36 : DI := ⟨c36, ["door", "goods_so", "error_a", "error_b", "caught", "told_so"], ["door", "goods_so"], ⟨("_law_heard", none), "_law_heard", "_law_heard", defArgs (top 43), defBody (top 43), defScope (top 43), [], []⟩⟩
/-- _law_drawn -/
def c37 : CDef := { np := 1, ns := 2, body := .cons (.asg (.name 1) (.call 27 (.cons (.var 0) (.cons (.lv (.disp (.cons (.int 3) (.cons (.int 10) (.cons (.int 100) (.cons (.bin .Pow (.int 10) (.int 9)) .nil)))))) .nil)))) (.cons (.ret (.call 32 (.cons (.bin .Sub (.call 25 (.cons (.var 0) (.cons (.bin .Add (.bin .Mult (.int 2) (.var 1)) (.int 1)) .nil))) (.var 1)) (.cons (.bin .Add (.int 1) (.call 25 (.cons (.var 0) (.cons (.var 1) .nil)))) .nil)))) .nil), rm := false }
def i37 : DI := ⟨c37, ["tin", "wide_so"], ["tin"], ⟨("_law_drawn", none), "_law_drawn", "_law_drawn", defArgs (top 44), defBody (top 44), defScope (top 44), [], []⟩⟩
/-- _law_two_right -/
def c38 : CDef := { np := 2, ns := 4, body := .cons (.asg (.name 2) (.lv (.disp (.cons (.callK 17 (.nil) (.cons (.call 28 (.cons (.var 0) .nil)) (.cons (.var 1) .nil)) [0, 1]) (.cons (.callK 18 (.nil) (.cons (.call 28 (.cons (.var 1) .nil)) (.cons (.var 0) .nil)) [1, 0]) (.cons (.call 36 (.cons (.fn 19) (.cons (.tup (.cons (.var 0) (.cons (.var 1) .nil))) .nil))) .nil)))))) (.cons (.asg (.name 2) (.bin .Add (.var 2) (.lv (.disp (.cons (.callK 20 (.nil) (.cons (.var 0) (.cons (.call 28 (.cons (.var 1) .nil)) .nil)) [0, 1]) (.cons (.call 20 (.cons (.var 1) (.cons (.var 0) .nil))) (.cons (.callK 14 (.nil) (.cons (.var 0) .nil) [0]) (.cons (.call 14 (.cons (.call 28 (.cons (.var 1) .nil)) .nil)) .nil)))))))) (.cons (.asg (.name 3) (.ife (.cmp .Eq (.var 1) (.tup (.cons (.int 0) (.cons (.int 1) .nil)))) (.lv (.disp (.cons (.str "cannot") (.cons (.bl true) .nil)))) (.call 32 (.cons (.bin .Mult (.idx (.var 0) (.int 0)) (.idx (.var 1) (.int 1))) (.cons (.bin .Mult (.idx (.var 0) (.int 1)) (.idx (.var 1) (.int 0))) .nil))))) (.cons (.ret (.call 29 (.cons (.var 2) (.cons (.lv (.disp (.cons (.call 33 (.cons (.var 0) (.cons (.var 1) .nil))) (.cons (.call 34 (.cons (.var 0) (.cons (.var 1) .nil))) (.cons (.var 3) (.cons (.call 35 (.cons (.var 0) (.cons (.var 1) .nil))) (.cons (.call 35 (.cons (.var 1) (.cons (.var 0) .nil))) (.cons (.bl true) (.cons (.bl false) .nil))))))))) .nil)))) .nil))), rm := false }
def i38 : DI := ⟨c38, ["one", "two", "got", "by_so"], ["one", "two"], ⟨("_law_two_right", none), "_law_two_right", "_law_two_right", defArgs (top 45), defBody (top 45), defScope (top 45), [], []⟩⟩
/-- _law_whole_right -/
def c39 : CDef := { np := 1, ns := 6, body := .cons (.asg (.tup [.name 4, .name 5]) (.var 0)) (.cons (.asg (.name 1) (.lv (.disp (.cons (.callK 21 (.nil) (.cons (.call 28 (.cons (.var 0) .nil)) .nil) [0]) (.cons (.callK 22 (.nil) (.cons (.var 0) .nil) [0]) (.cons (.call 23 (.cons (.var 0) .nil)) .nil)))))) (.cons (.asg (.name 2) (.bin .FloorDiv (.var 4) (.var 5))) (.cons (.asg (.name 3) (.bin .Add (.var 2) (.blt .toInt (.cons (.cmp .GtE (.bin .Mult (.int 2) (.bin .Sub (.var 4) (.bin .Mult (.var 2) (.var 5)))) (.var 5)) .nil)))) (.cons (.ret (.call 29 (.cons (.var 1) (.cons (.lv (.disp (.cons (.var 2) (.cons (.bin .Add (.var 2) (.blt .toInt (.cons (.cmp .NotEq (.bin .Mod (.var 4) (.var 5)) (.int 0)) .nil))) (.cons (.var 3) .nil))))) .nil)))) .nil)))), rm := false }
def i39 : DI := ⟨c39, ["one", "got", "below_so", "next_so", "p", "q"], ["one"], ⟨("_law_whole_right", none), "_law_whole_right", "_law_whole_right", defArgs (top 46), defBody (top 46), defScope (top 46), [], []⟩⟩
/-- law -/
def c40 : CDef := { np := 1, ns := 12, body := .cons (.asg (.name 1) (.call 24 (.cons (.call 26 (.cons (.var 0) (.cons (.int 1) .nil))) (.cons (.int 0) .nil)))) (.cons (.for_ (.name 2) (.rng1 (.int 6)) (.cons (.par2 6 7 (.call 37 (.cons (.var 1) .nil)) (.call 27 (.cons (.var 1) (.cons (.lv (.disp (.cons (.call 37 (.cons (.var 1) .nil)) (.cons (.tup (.cons (.int 0) (.cons (.int 1) .nil))) (.cons (.call 37 (.cons (.var 1) .nil)) .nil))))) .nil)))) (.cons (.par2 8 9 (.bin .Sub (.call 25 (.cons (.var 1) (.cons (.int 41) .nil))) (.int 20)) (.bin .Sub (.call 25 (.cons (.var 1) (.cons (.int 21) .nil))) (.int 10))) (.cons (.asg (.name 5) (.ife (.cmp .Eq (.var 9) (.int 0)) (.lv (.disp (.cons (.str "cannot") (.cons (.bl true) .nil)))) (.call 32 (.cons (.var 8) (.cons (.var 9) .nil))))) (.cons (.ife (.or (.cons (.not (.tru (.call 29 (.cons (.call 36 (.cons (.fn 15) (.cons (.tup (.cons (.var 8) (.cons (.var 9) .nil))) .nil))) (.cons (.var 5) .nil))))) (.cons (.not (.tru (.call 38 (.cons (.var 6) (.cons (.var 7) .nil))))) (.cons (.not (.tru (.call 39 (.cons (.var 6) .nil)))) .nil)))) (.cons (.ret (.bl false)) .nil) (.nil)) .nil))))) (.cons (.asg (.name 3) (.lv (.disp (.cons (.tup (.cons (.int 2) (.cons (.int 4) .nil))) (.cons (.tup (.cons (.int 0) (.cons (.int 2) .nil))) (.cons (.tup (.cons (.int 1) (.cons (.int 0) .nil))) (.cons (.tup (.cons (.int 1) (.cons (.neg (.int 2)) .nil))) (.cons (.tup (.cons (.bl true) (.cons (.int 2) .nil))) (.cons (.tup (.cons (.int 1) (.cons (.bl true) .nil))) (.cons (.tup (.cons (.int 1) (.cons (.int 2) (.cons (.int 3) .nil)))) (.cons (.tup (.cons (.int 1) .nil)) (.cons (.tup (.nil)) (.cons (.non) (.cons (.int 5) (.cons (.str "half") (.cons (.tup (.cons (.str "1") (.cons (.int 2) .nil))) (.cons (.tup (.cons (.tup (.cons (.int 1) (.cons (.int 2) .nil))) (.cons (.int 1) .nil))) .nil))))))))))))))))) (.cons (.asg (.name 4) (.lm (.disp (.cons (.lv (.comp (.call 14 (.cons (.var 10) .nil)) (.name 10) (.seq (.var 3)) (.none) [10])) (.cons (.lv (.comp (.call 36 (.cons (.fn 21) (.cons (.tup (.cons (.var 10) .nil)) .nil))) (.name 10) (.seq (.var 3)) (.none) [10])) .nil))))) (.cons (.app (.var 4) (.lv (.comp (.call 36 (.cons (.var 10) (.cons (.var 11) .nil))) (.tup [.name 10, .name 11]) (.seq (.tup (.cons (.tup (.cons (.fn 17) (.cons (.tup (.cons (.tup (.cons (.int 1) (.cons (.int 2) .nil))) (.cons (.non) .nil))) .nil))) (.cons (.tup (.cons (.fn 19) (.cons (.tup (.cons (.tup (.cons (.int 2) (.cons (.int 4) .nil))) (.cons (.tup (.cons (.int 0) (.cons (.int 1) .nil))) .nil))) .nil))) (.cons (.tup (.cons (.fn 15) (.cons (.tup (.cons (.int 1) (.cons (.non) .nil))) .nil))) (.cons (.tup (.cons (.fn 15) (.cons (.tup (.cons (.bl true) (.cons (.int 0) .nil))) .nil))) (.cons (.tup (.cons (.fn 19) (.cons (.tup (.cons (.tup (.cons (.int 1) (.cons (.int 2) .nil))) (.cons (.tup (.cons (.int 0) (.cons (.int 1) .nil))) .nil))) .nil))) .nil))))))) (.none) [10, 11]))) (.cons (.ret (.call 29 (.cons (.frz (.var 4)) (.cons (.lv (.disp (.cons (.bin .Mult (.lv (.disp (.cons (.bl false) .nil))) (.int 14)) (.cons (.bin .Mult (.lv (.disp (.cons (.lv (.disp (.cons (.str "unfit") (.cons (.bl true) .nil)))) .nil))) (.int 14)) (.cons (.bin .Add (.bin .Mult (.lv (.disp (.cons (.lv (.disp (.cons (.str "unfit") (.cons (.bl true) .nil)))) .nil))) (.int 4)) (.lv (.disp (.cons (.lv (.disp (.cons (.str "cannot") (.cons (.bl true) .nil)))) .nil)))) .nil))))) .nil)))) .nil))))), rm := false }
def i40 : DI := ⟨c40, ["script", "tin", "lap", "odd_so", "got", "due", "one", "two", "upper_so", "lower_so", "own", "its"], ["script"], ⟨("law", none), "law", "law", defArgs (top 47), defBody (top 47), defScope (top 47), [], []⟩⟩
def t : Txt := ⟨[i0, i1, i2, i3, i4, i5, i6, i7, i8, i9, i10, i11, i12, i13, i14, i15, i16, i17, i18, i19, i20, i21, i22, i23, i24, i25, i26, i27, i28, i29, i30, i31, i32, i33, i34, i35, i36, i37, i38, i39, i40], ["CanNot", "Unfit"], [("NOUGHT", .tup [.int (0), .int (1)])], ["ValueError", "abs", "all", "bool", "enumerate", "int", "isinstance", "len", "list", "range", "str", "tuple", "zip"], [(17, 0, ["one", "other"], [0, 1]), (18, 0, ["other", "one"], [1, 0]), (20, 0, ["one", "other"], [0, 1]), (14, 0, ["thing"], [0]), (21, 0, ["fraction"], [0]), (22, 0, ["fraction"], [0])]⟩
theorem okDefs : t.L.all t.okDI = true := by decide +kernel
abbrev Bnd (i : DI) : Prop := ∀ (kV doc pm : Value) (an : Option Addr) (cdv ct : Value) (us : List Value), us.length = i.ps.length → bindArgs (PySem.W.fnOf i.d.name i.d.qual i.d.params i.d.body i.d.scope .none kV doc pm an cdv ct) ⟨us, []⟩ = pure (i.ps.zip us)
abbrev Bkw (n : Nat) (ks : List Str) (p : List Nat) (i : DI) : Prop := ∀ (kV doc pm : Value) (an : Option Addr) (cdv ct : Value) (us ws zs : List Value), us.length = n → ws.length = ks.length → pickL (us ++ ws) p = some zs → zs.length = i.ps.length → bindArgs (PySem.W.fnOf i.d.name i.d.qual i.d.params i.d.body i.d.scope .none kV doc pm an cdv ct) ⟨us, ks.zip ws⟩ = pure (i.ps.zip zs)
theorem b0 : Bnd i0 := fun _ _ _ _ _ _ us hl => match us, hl with | [_], _ => rfl
theorem b1 : Bnd i1 := fun _ _ _ _ _ _ us hl => match us, hl with | [_, _], _ => rfl
theorem b2 : Bnd i2 := fun _ _ _ _ _ _ us hl => match us, hl with | [_], _ => rfl
theorem b3 : Bnd i3 := fun _ _ _ _ _ _ us hl => match us, hl with | [_, _], _ => rfl
theorem b4 : Bnd i4 := fun _ _ _ _ _ _ us hl => match us, hl with | [_], _ => rfl
theorem b5 : Bnd i5 := fun _ _ _ _ _ _ us hl => match us, hl with | [_], _ => rfl
theorem b6 : Bnd i6 := fun _ _ _ _ _ _ us hl => match us, hl with | [_, _], _ => rfl
theorem b7 : Bnd i7 := fun _ _ _ _ _ _ us hl => match us, hl with | [_, _], _ => rfl
theorem b8 : Bnd i8 := fun _ _ _ _ _ _ us hl => match us, hl with | [_, _], _ => rfl
theorem b9 : Bnd i9 := fun _ _ _ _ _ _ us hl => match us, hl with | [_, _], _ => rfl
theorem b10 : Bnd i10 := fun _ _ _ _ _ _ us hl => match us, hl with | [_, _], _ => rfl
theorem b11 : Bnd i11 := fun _ _ _ _ _ _ us hl => match us, hl with | [_], _ => rfl
theorem b12 : Bnd i12 := fun _ _ _ _ _ _ us hl => match us, hl with | [_], _ => rfl
theorem b13 : Bnd i13 := fun _ _ _ _ _ _ us hl => match us, hl with | [_], _ => rfl
theorem b14 : Bnd i14 := fun _ _ _ _ _ _ us hl => match us, hl with | [_], _ => rfl
theorem b15 : Bnd i15 := fun _ _ _ _ _ _ us hl => match us, hl with | [_, _], _ => rfl
theorem b16 : Bnd i16 := fun _ _ _ _ _ _ us hl => match us, hl with | [_, _], _ => rfl
theorem b17 : Bnd i17 := fun _ _ _ _ _ _ us hl => match us, hl with | [_, _], _ => rfl
theorem b18 : Bnd i18 := fun _ _ _ _ _ _ us hl => match us, hl with | [_, _], _ => rfl
theorem b19 : Bnd i19 := fun _ _ _ _ _ _ us hl => match us, hl with | [_, _], _ => rfl
theorem b20 : Bnd i20 := fun _ _ _ _ _ _ us hl => match us, hl with | [_, _], _ => rfl
theorem b21 : Bnd i21 := fun _ _ _ _ _ _ us hl => match us, hl with | [_], _ => rfl
theorem b22 : Bnd i22 := fun _ _ _ _ _ _ us hl => match us, hl with | [_], _ => rfl
theorem b23 : Bnd i23 := fun _ _ _ _ _ _ us hl => match us, hl with | [_], _ => rfl
theorem b24 : Bnd i24 := fun _ _ _ _ _ _ us hl => match us, hl with | [_, _], _ => rfl
theorem b25 : Bnd i25 := fun _ _ _ _ _ _ us hl => match us, hl with | [_, _], _ => rfl
theorem b26 : Bnd i26 := fun _ _ _ _ _ _ us hl => match us, hl with | [_, _], _ => rfl
theorem b27 : Bnd i27 := fun _ _ _ _ _ _ us hl => match us, hl with | [_, _], _ => rfl
theorem b28 : Bnd i28 := fun _ _ _ _ _ _ us hl => match us, hl with | [_], _ => rfl
theorem b29 : Bnd i29 := fun _ _ _ _ _ _ us hl => match us, hl with | [_, _], _ => rfl
theorem b30 : Bnd i30 := fun _ _ _ _ _ _ us hl => match us, hl with | [_], _ => rfl
theorem b31 : Bnd i31 := fun _ _ _ _ _ _ us hl => match us, hl with | [_, _], _ => rfl
theorem b32 : Bnd i32 := fun _ _ _ _ _ _ us hl => match us, hl with | [_, _], _ => rfl
theorem b33 : Bnd i33 := fun _ _ _ _ _ _ us hl => match us, hl with | [_, _], _ => rfl
theorem b34 : Bnd i34 := fun _ _ _ _ _ _ us hl => match us, hl with | [_, _], _ => rfl
theorem b35 : Bnd i35 := fun _ _ _ _ _ _ us hl => match us, hl with | [_, _], _ => rfl
theorem b36 : Bnd i36 := fun _ _ _ _ _ _ us hl => match us, hl with | [_, _], _ => rfl
theorem b37 : Bnd i37 := fun _ _ _ _ _ _ us hl => match us, hl with | [_], _ => rfl
theorem b38 : Bnd i38 := fun _ _ _ _ _ _ us hl => match us, hl with | [_, _], _ => rfl
theorem b39 : Bnd i39 := fun _ _ _ _ _ _ us hl => match us, hl with | [_], _ => rfl
theorem b40 : Bnd i40 := fun _ _ _ _ _ _ us hl => match us, hl with | [_], _ => rfl
theorem kw0 : Bkw 0 ["one", "other"] [0, 1] i17 := fun _ _ _ _ _ _ us ws zs h1 h2 h3 _ => match us, ws, h1, h2, h3 with | [], [_, _], _, _, h3 => by cases h3; rfl
theorem kw1 : Bkw 0 ["other", "one"] [1, 0] i18 := fun _ _ _ _ _ _ us ws zs h1 h2 h3 _ => match us, ws, h1, h2, h3 with | [], [_, _], _, _, h3 => by cases h3; rfl
theorem kw2 : Bkw 0 ["one", "other"] [0, 1] i20 := fun _ _ _ _ _ _ us ws zs h1 h2 h3 _ => match us, ws, h1, h2, h3 with | [], [_, _], _, _, h3 => by cases h3; rfl
theorem kw3 : Bkw 0 ["thing"] [0] i14 := fun _ _ _ _ _ _ us ws zs h1 h2 h3 _ => match us, ws, h1, h2, h3 with | [], [_], _, _, h3 => by cases h3; rfl
theorem kw4 : Bkw 0 ["fraction"] [0] i21 := fun _ _ _ _ _ _ us ws zs h1 h2 h3 _ => match us, ws, h1, h2, h3 with | [], [_], _, _, h3 => by cases h3; rfl
theorem kw5 : Bkw 0 ["fraction"] [0] i22 := fun _ _ _ _ _ _ us ws zs h1 h2 h3 _ => match us, ws, h1, h2, h3 with | [], [_], _, _, h3 => by cases h3; rfl
theorem binds : ∀ i ∈ t.L, Bnd i := List.forall_mem_cons.mpr ⟨b0, List.forall_mem_cons.mpr ⟨b1, List.forall_mem_cons.mpr ⟨b2, List.forall_mem_cons.mpr ⟨b3, List.forall_mem_cons.mpr ⟨b4, List.forall_mem_cons.mpr ⟨b5, List.forall_mem_cons.mpr ⟨b6, List.forall_mem_cons.mpr ⟨b7, List.forall_mem_cons.mpr ⟨b8, List.forall_mem_cons.mpr ⟨b9, List.forall_mem_cons.mpr ⟨b10, List.forall_mem_cons.mpr ⟨b11, List.forall_mem_cons.mpr ⟨b12, List.forall_mem_cons.mpr ⟨b13, List.forall_mem_cons.mpr ⟨b14, List.forall_mem_cons.mpr ⟨b15, List.forall_mem_cons.mpr ⟨b16, List.forall_mem_cons.mpr ⟨b17, List.forall_mem_cons.mpr ⟨b18, List.forall_mem_cons.mpr ⟨b19, List.forall_mem_cons.mpr ⟨b20, List.forall_mem_cons.mpr ⟨b21, List.forall_mem_cons.mpr ⟨b22, List.forall_mem_cons.mpr ⟨b23, List.forall_mem_cons.mpr ⟨b24, List.forall_mem_cons.mpr ⟨b25, List.forall_mem_cons.mpr ⟨b26, List.forall_mem_cons.mpr ⟨b27, List.forall_mem_cons.mpr ⟨b28, List.forall_mem_cons.mpr ⟨b29, List.forall_mem_cons.mpr ⟨b30, List.forall_mem_cons.mpr ⟨b31, List.forall_mem_cons.mpr ⟨b32, List.forall_mem_cons.mpr ⟨b33, List.forall_mem_cons.mpr ⟨b34, List.forall_mem_cons.mpr ⟨b35, List.forall_mem_cons.mpr ⟨b36, List.forall_mem_cons.mpr ⟨b37, List.forall_mem_cons.mpr ⟨b38, List.forall_mem_cons.mpr ⟨b39, List.forall_mem_cons.mpr ⟨b40, fun _ h => nomatch h⟩⟩⟩⟩⟩⟩⟩⟩⟩⟩⟩⟩⟩⟩⟩⟩⟩⟩⟩⟩⟩⟩⟩⟩⟩⟩⟩⟩⟩⟩⟩⟩⟩⟩⟩⟩⟩⟩⟩⟩⟩
theorem kws : ∀ e ∈ t.kws, ∀ i, t.L[e.1]? = some i → Bkw e.2.1 e.2.2.1 e.2.2.2 i := List.forall_mem_cons.mpr ⟨fun i h => by cases h; exact kw0, List.forall_mem_cons.mpr ⟨fun i h => by cases h; exact kw1, List.forall_mem_cons.mpr ⟨fun i h => by cases h; exact kw2, List.forall_mem_cons.mpr ⟨fun i h => by cases h; exact kw3, List.forall_mem_cons.mpr ⟨fun i h => by cases h; exact kw4, List.forall_mem_cons.mpr ⟨fun i h => by cases h; exact kw5, fun _ h => nomatch h⟩⟩⟩⟩⟩⟩
theorem ok : t.Ok := ⟨okDefs, by decide +kernel, binds, kws⟩
end K0
namespace K0
open PySem PySem.Spec PyProof.Rows L2 Dx
def lo0 : List Str := ["CanNot", "Unfit", "is_number", "is_long", "tupled", "common_divisor", "NOUGHT", "is_fraction_in", "sure_fraction", "reduced", "plus", "times", "over", "is_at_most", "floor_in", "ceiling_in", "nearest_in", "is_fraction", "fraction_of", "sure_two", "fraction_sum", "fraction_product", "fraction_quotient", "is_not_above", "whole_below", "whole_above", "whole_next", "_law_box", "_law_take", "_law_cells"]
def lo1 : List Str := ["_law_of", "_law_lists", "_law_same", "_law_unmarked", "_law_call", "_law_cut", "_law_plus", "_law_by", "_law_up_to", "_law_heard", "_law_drawn", "_law_two_right", "_law_whole_right"]
def loose : List Str := lo0 ++ lo1
abbrev Row0 : PySem.W.OpenRow := PySem.W.OpenLaw.row PySem.Challenge.rw_wholenear_k00_whole_fractions
theorem run (w : World) : HandSHeadRun.RunEq Row0 (PySem.W.view Row0.prog [47]) (t.hk 4) (t.ob 4) 4000 loose w := by
  intro os
  kernel_rfl
theorem law_of (ok1 : ∀ l : List Int, l.length ≤ 63 → ∃ m, t.call 60 40 [scrD l] [] = .ok (.bl true) m) : PySem.Challenge.rw_wholenear_k00_whole_fractions.Holds := by
  w_on; o_law
  refine HandSHeadRun.head_any (r := PySem.W.OpenLaw.row PySem.Challenge.rw_wholenear_k00_whole_fractions) (q := PySem.W.view (PySem.W.OpenLaw.row PySem.Challenge.rw_wholenear_k00_whole_fractions).prog [47]) (H := t.hk 4) (ob := t.ob 4) (M := 4000) (loose := loose) (d := HandSHeadRun.topDef (PySem.W.OpenLaw.row PySem.Challenge.rw_wholenear_k00_whole_fractions).prog 47) (kwd := []) (t.ob_eq 4)
    (by kernel_rfl) (fun s => by kernel_rfl) run (by kernel_rfl) (by kernel_rfl) (by kernel_rfl) (by rfl) (by first | assumption | decide +kernel) (by decide +kernel) ⟨rfl, rfl, rfl, rfl, rfl, by decide +kernel⟩ ?hw ?hc
  case hw => w_witness2
  case hc => exact law_end (l := PySem.Challenge.rw_wholenear_k00_whole_fractions) (n := 63) (k := 60) (i := 40) (t := t) (x := "script") (Di := i40) ok rfl rfl (by kernel_rfl) rfl (by decide) (by kernel_rfl) ⟨rfl, by decide, by decide⟩ ok1
end K0
namespace K0
open PySem Dx
def endC (rm : Bool) (n : Nat) : SRes → Res D
  | .ret v m' => finish rm n v m'
  | .nx _ m' => finish rm n .non m'
  | .err x _ m' => .err x (m'.take n)
  | _ => .bad
abbrev cf (k : Nat) (m : M) : Cfg := ⟨t.call k, t.glob, m.length, 41, 2⟩
theorem call_S {f k : Nat} {ds : List D} {m : M} (d : CDef) (hd : t.defs[f]? = some d) (hl : ds.length = d.np) :
    t.call (k + 1) f ds m = endC d.rm m.length (evSs (cf k m) d.body (ds.map some ++ List.replicate (d.ns - d.np) none) m) := by
  show callF t.defs t.glob 2 (k + 1) f ds m = _
  unfold callF
  rw [hd]
  dsimp only
  rw [if_pos hl]
  show (match evSs (cf k m) _ _ _ with | .ret v m' => _ | .nx _ m' => _ | .err x _ m' => _ | _ => _) = _
  cases evSs (cf k m) d.body (ds.map some ++ List.replicate (d.ns - d.np) none) m <;> rfl
theorem seq_nx {c : Cfg} {s : CS} {ss : CSs} {e e' : Env'} {m m' : M} (h : evS c s e m = .nx e' m') : evSs c (.cons s ss) e m = evSs c ss e' m' := by
  show (match evS c s e m with | .nx e m => evSs c ss e m | r => r) = _
  rw [h]
abbrev I (a : Int) : D := .int a
abbrev F (p q : Int) : D := .tup [.int p, .int q]
abbrev B (b : Bool) : D := .bl b
theorem num_int (k : Nat) (a : Int) (m : M) : t.call (k + 1) 0 [I a] m = .ok (B true) m := by
  rw [call_S c0 rfl rfl]
  simp [c0, evSs, evS, evE, evEs, evT, evTAnd, evTOr, evTo, evL, evI, evO, evAnds, evOrs, Res.bind, Res.of, Res.noErr, Res.toS, getV, evBin, evAdd, evSub, evMul, evFdiv, evMod, evCmp, cmpI, evEq, evIs, isNon, evIdx, ixD, itemsOf, lstOf, evBlt, one, two, evAbs, evToInt, evTru, evIsI, tyOf, isTy, lineOk, assignTg, assignTgs, compL, consO, wipeE, okD, okDs, eqd, eqds, pickL, endC, Dx.finish, nrD, nrDs, allBl]
theorem long_two (k : Nat) (a b : D) (m : M) : t.call (k + 1) 1 [.tup [a, b], I 2] m = .ok (B true) m := by
  rw [call_S c1 rfl rfl]
  simp [c1, evSs, evS, evE, evEs, evT, evTAnd, evTOr, evTo, evL, evI, evO, evAnds, evOrs, Res.bind, Res.of, Res.noErr, Res.toS, getV, evBin, evAdd, evSub, evMul, evFdiv, evMod, evCmp, cmpI, evEq, evIs, isNon, evIdx, ixD, itemsOf, lstOf, evBlt, one, two, evAbs, evToInt, evTru, evIsI, tyOf, isTy, lineOk, assignTg, assignTgs, compL, consO, wipeE, okD, okDs, eqd, eqds, pickL, endC, Dx.finish, nrD, nrDs, allBl]
theorem long_lst (k : Nat) (xs : List D) (m : M) : t.call (k + 1) 1 [.lst xs, I 2] m = .ok (B false) m := by
  rw [call_S c1 rfl rfl]
  simp [c1, evSs, evS, evE, evEs, evT, evTAnd, evTOr, evTo, evL, evI, evO, evAnds, evOrs, Res.bind, Res.of, Res.noErr, Res.toS, getV, evBin, evAdd, evSub, evMul, evFdiv, evMod, evCmp, cmpI, evEq, evIs, isNon, evIdx, ixD, itemsOf, lstOf, evBlt, one, two, evAbs, evToInt, evTru, evIsI, tyOf, isTy, lineOk, assignTg, assignTgs, compL, consO, wipeE, okD, okDs, eqd, eqds, pickL, endC, Dx.finish, nrD, nrDs, allBl]
theorem tup_int (k : Nat) (a : Int) (m : M) : t.call (k + 1) 2 [I a] m = .ok (I a) m := by
  rw [call_S c2 rfl rfl]
  simp [c2, evSs, evS, evE, evEs, evT, evTAnd, evTOr, evTo, evL, evI, evO, evAnds, evOrs, Res.bind, Res.of, Res.noErr, Res.toS, getV, evBin, evAdd, evSub, evMul, evFdiv, evMod, evCmp, cmpI, evEq, evIs, isNon, evIdx, ixD, itemsOf, lstOf, evBlt, one, two, evAbs, evToInt, evTru, evIsI, tyOf, isTy, lineOk, assignTg, assignTgs, compL, consO, wipeE, okD, okDs, eqd, eqds, pickL, endC, Dx.finish, nrD, nrDs, allBl]
theorem tup_tup (k : Nat) (a b : Int) (m : M) : t.call (k + 2) 2 [F a b] m = .ok (F a b) m := by
  rw [call_S c2 rfl rfl]
  simp [c2, evSs, evS, evE, evEs, evT, evTAnd, evTOr, evTo, evL, evI, evO, evAnds, evOrs, Res.bind, Res.of, Res.noErr, Res.toS, getV, evBin, evAdd, evSub, evMul, evFdiv, evMod, evCmp, cmpI, evEq, evIs, isNon, evIdx, ixD, itemsOf, lstOf, evBlt, one, two, evAbs, evToInt, evTru, evIsI, tyOf, isTy, lineOk, assignTg, assignTgs, compL, consO, wipeE, okD, okDs, eqd, eqds, pickL, endC, Dx.finish, nrD, nrDs, allBl, tup_int]
theorem tup_lst (k : Nat) (a b : Int) (m : M) : t.call (k + 2) 2 [.lst [I a, I b]] m = .ok (F a b) m := by
  rw [call_S c2 rfl rfl]
  simp [c2, evSs, evS, evE, evEs, evT, evTAnd, evTOr, evTo, evL, evI, evO, evAnds, evOrs, Res.bind, Res.of, Res.noErr, Res.toS, getV, evBin, evAdd, evSub, evMul, evFdiv, evMod, evCmp, cmpI, evEq, evIs, isNon, evIdx, ixD, itemsOf, lstOf, evBlt, one, two, evAbs, evToInt, evTru, evIsI, tyOf, isTy, lineOk, assignTg, assignTgs, compL, consO, wipeE, okD, okDs, eqd, eqds, pickL, endC, Dx.finish, nrD, nrDs, allBl, tup_int]
theorem abs_nat (a : Int) : (if a < 0 then -a else a) = (a.natAbs : Int) := by
  split <;> omega
/-- the loop of both divisor functions -/
theorem gcd_loop {T : Env' → M → Res Bool} {b : Env' → M → SRes} {E : Int → Int → Env'} {m : M} (hT : ∀ x y, T (E x y) m = .ok (decide (0 < y)) m) (hb : ∀ x y, 0 < y → b (E x y) m = .nx (E y (x % y)) m) :
    ∀ (n : Nat) (x y : Nat), y < n → whileN T b n (E x y) m = .nx (E (Nat.gcd x y : Nat) 0) m
  | 0, x, y, h => by omega
  | n + 1, x, y, h => by
    unfold whileN
    rw [hT]
    by_cases hy : y = 0
    · subst hy
      simp
    · have hp : (0 : Int) < y := by omega
      have hl : x % y < y := Nat.mod_lt _ (by omega)
      have ih := gcd_loop hT hb n y (x % y) (by omega)
      have e : ((x : Int) % (y : Int)) = ((x % y : Nat) : Int) := by omega
      simp only [hp, decide_true, hb _ _ hp]
      rw [e, ih, Nat.gcd_comm x y, Nat.gcd_rec y x, Nat.gcd_comm]
theorem whileMost_big {n : Nat} (h : n < 2 ^ 200) : n < whileMost := Nat.lt_of_lt_of_le h (Nat.pow_le_pow_right (by decide) (by decide))
abbrev Small (a : Int) : Prop := -(2 ^ 62) ≤ a ∧ a ≤ 2 ^ 62
theorem small_nat {a : Int} (h : Small a) : a.natAbs < whileMost := whileMost_big (by have := h.1; have := h.2; omega)
def g (a b : Int) : Int := (Int.gcd a b : Nat)
theorem cd (k : Nat) (a b : Int) (m : M) (h : Small b) : t.call (k + 1) 3 [I a, I b] m = .ok (I (g a b)) m := by
  rw [call_S c3 rfl rfl]
  have L := gcd_loop (m := m) (T := evT (cf k m) (.cmp .Gt (.var 1) (.int 0))) (b := evSs (cf k m) (.cons (.par2 0 1 (.var 1) (.bin .Mod (.var 0) (.var 1))) .nil)) (E := fun x y => [some (I x), some (I y)])
    (fun x y => by simp [evSs, evS, evE, evEs, evT, evTAnd, evTOr, evTo, evL, evI, evO, evAnds, evOrs, Res.bind, Res.of, Res.noErr, Res.toS, getV, evBin, evAdd, evSub, evMul, evFdiv, evMod, evCmp, cmpI, evEq, evIs, isNon, evIdx, ixD, itemsOf, lstOf, evBlt, one, two, evAbs, evToInt, evTru, evIsI, tyOf, isTy, lineOk, assignTg, assignTgs, compL, consO, wipeE, okD, okDs, eqd, eqds, pickL, endC, Dx.finish, nrD, nrDs, allBl]) (fun x y hy => by simp [evSs, evS, evE, evEs, evT, evTAnd, evTOr, evTo, evL, evI, evO, evAnds, evOrs, Res.bind, Res.of, Res.noErr, Res.toS, getV, evBin, evAdd, evSub, evMul, evFdiv, evMod, evCmp, cmpI, evEq, evIs, isNon, evIdx, ixD, itemsOf, lstOf, evBlt, one, two, evAbs, evToInt, evTru, evIsI, tyOf, isTy, lineOk, assignTg, assignTgs, compL, consO, wipeE, okD, okDs, eqd, eqds, pickL, endC, Dx.finish, nrD, nrDs, allBl, hy]) whileMost a.natAbs b.natAbs (small_nat h)
  refine (congrArg (endC false m.length) ?_).trans (b := endC false m.length (.ret (I (g a b)) m)) (by simp [endC, Dx.finish])
  show evSs (cf k m) c3.body [some (I a), some (I b)] m = _
  refine (seq_nx (e' := [some (I a.natAbs), some (I b.natAbs)]) (m' := m) (by simp [evSs, evS, evE, evEs, evT, evTAnd, evTOr, evTo, evL, evI, evO, evAnds, evOrs, Res.bind, Res.of, Res.noErr, Res.toS, getV, evBin, evAdd, evSub, evMul, evFdiv, evMod, evCmp, cmpI, evEq, evIs, isNon, evIdx, ixD, itemsOf, lstOf, evBlt, one, two, evAbs, evToInt, evTru, evIsI, tyOf, isTy, lineOk, assignTg, assignTgs, compL, consO, wipeE, okD, okDs, eqd, eqds, pickL, endC, Dx.finish, nrD, nrDs, allBl, abs_nat])).trans ?_
  refine (seq_nx (s := .while_ (.cmp .Gt (.var 1) (.int 0)) (.cons (.par2 0 1 (.var 1) (.bin .Mod (.var 0) (.var 1))) .nil)) (e' := [some (I (g a b)), some (I 0)]) (m' := m) L).trans ?_
  simp [evSs, evS, evE, evEs, evT, evTAnd, evTOr, evTo, evL, evI, evO, evAnds, evOrs, Res.bind, Res.of, Res.noErr, Res.toS, getV, evBin, evAdd, evSub, evMul, evFdiv, evMod, evCmp, cmpI, evEq, evIs, isNon, evIdx, ixD, itemsOf, lstOf, evBlt, one, two, evAbs, evToInt, evTru, evIsI, tyOf, isTy, lineOk, assignTg, assignTgs, compL, consO, wipeE, okD, okDs, eqd, eqds, pickL, endC, Dx.finish, nrD, nrDs, allBl]
/-! ### fractions -/
theorem frac_in (k : Nat) (p q : Int) (m : M) (hq : 1 ≤ q) (hs : Small q) (h1 : g p q = 1) : t.call (k + 2) 4 [F p q] m = .ok (B true) m := by
  rw [call_S c4 rfl rfl]
  simp [c4, evSs, evS, evE, evEs, evT, evTAnd, evTOr, evTo, evL, evI, evO, evAnds, evOrs, Res.bind, Res.of, Res.noErr, Res.toS, getV, evBin, evAdd, evSub, evMul, evFdiv, evMod, evCmp, cmpI, evEq, evIs, isNon, evIdx, ixD, itemsOf, lstOf, evBlt, one, two, evAbs, evToInt, evTru, evIsI, tyOf, isTy, lineOk, assignTg, assignTgs, compL, consO, wipeE, okD, okDs, eqd, eqds, pickL, endC, Dx.finish, nrD, nrDs, allBl, long_two, num_int, cd k p q m hs, h1, hq]
theorem frac_lst (k : Nat) (xs : List D) (m : M) : t.call (k + 2) 4 [.lst xs] m = .ok (B false) m := by
  rw [call_S c4 rfl rfl]
  simp [c4, evSs, evS, evE, evEs, evT, evTAnd, evTOr, evTo, evL, evI, evO, evAnds, evOrs, Res.bind, Res.of, Res.noErr, Res.toS, getV, evBin, evAdd, evSub, evMul, evFdiv, evMod, evCmp, cmpI, evEq, evIs, isNon, evIdx, ixD, itemsOf, lstOf, evBlt, one, two, evAbs, evToInt, evTru, evIsI, tyOf, isTy, lineOk, assignTg, assignTgs, compL, consO, wipeE, okD, okDs, eqd, eqds, pickL, endC, Dx.finish, nrD, nrDs, allBl, long_lst]
structure Good (p q : Int) : Prop where
  q1 : 1 ≤ q
  q2 : q ≤ 2 ^ 30
  p1 : -(2 ^ 30) ≤ p
  p2 : p ≤ 2 ^ 30
  co : g p q = 1
theorem Good.sq {p q : Int} (h : Good p q) : Small q := ⟨by have := h.q1; omega, by have := h.q2; omega⟩
theorem sure_tup (k : Nat) (p q : Int) (m : M) (h : Good p q) : t.call (k + 3) 5 [F p q] m = .ok (F p q) m := by
  rw [call_S c5 rfl rfl]
  simp [c5, evSs, evS, evE, evEs, evT, evTAnd, evTOr, evTo, evL, evI, evO, evAnds, evOrs, Res.bind, Res.of, Res.noErr, Res.toS, getV, evBin, evAdd, evSub, evMul, evFdiv, evMod, evCmp, cmpI, evEq, evIs, isNon, evIdx, ixD, itemsOf, lstOf, evBlt, one, two, evAbs, evToInt, evTru, evIsI, tyOf, isTy, lineOk, assignTg, assignTgs, compL, consO, wipeE, okD, okDs, eqd, eqds, pickL, endC, Dx.finish, nrD, nrDs, allBl, tup_tup, frac_in k p q m h.q1 h.sq h.co]
theorem sure_lst (k : Nat) (p q : Int) (m : M) (h : Good p q) : t.call (k + 3) 5 [.lst [I p, I q]] m = .ok (F p q) m := by
  rw [call_S c5 rfl rfl]
  simp [c5, evSs, evS, evE, evEs, evT, evTAnd, evTOr, evTo, evL, evI, evO, evAnds, evOrs, Res.bind, Res.of, Res.noErr, Res.toS, getV, evBin, evAdd, evSub, evMul, evFdiv, evMod, evCmp, cmpI, evEq, evIs, isNon, evIdx, ixD, itemsOf, lstOf, evBlt, one, two, evAbs, evToInt, evTru, evIsI, tyOf, isTy, lineOk, assignTg, assignTgs, compL, consO, wipeE, okD, okDs, eqd, eqds, pickL, endC, Dx.finish, nrD, nrDs, allBl, tup_lst, frac_in k p q m h.q1 h.sq h.co]
def sg (l : Int) : Int := if 0 < l then 1 else -1
abbrev R (u l : Int) : D := F (sg l * u / g u l) (sg l * l / g u l)
theorem mul_l {i j : Int} (h : Small i) : mulOk i j = true := by
  have := h.1; have := h.2
  unfold mulOk
  rw [show decide (-(2 ^ 64) < i) = true from decide_eq_true (by omega), show decide (i < 2 ^ 64) = true from decide_eq_true (by omega)]
  rfl
theorem mul_sg {l j : Int} : mulOk (sg l) j = true := mul_l (by unfold sg; split <;> exact ⟨by omega, by omega⟩)
theorem div_ok {j : Int} (h0 : 0 < j) (h : Small j) : divOk j = true := by
  have h2 := h.2
  have : j.natAbs.log2 < 9000 := by
    rw [Nat.log2_lt (by omega)]
    exact Nat.lt_of_lt_of_le (m := 2 ^ 63) (by omega) (Nat.pow_le_pow_right (by decide) (by decide))
  unfold divOk
  rw [decide_eq_true h0, decide_eq_true this]; rfl
theorem g_pos {u l : Int} (h : l ≠ 0) : 0 < g u l := by
  have := Int.gcd_pos_of_ne_zero_right u h
  unfold g; omega
theorem g_small {u l : Int} (h : l ≠ 0) (hs : Small l) : Small (g u l) := by
  have h1 := Int.gcd_le_natAbs_right u h
  have := hs.1; have := hs.2
  unfold g
  exact ⟨by omega, by omega⟩
theorem red_ (k : Nat) (u l : Int) (m : M) (hl : Small l) (h0 : l ≠ 0) : t.call (k + 2) 6 [I u, I l] m = .ok (R u l) m := by
  rw [call_S c6 rfl rfl]
  have e1 := div_ok (g_pos (u := u) h0) (g_small h0 hl)
  have m1 := fun j => mul_l (i := 1) (j := j) ⟨by omega, by omega⟩
  have m2 := fun j => mul_l (i := -1) (j := j) ⟨by omega, by omega⟩
  by_cases h : 0 < l <;> simp [c6, evSs, evS, evE, evEs, evT, evTAnd, evTOr, evTo, evL, evI, evO, evAnds, evOrs, Res.bind, Res.of, Res.noErr, Res.toS, getV, evBin, evAdd, evSub, evMul, evFdiv, evMod, evCmp, cmpI, evEq, evIs, isNon, evIdx, ixD, itemsOf, lstOf, evBlt, one, two, evAbs, evToInt, evTru, evIsI, tyOf, isTy, lineOk, assignTg, assignTgs, compL, consO, wipeE, okD, okDs, eqd, eqds, pickL, endC, Dx.finish, nrD, nrDs, allBl, cd k u l m hl, R, sg, h, e1, m1, m2]
theorem cut_ (k : Nat) (u l : Int) (m : M) (hl : Small l) (h0 : l ≠ 0) : t.call (k + 1) 32 [I u, I l] m = .ok (R u l) m := by
  rw [call_S c32 rfl rfl]
  have e1 := div_ok (g_pos (u := u) h0) (g_small h0 hl)
  have m1 := fun j => mul_l (i := 1) (j := j) ⟨by omega, by omega⟩
  have m2 := fun j => mul_l (i := -1) (j := j) ⟨by omega, by omega⟩
  have L := gcd_loop (m := m) (T := evT (cf k m) (.cmp .Gt (.var 4) (.int 0))) (b := evSs (cf k m) (.cons (.par2 3 4 (.var 4) (.bin .Mod (.var 3) (.var 4))) .nil)) (E := fun x y => [some (I u), some (I l), none, some (I x), some (I y)])
    (fun x y => by simp [evSs, evS, evE, evEs, evT, evTAnd, evTOr, evTo, evL, evI, evO, evAnds, evOrs, Res.bind, Res.of, Res.noErr, Res.toS, getV, evBin, evAdd, evSub, evMul, evFdiv, evMod, evCmp, cmpI, evEq, evIs, isNon, evIdx, ixD, itemsOf, lstOf, evBlt, one, two, evAbs, evToInt, evTru, evIsI, tyOf, isTy, lineOk, assignTg, assignTgs, compL, consO, wipeE, okD, okDs, eqd, eqds, pickL, endC, Dx.finish, nrD, nrDs, allBl]) (fun x y hy => by simp [evSs, evS, evE, evEs, evT, evTAnd, evTOr, evTo, evL, evI, evO, evAnds, evOrs, Res.bind, Res.of, Res.noErr, Res.toS, getV, evBin, evAdd, evSub, evMul, evFdiv, evMod, evCmp, cmpI, evEq, evIs, isNon, evIdx, ixD, itemsOf, lstOf, evBlt, one, two, evAbs, evToInt, evTru, evIsI, tyOf, isTy, lineOk, assignTg, assignTgs, compL, consO, wipeE, okD, okDs, eqd, eqds, pickL, endC, Dx.finish, nrD, nrDs, allBl, hy]) whileMost u.natAbs l.natAbs (small_nat hl)
  refine (congrArg (endC false m.length) ?_).trans (b := endC false m.length (.ret (R u l) m)) (by simp [endC, Dx.finish])
  show evSs (cf k m) c32.body [some (I u), some (I l), none, none, none] m = _
  refine (seq_nx (e' := [some (I u), some (I l), none, some (I u.natAbs), some (I l.natAbs)]) (m' := m) (by simp [evSs, evS, evE, evEs, evT, evTAnd, evTOr, evTo, evL, evI, evO, evAnds, evOrs, Res.bind, Res.of, Res.noErr, Res.toS, getV, evBin, evAdd, evSub, evMul, evFdiv, evMod, evCmp, cmpI, evEq, evIs, isNon, evIdx, ixD, itemsOf, lstOf, evBlt, one, two, evAbs, evToInt, evTru, evIsI, tyOf, isTy, lineOk, assignTg, assignTgs, compL, consO, wipeE, okD, okDs, eqd, eqds, pickL, endC, Dx.finish, nrD, nrDs, allBl, abs_nat])).trans ?_
  refine (seq_nx (s := .while_ (.cmp .Gt (.var 4) (.int 0)) (.cons (.par2 3 4 (.var 4) (.bin .Mod (.var 3) (.var 4))) .nil)) (e' := [some (I u), some (I l), none, some (I (g u l)), some (I 0)]) (m' := m) L).trans ?_
  by_cases h : 0 < l <;> simp [evSs, evS, evE, evEs, evT, evTAnd, evTOr, evTo, evL, evI, evO, evAnds, evOrs, Res.bind, Res.of, Res.noErr, Res.toS, getV, evBin, evAdd, evSub, evMul, evFdiv, evMod, evCmp, cmpI, evEq, evIs, isNon, evIdx, ixD, itemsOf, lstOf, evBlt, one, two, evAbs, evToInt, evTru, evIsI, tyOf, isTy, lineOk, assignTg, assignTgs, compL, consO, wipeE, okD, okDs, eqd, eqds, pickL, endC, Dx.finish, nrD, nrDs, allBl, R, sg, h, e1, m1, m2]
/-! ### the operations -/
theorem bnd {a b : Int} (h1 : -(2 ^ 30) ≤ a) (h2 : a ≤ 2 ^ 30) (h3 : -(2 ^ 30) ≤ b) (h4 : b ≤ 2 ^ 30) : -(2 ^ 60) ≤ a * b ∧ a * b ≤ 2 ^ 60 := by
  have h : (a * b).natAbs ≤ 2 ^ 30 * 2 ^ 30 := by
    rw [Int.natAbs_mul]
    exact Nat.mul_le_mul (by omega) (by omega)
  omega
section
variable {p q r s : Int} (h : Good p q) (w : Good r s)
include h w
theorem Good.m1 : -(2 ^ 60) ≤ p * s ∧ p * s ≤ 2 ^ 60 := bnd h.p1 h.p2 (by have := w.q1; omega) w.q2
theorem Good.m2 : -(2 ^ 60) ≤ q * s ∧ q * s ≤ 2 ^ 60 := bnd (by have := h.q1; omega) h.q2 (by have := w.q1; omega) w.q2
theorem Good.m3 : -(2 ^ 60) ≤ q * r ∧ q * r ≤ 2 ^ 60 := bnd (by have := h.q1; omega) h.q2 w.p1 w.p2
theorem Good.m4 : 1 ≤ q * s := Int.mul_pos (by have := h.q1; omega) (by have := w.q1; omega)
end
end K0
namespace K0
open PySem Dx
theorem glob0 : t.glob 0 = some (F 0 1) := rfl
def IsF (x : D) (p q : Int) : Prop := x = F p q ∨ x = .lst [I p, I q]
theorem sure_ (k : Nat) {x : D} {p q : Int} (m : M) (hx : IsF x p q) (h : Good p q) : t.call (k + 3) 5 [x] m = .ok (F p q) m := by
  rcases hx with rfl | rfl
  · exact sure_tup k p q m h
  · exact sure_lst k p q m h
section
variable {x y : D} {p q r s : Int} (k : Nat) (m : M) (hx : IsF x p q) (hy : IsF y r s) (h : Good p q) (w : Good r s)
include hx hy h w
theorem two_ : t.call (k + 4) 16 [x, y] m = .ok (.tup [F p q, F r s]) m := by
  rw [call_S c16 rfl rfl]
  simp [c16, evSs, evS, evE, evEs, evT, evTAnd, evTOr, evTo, evL, evI, evO, evAnds, evOrs, Res.bind, Res.of, Res.noErr, Res.toS, getV, evBin, evAdd, evSub, evMul, evFdiv, evMod, evCmp, cmpI, evEq, evIs, isNon, evIdx, ixD, itemsOf, lstOf, evBlt, one, two, evAbs, evToInt, evTru, evIsI, tyOf, isTy, lineOk, assignTg, assignTgs, compL, consO, wipeE, okD, okDs, eqd, eqds, pickL, endC, Dx.finish, nrD, nrDs, allBl, sure_ k m hx h, sure_ k m hy w]
theorem sum_ : t.call (k + 5) 17 [x, y] m = .ok (R (p * s + r * q) (q * s)) m := by
  have a1 := h.m1 w; have a2 := h.m2 w; have a3 := h.m3 w; have a4 := h.m4 w
  have e1 : ∀ k, t.call (k + 3) 7 [F p q, F r s] m = .ok (R (p * s + r * q) (q * s)) m := fun k => by
    rw [call_S c7 rfl rfl]
    have o1 := mul_l (i := p) (j := s) ⟨by have := h.p1; omega, by have := h.p2; omega⟩
    have o2 := mul_l (i := r) (j := q) ⟨by have := w.p1; omega, by have := w.p2; omega⟩
    have o3 := mul_l (i := q) (j := s) h.sq
    simp [c7, evSs, evS, evE, evEs, evT, evTAnd, evTOr, evTo, evL, evI, evO, evAnds, evOrs, Res.bind, Res.of, Res.noErr, Res.toS, getV, evBin, evAdd, evSub, evMul, evFdiv, evMod, evCmp, cmpI, evEq, evIs, isNon, evIdx, ixD, itemsOf, lstOf, evBlt, one, two, evAbs, evToInt, evTru, evIsI, tyOf, isTy, lineOk, assignTg, assignTgs, compL, consO, wipeE, okD, okDs, eqd, eqds, pickL, endC, Dx.finish, nrD, nrDs, allBl, o1, o2, o3, red_ k (p * s + r * q) (q * s) m ⟨by omega, by omega⟩ (by omega)]
  rw [call_S c17 rfl rfl]
  simp [c17, evSs, evS, evE, evEs, evT, evTAnd, evTOr, evTo, evL, evI, evO, evAnds, evOrs, Res.bind, Res.of, Res.noErr, Res.toS, getV, evBin, evAdd, evSub, evMul, evFdiv, evMod, evCmp, cmpI, evEq, evIs, isNon, evIdx, ixD, itemsOf, lstOf, evBlt, one, two, evAbs, evToInt, evTru, evIsI, tyOf, isTy, lineOk, assignTg, assignTgs, compL, consO, wipeE, okD, okDs, eqd, eqds, pickL, endC, Dx.finish, nrD, nrDs, allBl, two_ k m hx hy h w, e1 (k + 1)]
theorem prod_ : t.call (k + 5) 18 [x, y] m = .ok (R (p * r) (q * s)) m := by
  have a2 := h.m2 w; have a4 := h.m4 w
  have e1 : ∀ k, t.call (k + 3) 8 [F p q, F r s] m = .ok (R (p * r) (q * s)) m := fun k => by
    rw [call_S c8 rfl rfl]
    have o1 := mul_l (i := p) (j := r) ⟨by have := h.p1; omega, by have := h.p2; omega⟩
    have o3 := mul_l (i := q) (j := s) h.sq
    simp [c8, evSs, evS, evE, evEs, evT, evTAnd, evTOr, evTo, evL, evI, evO, evAnds, evOrs, Res.bind, Res.of, Res.noErr, Res.toS, getV, evBin, evAdd, evSub, evMul, evFdiv, evMod, evCmp, cmpI, evEq, evIs, isNon, evIdx, ixD, itemsOf, lstOf, evBlt, one, two, evAbs, evToInt, evTru, evIsI, tyOf, isTy, lineOk, assignTg, assignTgs, compL, consO, wipeE, okD, okDs, eqd, eqds, pickL, endC, Dx.finish, nrD, nrDs, allBl, o1, o3, red_ k (p * r) (q * s) m ⟨by omega, by omega⟩ (by omega)]
  rw [call_S c18 rfl rfl]
  simp [c18, evSs, evS, evE, evEs, evT, evTAnd, evTOr, evTo, evL, evI, evO, evAnds, evOrs, Res.bind, Res.of, Res.noErr, Res.toS, getV, evBin, evAdd, evSub, evMul, evFdiv, evMod, evCmp, cmpI, evEq, evIs, isNon, evIdx, ixD, itemsOf, lstOf, evBlt, one, two, evAbs, evToInt, evTru, evIsI, tyOf, isTy, lineOk, assignTg, assignTgs, compL, consO, wipeE, okD, okDs, eqd, eqds, pickL, endC, Dx.finish, nrD, nrDs, allBl, two_ k m hx hy h w, e1 (k + 1)]
theorem quot_0 (hr : r = 0 ∧ s = 1) : t.call (k + 5) 19 [x, y] m = .err 0 m := by
  obtain ⟨rfl, rfl⟩ := hr
  rw [call_S c19 rfl rfl]
  simp [c19, evSs, evS, evE, evEs, evT, evTAnd, evTOr, evTo, evL, evI, evO, evAnds, evOrs, Res.bind, Res.of, Res.noErr, Res.toS, getV, evBin, evAdd, evSub, evMul, evFdiv, evMod, evCmp, cmpI, evEq, evIs, isNon, evIdx, ixD, itemsOf, lstOf, evBlt, one, two, evAbs, evToInt, evTru, evIsI, tyOf, isTy, lineOk, assignTg, assignTgs, compL, consO, wipeE, okD, okDs, eqd, eqds, pickL, endC, Dx.finish, nrD, nrDs, allBl, two_ k m hx hy h w, glob0]
theorem Good.ne (hr : ¬ (r = 0 ∧ s = 1)) : r ≠ 0 := fun z => hr ⟨z, by
  have c := w.co
  have c1 := w.q1
  rw [z] at c
  unfold g at c
  rw [Int.gcd_zero_left] at c
  omega⟩
theorem quot_1 (hr : ¬ (r = 0 ∧ s = 1)) : t.call (k + 5) 19 [x, y] m = .ok (R (p * s) (q * r)) m := by
  have a3 := h.m3 w
  have rn := Good.ne hx hy h w hr
  have qn : q ≠ 0 := by have := h.q1; omega
  have qr : q * r ≠ 0 := Int.mul_ne_zero qn rn
  have e1 : ∀ k, t.call (k + 3) 9 [F p q, F r s] m = .ok (R (p * s) (q * r)) m := fun k => by
    rw [call_S c9 rfl rfl]
    have o1 := mul_l (i := p) (j := s) ⟨by have := h.p1; omega, by have := h.p2; omega⟩
    have o3 := mul_l (i := q) (j := r) h.sq
    simp [c9, evSs, evS, evE, evEs, evT, evTAnd, evTOr, evTo, evL, evI, evO, evAnds, evOrs, Res.bind, Res.of, Res.noErr, Res.toS, getV, evBin, evAdd, evSub, evMul, evFdiv, evMod, evCmp, cmpI, evEq, evIs, isNon, evIdx, ixD, itemsOf, lstOf, evBlt, one, two, evAbs, evToInt, evTru, evIsI, tyOf, isTy, lineOk, assignTg, assignTgs, compL, consO, wipeE, okD, okDs, eqd, eqds, pickL, endC, Dx.finish, nrD, nrDs, allBl, o1, o3, red_ k (p * s) (q * r) m ⟨by omega, by omega⟩ qr]
  rw [call_S c19 rfl rfl]
  simp [c19, evSs, evS, evE, evEs, evT, evTAnd, evTOr, evTo, evL, evI, evO, evAnds, evOrs, Res.bind, Res.of, Res.noErr, Res.toS, getV, evBin, evAdd, evSub, evMul, evFdiv, evMod, evCmp, cmpI, evEq, evIs, isNon, evIdx, ixD, itemsOf, lstOf, evBlt, one, two, evAbs, evToInt, evTru, evIsI, tyOf, isTy, lineOk, assignTg, assignTgs, compL, consO, wipeE, okD, okDs, eqd, eqds, pickL, endC, Dx.finish, nrD, nrDs, allBl, two_ k m hx hy h w, e1 (k + 1), glob0, rn]
theorem upto_ : t.call (k + 5) 20 [x, y] m = .ok (B (decide (p * s ≤ r * q))) m := by
  have o1 := mul_l (i := p) (j := s) ⟨by have := h.p1; omega, by have := h.p2; omega⟩
  have o2 := mul_l (i := r) (j := q) ⟨by have := w.p1; omega, by have := w.p2; omega⟩
  have e1 : ∀ k, t.call (k + 3) 10 [F p q, F r s] m = .ok (B (decide (p * s ≤ r * q))) m := fun k => by
    rw [call_S c10 rfl rfl]
    simp [c10, evSs, evS, evE, evEs, evT, evTAnd, evTOr, evTo, evL, evI, evO, evAnds, evOrs, Res.bind, Res.of, Res.noErr, Res.toS, getV, evBin, evAdd, evSub, evMul, evFdiv, evMod, evCmp, cmpI, evEq, evIs, isNon, evIdx, ixD, itemsOf, lstOf, evBlt, one, two, evAbs, evToInt, evTru, evIsI, tyOf, isTy, lineOk, assignTg, assignTgs, compL, consO, wipeE, okD, okDs, eqd, eqds, pickL, endC, Dx.finish, nrD, nrDs, allBl, o1, o2]
  rw [call_S c20 rfl rfl]
  simp [c20, evSs, evS, evE, evEs, evT, evTAnd, evTOr, evTo, evL, evI, evO, evAnds, evOrs, Res.bind, Res.of, Res.noErr, Res.toS, getV, evBin, evAdd, evSub, evMul, evFdiv, evMod, evCmp, cmpI, evEq, evIs, isNon, evIdx, ixD, itemsOf, lstOf, evBlt, one, two, evAbs, evToInt, evTru, evIsI, tyOf, isTy, lineOk, assignTg, assignTgs, compL, consO, wipeE, okD, okDs, eqd, eqds, pickL, endC, Dx.finish, nrD, nrDs, allBl, two_ k m hx hy h w, e1 (k + 1)]
end
section
variable {x y : D} {p q r s : Int} (k : Nat) (m : M) (h : Good p q) (w : Good r s)
theorem isf_1 (h : Good p q) : t.call (k + 3) 14 [F p q] m = .ok (B true) m := by
  rw [call_S c14 rfl rfl]
  simp [c14, evSs, evS, evE, evEs, evT, evTAnd, evTOr, evTo, evL, evI, evO, evAnds, evOrs, Res.bind, Res.of, Res.noErr, Res.toS, getV, evBin, evAdd, evSub, evMul, evFdiv, evMod, evCmp, cmpI, evEq, evIs, isNon, evIdx, ixD, itemsOf, lstOf, evBlt, one, two, evAbs, evToInt, evTru, evIsI, tyOf, isTy, lineOk, assignTg, assignTgs, compL, consO, wipeE, okD, okDs, eqd, eqds, pickL, endC, Dx.finish, nrD, nrDs, allBl, frac_in k p q m h.q1 h.sq h.co]
theorem isf_0 (xs : List D) : t.call (k + 3) 14 [.lst xs] m = .ok (B false) m := by
  rw [call_S c14 rfl rfl]
  simp [c14, evSs, evS, evE, evEs, evT, evTAnd, evTOr, evTo, evL, evI, evO, evAnds, evOrs, Res.bind, Res.of, Res.noErr, Res.toS, getV, evBin, evAdd, evSub, evMul, evFdiv, evMod, evCmp, cmpI, evEq, evIs, isNon, evIdx, ixD, itemsOf, lstOf, evBlt, one, two, evAbs, evToInt, evTru, evIsI, tyOf, isTy, lineOk, assignTg, assignTgs, compL, consO, wipeE, okD, okDs, eqd, eqds, pickL, endC, Dx.finish, nrD, nrDs, allBl, frac_lst]
include h w in
theorem lplus : t.call (k + 2) 33 [F p q, F r s] m = .ok (R (p * s + r * q) (q * s)) m := by
  have a1 := h.m1 w; have a2 := h.m2 w; have a3 := h.m3 w; have a4 := h.m4 w
  rw [call_S c33 rfl rfl]
  have o1 := mul_l (i := p) (j := s) ⟨by have := h.p1; omega, by have := h.p2; omega⟩
  have o2 := mul_l (i := r) (j := q) ⟨by have := w.p1; omega, by have := w.p2; omega⟩
  have o3 := mul_l (i := q) (j := s) h.sq
  simp [c33, evSs, evS, evE, evEs, evT, evTAnd, evTOr, evTo, evL, evI, evO, evAnds, evOrs, Res.bind, Res.of, Res.noErr, Res.toS, getV, evBin, evAdd, evSub, evMul, evFdiv, evMod, evCmp, cmpI, evEq, evIs, isNon, evIdx, ixD, itemsOf, lstOf, evBlt, one, two, evAbs, evToInt, evTru, evIsI, tyOf, isTy, lineOk, assignTg, assignTgs, compL, consO, wipeE, okD, okDs, eqd, eqds, pickL, endC, Dx.finish, nrD, nrDs, allBl, o1, o2, o3, cut_ k (p * s + r * q) (q * s) m ⟨by omega, by omega⟩ (by omega)]
include h w in
theorem lby : t.call (k + 2) 34 [F p q, F r s] m = .ok (R (p * r) (q * s)) m := by
  have a2 := h.m2 w; have a4 := h.m4 w
  rw [call_S c34 rfl rfl]
  have o1 := mul_l (i := p) (j := r) ⟨by have := h.p1; omega, by have := h.p2; omega⟩
  have o3 := mul_l (i := q) (j := s) h.sq
  simp [c34, evSs, evS, evE, evEs, evT, evTAnd, evTOr, evTo, evL, evI, evO, evAnds, evOrs, Res.bind, Res.of, Res.noErr, Res.toS, getV, evBin, evAdd, evSub, evMul, evFdiv, evMod, evCmp, cmpI, evEq, evIs, isNon, evIdx, ixD, itemsOf, lstOf, evBlt, one, two, evAbs, evToInt, evTru, evIsI, tyOf, isTy, lineOk, assignTg, assignTgs, compL, consO, wipeE, okD, okDs, eqd, eqds, pickL, endC, Dx.finish, nrD, nrDs, allBl, o1, o3, cut_ k (p * r) (q * s) m ⟨by omega, by omega⟩ (by omega)]
include h w in
theorem lupto : t.call (k + 1) 35 [F p q, F r s] m = .ok (B (decide (p * s ≤ r * q))) m := by
  have o1 := mul_l (i := p) (j := s) ⟨by have := h.p1; omega, by have := h.p2; omega⟩
  have o2 := mul_l (i := r) (j := q) ⟨by have := w.p1; omega, by have := w.p2; omega⟩
  rw [call_S c35 rfl rfl]
  simp [c35, evSs, evS, evE, evEs, evT, evTAnd, evTOr, evTo, evL, evI, evO, evAnds, evOrs, Res.bind, Res.of, Res.noErr, Res.toS, getV, evBin, evAdd, evSub, evMul, evFdiv, evMod, evCmp, cmpI, evEq, evIs, isNon, evIdx, ixD, itemsOf, lstOf, evBlt, one, two, evAbs, evToInt, evTru, evIsI, tyOf, isTy, lineOk, assignTg, assignTgs, compL, consO, wipeE, okD, okDs, eqd, eqds, pickL, endC, Dx.finish, nrD, nrDs, allBl, o1, o2]
theorem lists_int (a : Int) : t.call (k + 1) 28 [I a] m = .ok (I a) m := by
  rw [call_S c28 rfl rfl]
  simp [c28, evSs, evS, evE, evEs, evT, evTAnd, evTOr, evTo, evL, evI, evO, evAnds, evOrs, Res.bind, Res.of, Res.noErr, Res.toS, getV, evBin, evAdd, evSub, evMul, evFdiv, evMod, evCmp, cmpI, evEq, evIs, isNon, evIdx, ixD, itemsOf, lstOf, evBlt, one, two, evAbs, evToInt, evTru, evIsI, tyOf, isTy, lineOk, assignTg, assignTgs, compL, consO, wipeE, okD, okDs, eqd, eqds, pickL, endC, Dx.finish, nrD, nrDs, allBl]
theorem lists_f : t.call (k + 2) 28 [F p q] m = .ok (.lst [I p, I q]) m := by
  rw [call_S c28 rfl rfl]
  simp [c28, evSs, evS, evE, evEs, evT, evTAnd, evTOr, evTo, evL, evI, evO, evAnds, evOrs, Res.bind, Res.of, Res.noErr, Res.toS, getV, evBin, evAdd, evSub, evMul, evFdiv, evMod, evCmp, cmpI, evEq, evIs, isNon, evIdx, ixD, itemsOf, lstOf, evBlt, one, two, evAbs, evToInt, evTru, evIsI, tyOf, isTy, lineOk, assignTg, assignTgs, compL, consO, wipeE, okD, okDs, eqd, eqds, pickL, endC, Dx.finish, nrD, nrDs, allBl, lists_int]
/-! ### the same -/
theorem same_int (a : Int) : t.call (k + 1) 29 [I a, I a] m = .ok (B true) m := by
  rw [call_S c29 rfl rfl]
  simp [c29, evSs, evS, evE, evEs, evT, evTAnd, evTOr, evTo, evL, evI, evO, evAnds, evOrs, Res.bind, Res.of, Res.noErr, Res.toS, getV, evBin, evAdd, evSub, evMul, evFdiv, evMod, evCmp, cmpI, evEq, evIs, isNon, evIdx, ixD, itemsOf, lstOf, evBlt, one, two, evAbs, evToInt, evTru, evIsI, tyOf, isTy, lineOk, assignTg, assignTgs, compL, consO, wipeE, okD, okDs, eqd, eqds, pickL, endC, Dx.finish, nrD, nrDs, allBl]
theorem same_bl (a : Bool) : t.call (k + 1) 29 [B a, B a] m = .ok (B true) m := by
  rw [call_S c29 rfl rfl]
  simp [c29, evSs, evS, evE, evEs, evT, evTAnd, evTOr, evTo, evL, evI, evO, evAnds, evOrs, Res.bind, Res.of, Res.noErr, Res.toS, getV, evBin, evAdd, evSub, evMul, evFdiv, evMod, evCmp, cmpI, evEq, evIs, isNon, evIdx, ixD, itemsOf, lstOf, evBlt, one, two, evAbs, evToInt, evTru, evIsI, tyOf, isTy, lineOk, assignTg, assignTgs, compL, consO, wipeE, okD, okDs, eqd, eqds, pickL, endC, Dx.finish, nrD, nrDs, allBl]
theorem same_str (a : Str) (h : PyData.strOk a = true) : t.call (k + 1) 29 [.str a, .str a] m = .ok (B true) m := by
  rw [call_S c29 rfl rfl]
  simp [c29, evSs, evS, evE, evEs, evT, evTAnd, evTOr, evTo, evL, evI, evO, evAnds, evOrs, Res.bind, Res.of, Res.noErr, Res.toS, getV, evBin, evAdd, evSub, evMul, evFdiv, evMod, evCmp, cmpI, evEq, evIs, isNon, evIdx, ixD, itemsOf, lstOf, evBlt, one, two, evAbs, evToInt, evTru, evIsI, tyOf, isTy, lineOk, assignTg, assignTgs, compL, consO, wipeE, okD, okDs, eqd, eqds, pickL, endC, Dx.finish, nrD, nrDs, allBl, h]
theorem same_f (a b : Int) : t.call (k + 2) 29 [F a b, F a b] m = .ok (B true) m := by
  rw [call_S c29 rfl rfl]
  simp [c29, evSs, evS, evE, evEs, evT, evTAnd, evTOr, evTo, evL, evI, evO, evAnds, evOrs, Res.bind, Res.of, Res.noErr, Res.toS, getV, evBin, evAdd, evSub, evMul, evFdiv, evMod, evCmp, cmpI, evEq, evIs, isNon, evIdx, ixD, itemsOf, lstOf, evBlt, one, two, evAbs, evToInt, evTru, evIsI, tyOf, isTy, lineOk, assignTg, assignTgs, compL, consO, wipeE, okD, okDs, eqd, eqds, pickL, endC, Dx.finish, nrD, nrDs, allBl, same_int]
abbrev Can : D := .lst [.str "cannot", .bl true]
theorem same_can : t.call (k + 2) 29 [Can, Can] m = .ok (B true) m := by
  rw [call_S c29 rfl rfl]
  simp [c29, evSs, evS, evE, evEs, evT, evTAnd, evTOr, evTo, evL, evI, evO, evAnds, evOrs, Res.bind, Res.of, Res.noErr, Res.toS, getV, evBin, evAdd, evSub, evMul, evFdiv, evMod, evCmp, cmpI, evEq, evIs, isNon, evIdx, ixD, itemsOf, lstOf, evBlt, one, two, evAbs, evToInt, evTru, evIsI, tyOf, isTy, lineOk, assignTg, assignTgs, compL, consO, wipeE, okD, okDs, eqd, eqds, pickL, endC, Dx.finish, nrD, nrDs, allBl, same_bl, same_str k m "cannot" (by decide +kernel)]
theorem same_3 (a b c : Int) : t.call (k + 2) 29 [.lst [I a, I b, I c], .lst [I a, I b, I c]] m = .ok (B true) m := by
  rw [call_S c29 rfl rfl]
  simp [c29, evSs, evS, evE, evEs, evT, evTAnd, evTOr, evTo, evL, evI, evO, evAnds, evOrs, Res.bind, Res.of, Res.noErr, Res.toS, getV, evBin, evAdd, evSub, evMul, evFdiv, evMod, evCmp, cmpI, evEq, evIs, isNon, evIdx, ixD, itemsOf, lstOf, evBlt, one, two, evAbs, evToInt, evTru, evIsI, tyOf, isTy, lineOk, assignTg, assignTgs, compL, consO, wipeE, okD, okDs, eqd, eqds, pickL, endC, Dx.finish, nrD, nrDs, allBl, same_int]
def Due (d : D) : Prop := (∃ a b, d = F a b) ∨ d = Can
theorem same_due {d : D} (h : Due d) : t.call (k + 2) 29 [d, d] m = .ok (B true) m := by
  rcases h with ⟨a, b, rfl⟩ | rfl
  · exact same_f k m a b
  · exact same_can k m
theorem same_7 {d : D} (a b c e : Int) (u v w z : Bool) (h : Due d) : t.call (k + 3) 29 [.lst [F a b, F c e, d, B u, B v, B w, B z], .lst [F a b, F c e, d, B u, B v, B w, B z]] m = .ok (B true) m := by
  rw [call_S c29 rfl rfl]
  simp [c29, evSs, evS, evE, evEs, evT, evTAnd, evTOr, evTo, evL, evI, evO, evAnds, evOrs, Res.bind, Res.of, Res.noErr, Res.toS, getV, evBin, evAdd, evSub, evMul, evFdiv, evMod, evCmp, cmpI, evEq, evIs, isNon, evIdx, ixD, itemsOf, lstOf, evBlt, one, two, evAbs, evToInt, evTru, evIsI, tyOf, isTy, lineOk, assignTg, assignTgs, compL, consO, wipeE, okD, okDs, eqd, eqds, pickL, endC, Dx.finish, nrD, nrDs, allBl, same_f, same_due k m h, same_bl]
/-! ### heard -/
theorem law_call2 {f : Nat} (hf : f < 41) (a b v : D) (h : t.call k f [a, b] m = .ok v m) : t.call (k + 1) 31 [.fn f, .tup [a, b]] m = .ok v m := by
  rw [call_S c31 rfl rfl]
  simp [c31, evSs, evS, evE, evEs, evT, evTAnd, evTOr, evTo, evL, evI, evO, evAnds, evOrs, Res.bind, Res.of, Res.noErr, Res.toS, getV, evBin, evAdd, evSub, evMul, evFdiv, evMod, evCmp, cmpI, evEq, evIs, isNon, evIdx, ixD, itemsOf, lstOf, evBlt, one, two, evAbs, evToInt, evTru, evIsI, tyOf, isTy, lineOk, assignTg, assignTgs, compL, consO, wipeE, okD, okDs, eqd, eqds, pickL, endC, Dx.finish, nrD, nrDs, allBl, hf, h]
theorem law_call2e {f c : Nat} (hf : f < 41) (a b : D) (h : t.call k f [a, b] m = .err c m) : t.call (k + 1) 31 [.fn f, .tup [a, b]] m = .err c m := by
  rw [call_S c31 rfl rfl]
  simp [c31, evSs, evS, evE, evEs, evT, evTAnd, evTOr, evTo, evL, evI, evO, evAnds, evOrs, Res.bind, Res.of, Res.noErr, Res.toS, getV, evBin, evAdd, evSub, evMul, evFdiv, evMod, evCmp, cmpI, evEq, evIs, isNon, evIdx, ixD, itemsOf, lstOf, evBlt, one, two, evAbs, evToInt, evTru, evIsI, tyOf, isTy, lineOk, assignTg, assignTgs, compL, consO, wipeE, okD, okDs, eqd, eqds, pickL, endC, Dx.finish, nrD, nrDs, allBl, hf, h]
theorem unmark (a b : D) : t.call (k + 1) 30 [.tup [a, b]] m = .ok (.tup [a, b]) m := by
  rw [call_S c30 rfl rfl]
  simp [c30, evSs, evS, evE, evEs, evT, evTAnd, evTOr, evTo, evL, evI, evO, evAnds, evOrs, Res.bind, Res.of, Res.noErr, Res.toS, getV, evBin, evAdd, evSub, evMul, evFdiv, evMod, evCmp, cmpI, evEq, evIs, isNon, evIdx, ixD, itemsOf, lstOf, evBlt, one, two, evAbs, evToInt, evTru, evIsI, tyOf, isTy, lineOk, assignTg, assignTgs, compL, consO, wipeE, okD, okDs, eqd, eqds, pickL, endC, Dx.finish, nrD, nrDs, allBl]
theorem heard_ok {f : Nat} (hf : f < 41) (a b : D) (u v : Int) (h : t.call k f [a, b] m = .ok (F u v) m) : t.call (k + 2) 36 [.fn f, .tup [a, b]] m = .ok (F u v) m := by
  rw [call_S c36 rfl rfl]
  simp [c36, evSs, evS, evE, evEs, evT, evTAnd, evTOr, evTo, evL, evI, evO, evAnds, evOrs, Res.bind, Res.of, Res.noErr, Res.toS, getV, evBin, evAdd, evSub, evMul, evFdiv, evMod, evCmp, cmpI, evEq, evIs, isNon, evIdx, ixD, itemsOf, lstOf, evBlt, one, two, evAbs, evToInt, evTru, evIsI, tyOf, isTy, lineOk, assignTg, assignTgs, compL, consO, wipeE, okD, okDs, eqd, eqds, pickL, endC, Dx.finish, nrD, nrDs, allBl, law_call2 k m hf a b _ h, unmark]
theorem heard_er {f : Nat} (hf : f < 41) (a b : D) (h : t.call k f [a, b] m = .err 0 m) : t.call (k + 2) 36 [.fn f, .tup [a, b]] m = .ok Can m := by
  rw [call_S c36 rfl rfl]
  simp [c36, evSs, evS, evE, evEs, evT, evTAnd, evTOr, evTo, evL, evI, evO, evAnds, evOrs, Res.bind, Res.of, Res.noErr, Res.toS, getV, evBin, evAdd, evSub, evMul, evFdiv, evMod, evCmp, cmpI, evEq, evIs, isNon, evIdx, ixD, itemsOf, lstOf, evBlt, one, two, evAbs, evToInt, evTru, evIsI, tyOf, isTy, lineOk, assignTg, assignTgs, compL, consO, wipeE, okD, okDs, eqd, eqds, pickL, endC, Dx.finish, nrD, nrDs, allBl, law_call2e k m hf a b h, evH, dropN]
end
end K0
namespace K0
open PySem Dx
section
variable (k : Nat) (m : M)
theorem fof_0 (u : Int) : t.call (k + 3) 15 [I u, I 0] m = .err 0 m := by
  rw [call_S c15 rfl rfl]
  simp [c15, evSs, evS, evE, evEs, evT, evTAnd, evTOr, evTo, evL, evI, evO, evAnds, evOrs, Res.bind, Res.of, Res.noErr, Res.toS, getV, evBin, evAdd, evSub, evMul, evFdiv, evMod, evCmp, cmpI, evEq, evIs, isNon, evIdx, ixD, itemsOf, lstOf, evBlt, one, two, evAbs, evToInt, evTru, evIsI, tyOf, isTy, lineOk, assignTg, assignTgs, compL, consO, wipeE, okD, okDs, eqd, eqds, pickL, endC, Dx.finish, nrD, nrDs, allBl, evCatL, evRepL, num_int]
theorem fof_1 (u l : Int) (hl : Small l) (h0 : l ≠ 0) : t.call (k + 3) 15 [I u, I l] m = .ok (R u l) m := by
  rw [call_S c15 rfl rfl]
  simp [c15, evSs, evS, evE, evEs, evT, evTAnd, evTOr, evTo, evL, evI, evO, evAnds, evOrs, Res.bind, Res.of, Res.noErr, Res.toS, getV, evBin, evAdd, evSub, evMul, evFdiv, evMod, evCmp, cmpI, evEq, evIs, isNon, evIdx, ixD, itemsOf, lstOf, evBlt, one, two, evAbs, evToInt, evTru, evIsI, tyOf, isTy, lineOk, assignTg, assignTgs, compL, consO, wipeE, okD, okDs, eqd, eqds, pickL, endC, Dx.finish, nrD, nrDs, allBl, evCatL, evRepL, num_int, h0, red_ k u l m hl h0]
section
variable {x : D} {p q : Int} (hx : IsF x p q) (h : Good p q)
include hx h
theorem below_ : t.call (k + 4) 21 [x] m = .ok (I (p / q)) m := by
  have dq := div_ok (j := q) (by have := h.q1; omega) h.sq
  have e1 : ∀ k, t.call (k + 1) 11 [F p q] m = .ok (I (p / q)) m := fun k => by
    rw [call_S c11 rfl rfl]
    simp [c11, evSs, evS, evE, evEs, evT, evTAnd, evTOr, evTo, evL, evI, evO, evAnds, evOrs, Res.bind, Res.of, Res.noErr, Res.toS, getV, evBin, evAdd, evSub, evMul, evFdiv, evMod, evCmp, cmpI, evEq, evIs, isNon, evIdx, ixD, itemsOf, lstOf, evBlt, one, two, evAbs, evToInt, evTru, evIsI, tyOf, isTy, lineOk, assignTg, assignTgs, compL, consO, wipeE, okD, okDs, eqd, eqds, pickL, endC, Dx.finish, nrD, nrDs, allBl, evCatL, evRepL, dq]
  rw [call_S c21 rfl rfl]
  simp [c21, evSs, evS, evE, evEs, evT, evTAnd, evTOr, evTo, evL, evI, evO, evAnds, evOrs, Res.bind, Res.of, Res.noErr, Res.toS, getV, evBin, evAdd, evSub, evMul, evFdiv, evMod, evCmp, cmpI, evEq, evIs, isNon, evIdx, ixD, itemsOf, lstOf, evBlt, one, two, evAbs, evToInt, evTru, evIsI, tyOf, isTy, lineOk, assignTg, assignTgs, compL, consO, wipeE, okD, okDs, eqd, eqds, pickL, endC, Dx.finish, nrD, nrDs, allBl, evCatL, evRepL, sure_ k m hx h, e1 (k + 2)]
theorem above_ : t.call (k + 4) 22 [x] m = .ok (I (0 - (0 - p) / q)) m := by
  have dq := div_ok (j := q) (by have := h.q1; omega) h.sq
  have e1 : ∀ k, t.call (k + 1) 12 [F p q] m = .ok (I (0 - (0 - p) / q)) m := fun k => by
    rw [call_S c12 rfl rfl]
    simp [c12, evSs, evS, evE, evEs, evT, evTAnd, evTOr, evTo, evL, evI, evO, evAnds, evOrs, Res.bind, Res.of, Res.noErr, Res.toS, getV, evBin, evAdd, evSub, evMul, evFdiv, evMod, evCmp, cmpI, evEq, evIs, isNon, evIdx, ixD, itemsOf, lstOf, evBlt, one, two, evAbs, evToInt, evTru, evIsI, tyOf, isTy, lineOk, assignTg, assignTgs, compL, consO, wipeE, okD, okDs, eqd, eqds, pickL, endC, Dx.finish, nrD, nrDs, allBl, evCatL, evRepL, dq]
  rw [call_S c22 rfl rfl]
  simp [c22, evSs, evS, evE, evEs, evT, evTAnd, evTOr, evTo, evL, evI, evO, evAnds, evOrs, Res.bind, Res.of, Res.noErr, Res.toS, getV, evBin, evAdd, evSub, evMul, evFdiv, evMod, evCmp, cmpI, evEq, evIs, isNon, evIdx, ixD, itemsOf, lstOf, evBlt, one, two, evAbs, evToInt, evTru, evIsI, tyOf, isTy, lineOk, assignTg, assignTgs, compL, consO, wipeE, okD, okDs, eqd, eqds, pickL, endC, Dx.finish, nrD, nrDs, allBl, evCatL, evRepL, sure_ k m hx h, e1 (k + 2)]
theorem next_ : t.call (k + 4) 23 [x] m = .ok (I ((2 * p + q) / (2 * q))) m := by
  have dq := div_ok (j := 2 * q) (by have := h.q1; omega) ⟨by have := h.q1; omega, by have := h.q2; omega⟩
  have m2 := fun j => mul_l (i := 2) (j := j) ⟨by omega, by omega⟩
  have e1 : ∀ k, t.call (k + 1) 13 [F p q] m = .ok (I ((2 * p + q) / (2 * q))) m := fun k => by
    rw [call_S c13 rfl rfl]
    simp [c13, evSs, evS, evE, evEs, evT, evTAnd, evTOr, evTo, evL, evI, evO, evAnds, evOrs, Res.bind, Res.of, Res.noErr, Res.toS, getV, evBin, evAdd, evSub, evMul, evFdiv, evMod, evCmp, cmpI, evEq, evIs, isNon, evIdx, ixD, itemsOf, lstOf, evBlt, one, two, evAbs, evToInt, evTru, evIsI, tyOf, isTy, lineOk, assignTg, assignTgs, compL, consO, wipeE, okD, okDs, eqd, eqds, pickL, endC, Dx.finish, nrD, nrDs, allBl, evCatL, evRepL, dq, m2]
  rw [call_S c23 rfl rfl]
  simp [c23, evSs, evS, evE, evEs, evT, evTAnd, evTOr, evTo, evL, evI, evO, evAnds, evOrs, Res.bind, Res.of, Res.noErr, Res.toS, getV, evBin, evAdd, evSub, evMul, evFdiv, evMod, evCmp, cmpI, evEq, evIs, isNon, evIdx, ixD, itemsOf, lstOf, evBlt, one, two, evAbs, evToInt, evTru, evIsI, tyOf, isTy, lineOk, assignTg, assignTgs, compL, consO, wipeE, okD, okDs, eqd, eqds, pickL, endC, Dx.finish, nrD, nrDs, allBl, evCatL, evRepL, sure_ k m hx h, e1 (k + 2)]
end
theorem ceil_eq {p q : Int} (h : 1 ≤ q) : 0 - (0 - p) / q = p / q + (if p % q = 0 then 0 else 1) := by
  have e := Int.mul_ediv_add_emod p q
  have r0 := Int.emod_nonneg p (show q ≠ 0 by omega)
  have r1 := Int.emod_lt_of_pos p (show 0 < q by omega)
  generalize p / q = d at e ⊢
  generalize p % q = r at e r0 r1 ⊢
  split
  · rename_i hr
    have : (0 - p) / q = -d := by
      rw [show 0 - p = (-d) * q by rw [← e, hr, Int.neg_mul, Int.mul_comm]; omega]
      exact Int.mul_ediv_cancel _ (by omega)
    omega
  · rename_i hr
    have : (0 - p) / q = -d - 1 := by
      rw [show 0 - p = (q - r) + q * (-d - 1) by rw [← e, Int.mul_sub, Int.mul_neg, Int.mul_one]; omega]
      rw [Int.add_mul_ediv_left _ _ (show q ≠ 0 by omega), Int.ediv_eq_zero_of_lt (by omega) (by omega)]
      omega
    omega
theorem near_eq {p q : Int} (h : 1 ≤ q) : (2 * p + q) / (2 * q) = p / q + (if q ≤ 2 * (p - p / q * q) then 1 else 0) := by
  have e := Int.mul_ediv_add_emod p q
  have r0 := Int.emod_nonneg p (show q ≠ 0 by omega)
  have r1 := Int.emod_lt_of_pos p (show 0 < q by omega)
  generalize p / q = d at e ⊢
  generalize p % q = r at e r0 r1 ⊢
  have e2 : p - d * q = r := by rw [← e, Int.mul_comm d q]; omega
  rw [e2]
  split
  · rw [show 2 * p + q = (2 * r - q) + (2 * q) * (d + 1) by
      have e3 : (2 * q) * (d + 1) = 2 * (q * d) + 2 * q := by rw [Int.mul_assoc, Int.mul_add, Int.mul_one, Int.mul_add]
      rw [e3, ← e]; omega]
    rw [Int.add_mul_ediv_left _ _ (show 2 * q ≠ 0 by omega), Int.ediv_eq_zero_of_lt (by omega) (by omega)]
    omega
  · rw [show 2 * p + q = (2 * r + q) + (2 * q) * d by rw [← e, Int.mul_assoc]; omega]
    rw [Int.add_mul_ediv_left _ _ (show 2 * q ≠ 0 by omega), Int.ediv_eq_zero_of_lt (by omega) (by omega)]
    omega
theorem whole_right {p q : Int} (h : Good p q) : t.call (k + 5) 39 [F p q] m = .ok (B true) m := by
  have dq := div_ok (j := q) (by have := h.q1; omega) h.sq
  have m2 := fun j => mul_l (i := 2) (j := j) ⟨by omega, by omega⟩
  have mq : mulOk (p / q) q = true := by
    unfold mulOk
    have := h.q1; have := h.q2
    rw [show decide (-(2 ^ 64) < q) = true from decide_eq_true (by omega), show decide (q < 2 ^ 64) = true from decide_eq_true (by omega)]
    simp
  have qp : 0 < q := by have := h.q1; omega
  have s3 : ∀ a b c, t.call (k + 4) 29 [.lst [I a, I b, I c], .lst [I a, I b, I c]] m = _ := fun a b c => same_3 (k + 2) m a b c
  have ab : t.call (k + 4) 22 [F p q] m = .ok (I (p / q + if p % q = 0 then 0 else 1)) m := by rw [above_ k m (.inl rfl) h, ceil_eq h.q1]
  have gl : t.call (k + 4) 28 [F p q] m = _ := lists_f (k + 2) m
  rw [call_S c39 rfl rfl]
  simp [c39, evSs, evS, evE, evEs, evT, evTAnd, evTOr, evTo, evL, evI, evO, evAnds, evOrs, Res.bind, Res.of, Res.noErr, Res.toS, getV, evBin, evAdd, evSub, evMul, evFdiv, evMod, evCmp, cmpI, evEq, evIs, isNon, evIdx, ixD, itemsOf, lstOf, evBlt, one, two, evAbs, evToInt, evTru, evIsI, tyOf, isTy, lineOk, assignTg, assignTgs, compL, consO, wipeE, okD, okDs, eqd, eqds, pickL, endC, Dx.finish, nrD, nrDs, allBl, evCatL, evRepL, gl, below_ k m (.inr rfl) h, ab, next_ k m (.inl rfl) h, dq, m2, mq, qp, near_eq h.q1, s3]
theorem two_right {p q r s : Int} (h : Good p q) (w : Good r s) : t.call (k + 8) 38 [F p q, F r s] m = .ok (B true) m := by
  have a3 := h.m3 w
  have l1 : t.call (k + 7) 33 [F p q, F r s] m = _ := lplus (k + 5) m h w
  have l2 : t.call (k + 7) 34 [F p q, F r s] m = _ := lby (k + 5) m h w
  have l3 : t.call (k + 7) 35 [F p q, F r s] m = _ := lupto (k + 6) m h w
  have l4 : t.call (k + 7) 35 [F r s, F p q] m = _ := lupto (k + 6) m w h
  have o1 := mul_l (i := p) (j := s) ⟨by have := h.p1; omega, by have := h.p2; omega⟩
  have o2 := mul_l (i := q) (j := r) h.sq
  have s1 : t.call (k + 7) 17 [.lst [I p, I q], F r s] m = _ := sum_ (k + 2) m (.inr rfl) (.inl rfl) h w
  have s2 : t.call (k + 7) 18 [F p q, .lst [I r, I s]] m = _ := prod_ (k + 2) m (.inl rfl) (.inr rfl) h w
  have n1 : t.call (k + 7) 20 [F p q, .lst [I r, I s]] m = _ := upto_ (k + 2) m (.inl rfl) (.inr rfl) h w
  have n2 : t.call (k + 7) 20 [F r s, F p q] m = _ := upto_ (k + 2) m (.inl rfl) (.inl rfl) w h
  have f1 : t.call (k + 7) 14 [F p q] m = _ := isf_1 (k + 4) m h
  have f0 : t.call (k + 7) 14 [.lst [I r, I s]] m = _ := isf_0 (k + 4) m [I r, I s]
  have g1 : t.call (k + 7) 28 [F p q] m = _ := lists_f (k + 5) m
  have g2 : t.call (k + 7) 28 [F r s] m = _ := lists_f (k + 5) m
  rw [call_S c38 rfl rfl]
  by_cases hr : r = 0 ∧ s = 1
  · have hq : t.call (k + 7) 36 [.fn 19, .tup [F p q, F r s]] m = _ := heard_er (k + 5) m (f := 19) (by decide) (F p q) (F r s) (quot_0 k m (.inl rfl) (.inl rfl) h w hr)
    obtain ⟨rfl, rfl⟩ := hr
    have sm := fun a b c e u v w z => same_7 (k + 4) m a b c e u v w z (d := Can) (.inr rfl)
    simp [c38, evSs, evS, evE, evEs, evT, evTAnd, evTOr, evTo, evL, evI, evO, evAnds, evOrs, Res.bind, Res.of, Res.noErr, Res.toS, getV, evBin, evAdd, evSub, evMul, evFdiv, evMod, evCmp, cmpI, evEq, evIs, isNon, evIdx, ixD, itemsOf, lstOf, evBlt, one, two, evAbs, evToInt, evTru, evIsI, tyOf, isTy, lineOk, assignTg, assignTgs, compL, consO, wipeE, okD, okDs, eqd, eqds, pickL, endC, Dx.finish, nrD, nrDs, allBl, evCatL, evRepL, g1, g2, s1, s2, hq, n1, n2, f1, f0, l1, l2, l3, l4, sm]
  · have hq : t.call (k + 7) 36 [.fn 19, .tup [F p q, F r s]] m = _ := heard_ok (k + 5) m (f := 19) (by decide) (F p q) (F r s) _ _ (quot_1 k m (.inl rfl) (.inl rfl) h w hr)
    have rn := Good.ne (x := F p q) (y := F r s) (.inl rfl) (.inl rfl) h w hr
    have cc : t.call (k + 7) 32 [I (p * s), I (q * r)] m = _ := cut_ (k + 6) (p * s) (q * r) m ⟨by omega, by omega⟩ (Int.mul_ne_zero (by have := h.q1; omega) rn)
    have sm := fun a b c e x y u v w z => same_7 (k + 4) m a b c e u v w z (d := F x y) (.inl ⟨x, y, rfl⟩)
    simp [c38, evSs, evS, evE, evEs, evT, evTAnd, evTOr, evTo, evL, evI, evO, evAnds, evOrs, Res.bind, Res.of, Res.noErr, Res.toS, getV, evBin, evAdd, evSub, evMul, evFdiv, evMod, evCmp, cmpI, evEq, evIs, isNon, evIdx, ixD, itemsOf, lstOf, evBlt, one, two, evAbs, evToInt, evTru, evIsI, tyOf, isTy, lineOk, assignTg, assignTgs, compL, consO, wipeE, okD, okDs, eqd, eqds, pickL, endC, Dx.finish, nrD, nrDs, allBl, evCatL, evRepL, g1, g2, s1, s2, hq, n1, n2, f1, f0, l1, l2, l3, l4, sm, cc, o1, o2, rn]
end
end K0
namespace K0
open PySem Dx
abbrev tn (a b c : Int) : M := [.lst [I a, I b, I c]]
theorem mul_r {i j : Int} (h : Small j) : mulOk i j = true := by
  have := h.1; have := h.2
  unfold mulOk
  rw [show decide (-(2 ^ 64) < j) = true from decide_eq_true (by omega), show decide (j < 2 ^ 64) = true from decide_eq_true (by omega)]
  simp
theorem d64 : divOk 64 = true := by decide +kernel
theorem dmi : divOk 1000003 = true := by decide +kernel
theorem take_ (k : Nat) (a b c w : Int) (hw : 0 < w) (hs : Small w) (hc : 0 ≤ c) (hc2 : c ≤ 2 ^ 20) :
    ∃ d a' c', t.call (k + 1) 25 [.ref 0, I w] (tn a b c) = .ok (I d) (tn a' b c') ∧ 0 ≤ d ∧ d < w ∧ 0 ≤ c' ∧ c' ≤ c + 1 := by
  have dw := div_ok hw hs
  by_cases ha : 0 < a
  · refine ⟨a % w, a / w, c, ?_, Int.emod_nonneg _ (by omega), Int.emod_lt_of_pos _ hw, hc, by omega⟩
    rw [call_S c25 rfl rfl]
    simp [c25, evSs, evS, evE, evEs, evT, evTAnd, evTOr, evTo, evL, evI, evO, evAnds, evOrs, Res.bind, Res.of, Res.noErr, Res.toS, getV, evBin, evAdd, evSub, evMul, evFdiv, evMod, evCmp, cmpI, evEq, evIs, isNon, evIdx, ixD, itemsOf, lstOf, evBlt, one, two, evAbs, evToInt, evTru, evIsI, tyOf, isTy, lineOk, assignTg, assignTgs, compL, consO, wipeE, okD, okDs, eqd, eqds, pickL, endC, Dx.finish, nrD, nrDs, allBl, evCatL, evRepL, storeI, store, ha, hw, dw]
  · have o1 := mul_l (i := 48271) (j := c + 1) ⟨by omega, by omega⟩
    have o2 := mul_r (i := b + 48271 * (c + 1)) (j := 39373 + (c + 1)) ⟨by omega, by omega⟩
    have r2 := Int.emod_nonneg ((b + 48271 * (c + 1)) * (39373 + (c + 1)) % 2147483647) (show (40009 : Int) ≠ 0 by decide)
    have r3 := Int.emod_lt_of_pos ((b + 48271 * (c + 1)) * (39373 + (c + 1)) % 2147483647) (show (0 : Int) < 40009 by decide)
    have o3 := fun i => mul_r (i := i) (j := (b + 48271 * (c + 1)) * (39373 + (c + 1)) % 2147483647 % 40009 + 7) ⟨by omega, by omega⟩
    have o4 := fun i => mul_r (i := i) (j := 48271) ⟨by omega, by omega⟩
    refine ⟨(((((b + 48271 * (c + 1)) * (39373 + (c + 1)) % 2147483647) + (c + 1) + b / 1000003) * ((b + 48271 * (c + 1)) * (39373 + (c + 1)) % 2147483647 % 40009 + 7) % 2147483629 * 48271 + ((b + 48271 * (c + 1)) * (39373 + (c + 1)) % 2147483647)) % 2147483587 / 64) % w, a, c + 1, ?_, Int.emod_nonneg _ (show w ≠ 0 by omega), Int.emod_lt_of_pos _ hw, by omega, by omega⟩
    rw [call_S c25 rfl rfl]
    simp [c25, evSs, evS, evE, evEs, evT, evTAnd, evTOr, evTo, evL, evI, evO, evAnds, evOrs, Res.bind, Res.of, Res.noErr, Res.toS, getV, evBin, evAdd, evSub, evMul, evFdiv, evMod, evCmp, cmpI, evEq, evIs, isNon, evIdx, ixD, itemsOf, lstOf, evBlt, one, two, evAbs, evToInt, evTru, evIsI, tyOf, isTy, lineOk, assignTg, assignTgs, compL, consO, wipeE, okD, okDs, eqd, eqds, pickL, endC, Dx.finish, nrD, nrDs, allBl, evCatL, evRepL, storeI, store, ha, hw, o1, o2, o3, o4, d64, dmi]
theorem of_ (k : Nat) (a b c : Int) (xs : List D) (h0 : 0 < xs.length) (h1 : xs.length ≤ 1000) (hc : 0 ≤ c) (hc2 : c ≤ 2 ^ 20) :
    ∃ (i : Nat) (hi : i < xs.length) (a' c' : Int), t.call (k + 2) 27 [.ref 0, .lst xs] (tn a b c) = .ok xs[i] (tn a' b c') ∧ 0 ≤ c' ∧ c' ≤ c + 1 := by
  obtain ⟨d, a', c', e, d0, d1, c0, c1⟩ := take_ k a b c xs.length (by omega) ⟨by omega, by omega⟩ hc hc2
  refine ⟨d.toNat, by omega, a', c', ?_, c0, c1⟩
  rw [call_S c27 rfl rfl]
  have hx : xs[d.toNat]? = some xs[d.toNat] := List.getElem?_eq_getElem (by omega)
  simp [c27, evSs, evS, evE, evEs, evT, evTAnd, evTOr, evTo, evL, evI, evO, evAnds, evOrs, Res.bind, Res.of, Res.noErr, Res.toS, getV, evBin, evAdd, evSub, evMul, evFdiv, evMod, evCmp, cmpI, evEq, evIs, isNon, evIdx, ixD, itemsOf, lstOf, evBlt, one, two, evAbs, evToInt, evTru, evIsI, tyOf, isTy, lineOk, assignTg, assignTgs, compL, consO, wipeE, okD, okDs, eqd, eqds, pickL, endC, Dx.finish, nrD, nrDs, allBl, evCatL, evRepL, e, d0, d1, hx]
theorem red_good (u l : Int) (hl : 1 ≤ l) (hl2 : l ≤ 2 ^ 30) (hu : -(2 ^ 30) ≤ u) (hu2 : u ≤ 2 ^ 30) : ∃ p q, R u l = F p q ∧ Good p q := by
  have gp := g_pos (u := u) (l := l) (by omega)
  refine ⟨sg l * u / g u l, sg l * l / g u l, rfl, ?_⟩
  have es : sg l = 1 := if_pos (by omega)
  rw [es, Int.one_mul, Int.one_mul]
  obtain ⟨u', hu'⟩ : g u l ∣ u := Int.gcd_dvd_left ..
  obtain ⟨l', hl'⟩ : g u l ∣ l := Int.gcd_dvd_right ..
  have e1 : u / g u l = u' := Int.ediv_eq_of_eq_mul_right (by omega) hu'
  have e2 : l / g u l = l' := Int.ediv_eq_of_eq_mul_right (by omega) hl'
  rw [e1, e2]
  have hc : g u' l' = 1 := by
    have z : Int.gcd (g u l * u') (g u l * l') = (g u l).natAbs * Int.gcd u' l' := Int.gcd_mul_left ..
    rw [← hu', ← hl'] at z
    have gz : (Int.gcd u l : Nat) = (g u l).natAbs := by unfold g; omega
    have z2 : (g u l).natAbs * 1 = (g u l).natAbs * Int.gcd u' l' := by rw [Nat.mul_one, ← gz, ← gz] at *; exact z
    have := Nat.eq_of_mul_eq_mul_left (by omega) z2
    unfold g; omega
  have le1 : l'.natAbs ≤ l.natAbs := by
    have : l.natAbs = (g u l).natAbs * l'.natAbs := by rw [← Int.natAbs_mul, ← hl']
    rw [this]
    exact Nat.le_mul_of_pos_left _ (by omega)
  have le2 : u'.natAbs ≤ u.natAbs := by
    have : u.natAbs = (g u l).natAbs * u'.natAbs := by rw [← Int.natAbs_mul, ← hu']
    rw [this]
    exact Nat.le_mul_of_pos_left _ (by omega)
  have lp : 0 < l' := by
    rcases Int.lt_or_le 0 l' with z | z
    · exact z
    · have := Int.mul_nonpos_of_nonneg_of_nonpos (a := g u l) (b := l') (by omega) z
      omega
  exact ⟨by omega, by omega, by omega, by omega, hc⟩
end K0
namespace K0
open PySem Dx
theorem p9 : powOk 10 9 = true := by decide +kernel
theorem p18 : powOk 10 18 = true := by decide +kernel
theorem drawn_ (k : Nat) (a b c : Int) (hc : 0 ≤ c) (hc2 : c ≤ 2 ^ 19) :
    ∃ p q a' c', t.call (k + 3) 37 [.ref 0] (tn a b c) = .ok (F p q) (tn a' b c') ∧ Good p q ∧ 0 ≤ c' ∧ c' ≤ c + 3 := by
  obtain ⟨i, hi, a1, c1, e1, h1, h2⟩ := of_ k a b c [I 3, I 10, I 100, I 1000000000] (by simp) (by simp) hc (by omega)
  have hw : ∃ w, ([I 3, I 10, I 100, I 1000000000] : List D)[i] = I w ∧ 3 ≤ w ∧ w ≤ 10 ^ 9 := by
    match i, hi with
    | 0, _ => exact ⟨3, rfl, by omega, by omega⟩
    | 1, _ => exact ⟨10, rfl, by omega, by omega⟩
    | 2, _ => exact ⟨100, rfl, by omega, by omega⟩
    | 3, _ => exact ⟨1000000000, rfl, by omega, by omega⟩
  obtain ⟨w, ew, w1, w2⟩ := hw
  rw [ew] at e1
  obtain ⟨u, a2, c2, e2, u0, u1, h3, h4⟩ := take_ (k + 1) a1 b c1 (2 * w + 1) (by omega) ⟨by omega, by omega⟩ h1 (by omega)
  obtain ⟨l, a3, c3, e3, l0, l1, h5, h6⟩ := take_ (k + 1) a2 b c2 w (by omega) ⟨by omega, by omega⟩ h3 (by omega)
  obtain ⟨p, q, er, gd⟩ := red_good (u - w) (1 + l) (by omega) (by omega) (by omega) (by omega)
  refine ⟨p, q, a3, c3, ?_, gd, h5, by omega⟩
  have m2 := fun j => mul_l (i := 2) (j := j) ⟨by omega, by omega⟩
  have ec : t.call (k + 2) 32 [I (u - w), I (1 + l)] (tn a3 b c3) = _ := cut_ (k + 1) (u - w) (1 + l) (tn a3 b c3) ⟨by omega, by omega⟩ (by omega)
  rw [er] at ec
  rw [call_S c37 rfl rfl]
  simp [c37, evSs, evS, evE, evEs, evT, evTAnd, evTOr, evTo, evL, evI, evO, evAnds, evOrs, Res.bind, Res.of, Res.noErr, Res.toS, getV, evBin, evAdd, evSub, evMul, evFdiv, evMod, evCmp, cmpI, evEq, evIs, isNon, evIdx, ixD, itemsOf, lstOf, evBlt, one, two, evAbs, evToInt, evTru, evIsI, tyOf, isTy, lineOk, assignTg, assignTgs, compL, consO, wipeE, okD, okDs, eqd, eqds, pickL, endC, Dx.finish, nrD, nrDs, allBl, evCatL, evRepL, evPow, p9, e1, e2, e3, m2, ec]
theorem box_ (k : Nat) (x : Int) : ∃ a b, t.call (k + 1) 24 [.lst [I x], I 0] [] = .ok (.ref 0) (tn a b 0) := by
  have o1 := fun i => mul_r (i := i) (j := 1) ⟨by omega, by omega⟩
  have o0 := fun i => mul_r (i := i) (j := 0) ⟨by omega, by omega⟩
  have ob := fun j => mul_l (i := 39373) (j := j) ⟨by omega, by omega⟩
  by_cases h : (1000000000000000000 : Int) ≤ (if x < 0 then -x else x)
  · refine ⟨if x < 0 then -x else x, x % 2305843009213693951 + 6070000, ?_⟩
    rw [call_S c24 rfl rfl]
    simp [c24, evSs, evS, evE, evEs, evT, evTAnd, evTOr, evTo, evL, evI, evO, evAnds, evOrs, Res.bind, Res.of, Res.noErr, Res.toS, getV, evBin, evAdd, evSub, evMul, evFdiv, evMod, evCmp, cmpI, evEq, evIs, isNon, evIdx, ixD, itemsOf, lstOf, evBlt, one, two, evAbs, evToInt, evTru, evIsI, tyOf, isTy, lineOk, assignTg, assignTgs, compL, consO, wipeE, okD, okDs, eqd, eqds, pickL, endC, Dx.finish, nrD, nrDs, allBl, evCatL, evRepL, evPow, p18, h, o1, ob]
  · refine ⟨0, x % 2305843009213693951 + 6070000, ?_⟩
    rw [call_S c24 rfl rfl]
    simp [c24, evSs, evS, evE, evEs, evT, evTAnd, evTOr, evTo, evL, evI, evO, evAnds, evOrs, Res.bind, Res.of, Res.noErr, Res.toS, getV, evBin, evAdd, evSub, evMul, evFdiv, evMod, evCmp, cmpI, evEq, evIs, isNon, evIdx, ixD, itemsOf, lstOf, evBlt, one, two, evAbs, evToInt, evTru, evIsI, tyOf, isTy, lineOk, assignTg, assignTgs, compL, consO, wipeE, okD, okDs, eqd, eqds, pickL, endC, Dx.finish, nrD, nrDs, allBl, evCatL, evRepL, evPow, p18, h, o0, ob]
theorem forL_inv {step : D → Env' → M → SRes} {P : Env' → M → Prop} {Q : D → Prop} (h : ∀ x e m, Q x → P e m → ∃ e' m', step x e m = .nx e' m' ∧ P e' m') :
    ∀ (xs : List D) (e : Env') (m : M), (∀ x ∈ xs, Q x) → P e m → ∃ e' m', forL step xs e m = .nx e' m' ∧ P e' m'
  | [], e, m, _, p => ⟨e, m, rfl, p⟩
  | x :: xs, e, m, hq, p => by
    obtain ⟨e1, m1, q1, p1⟩ := h x e m (hq x List.mem_cons_self) p
    obtain ⟨e2, m2, q2, p2⟩ := forL_inv h xs e1 m1 (fun y hy => hq y (List.mem_cons_of_mem _ hy)) p1
    refine ⟨e2, m2, ?_, p2⟩
    unfold forL
    rw [q1]
    exact q2
theorem forL_cnt {step : D → Env' → M → SRes} {P : Nat → Env' → M → Prop} (h : ∀ n x e m, n < 100 → P n e m → ∃ e' m', step x e m = .nx e' m' ∧ P (n + 1) e' m') :
    ∀ (xs : List D) (n : Nat) (e : Env') (m : M), n + xs.length ≤ 100 → P n e m → ∃ e' m', forL step xs e m = .nx e' m' ∧ P (n + xs.length) e' m'
  | [], n, e, m, _, p => ⟨e, m, rfl, p⟩
  | x :: xs, n, e, m, hl, p => by
    rw [List.length_cons] at hl
    obtain ⟨e1, m1, q1, p1⟩ := h n x e m (by omega) p
    obtain ⟨e2, m2, q2, p2⟩ := forL_cnt h xs (n + 1) e1 m1 (by omega) p1
    refine ⟨e2, m2, ?_, by rw [List.length_cons, Nat.add_comm xs.length 1, ← Nat.add_assoc]; exact p2⟩
    unfold forL
    rw [q1]
    exact q2
/-! ### the cells -/
theorem cut_mem {xs : List D} {lo hi : Option Int} {x : D} (h : x ∈ cutD xs lo hi) : x ∈ xs := List.mem_of_mem_drop (List.mem_of_mem_take h)
theorem cut_len {xs : List D} {lo hi : Option Int} : (cutD xs lo hi).length ≤ xs.length := by unfold cutD; simp; omega
def QC (x : D) : Prop := ∃ (j v : Int), x = .tup [I j, I v] ∧ 0 ≤ j ∧ j ≤ 1000
abbrev bodyC : CSs := .cons (.asg (.name 5) (.bin .Mod (.blt .toInt (.cons (.var 3) .nil)) (.var 1))) (.cons (.setI (.var 2) (.var 5) (.bin .Add (.idx (.var 2) (.var 5)) (.bin .Mult (.var 4) (.bin .Add (.var 3) (.int 2))))) .nil)
theorem cells_loop {k : Nat} {s : D} {r : Nat} {mk : Int → M} (h1 : ∀ v, (mk v)[r]? = some (.lst [I v])) (h2 : ∀ v w, (mk v).set r (.lst [I w]) = mk w) (xs : List D) (hx : ∀ x ∈ xs, QC x) (e3 e4 e5 : Option D) (v : Int) :
    ∃ e3' e4' e5' v', forL (fun x e m => match assignTg (.tup [.name 3, .name 4]) x e with
      | some e' => evSs (cf k []) bodyC e' m
      | none => .bad) xs [some s, some (I 1), some (.ref r), e3, e4, e5] (mk v) = .nx [some s, some (I 1), some (.ref r), e3', e4', e5'] (mk v') := by
  obtain ⟨e', m', q, p⟩ := forL_inv (P := fun e m => ∃ e3 e4 e5 v, e = [some s, some (I 1), some (.ref r), e3, e4, e5] ∧ m = mk v) (Q := QC) (step := fun x e m => match assignTg (.tup [.name 3, .name 4]) x e with
      | some e' => evSs (cf k []) bodyC e' m
      | none => .bad) (fun x e m hq hp => by
    obtain ⟨j, u, rfl, j0, j1⟩ := hq
    obtain ⟨e3, e4, e5, v, rfl, rfl⟩ := hp
    have o := mul_r (i := u) (j := j + 2) ⟨by omega, by omega⟩
    refine ⟨[some s, some (I 1), some (.ref r), some (I j), some (I u), some (I 0)], mk (v + u * (j + 2)), ?_, _, _, _, _, rfl, rfl⟩
    simp [evSs, evS, evE, evEs, evT, evTAnd, evTOr, evTo, evL, evI, evO, evAnds, evOrs, Res.bind, Res.of, Res.noErr, Res.toS, getV, evBin, evAdd, evSub, evMul, evFdiv, evMod, evCmp, cmpI, evEq, evIs, isNon, evIdx, ixD, itemsOf, lstOf, evBlt, one, two, evAbs, evToInt, evTru, evIsI, tyOf, isTy, lineOk, assignTg, assignTgs, compL, consO, wipeE, okD, okDs, eqd, eqds, pickL, endC, Dx.finish, nrD, nrDs, allBl, evCatL, evRepL, storeI, store, h1, h2, o, Int.emod_one]) xs [some s, some (I 1), some (.ref r), e3, e4, e5] (mk v) hx ⟨_, _, _, _, rfl, rfl⟩
  obtain ⟨a, b, c, d, rfl, rfl⟩ := p
  exact ⟨a, b, c, d, q⟩
theorem cells_ (k : Nat) (l : List Int) (hl : l.length ≤ 63) : ∃ x, t.call (k + 1) 26 [scrD l, I 1] [] = .ok (.lst [I x]) [] := by
  have hq : ∀ x ∈ ((cutD (l.map .int) (some 1) (some 63)).zipIdx.map fun p => D.tup [.int p.2, p.1]), QC x := fun x hx => by
    obtain ⟨⟨d, j⟩, hm, rfl⟩ := List.mem_map.mp hx
    have h3 := List.mem_zipIdx hm
    have h4 := cut_len (xs := l.map D.int) (lo := some 1) (hi := some 63)
    rw [List.length_map] at h4
    have h5 : d ∈ cutD (l.map D.int) (some 1) (some 63) := by rw [h3.2.2]; exact List.getElem_mem _
    obtain ⟨v, _, rfl⟩ := List.mem_map.mp (cut_mem h5)
    exact ⟨j, v, rfl, by omega, by omega⟩
  cases l with
  | nil =>
    obtain ⟨e3, e4, e5, v, q⟩ := cells_loop (k := k) (s := scrD []) (r := 1) (mk := fun v => [.lst [], .lst [I v]]) (fun v => rfl) (fun v w => rfl) _ hq none none none 0
    refine ⟨v, ?_⟩
    rw [call_S c26 rfl rfl]
    refine (congrArg (endC false 0) (a₂ := .ret (.ref 1) [.lst [], .lst [I v]]) ?_).trans (by simp [endC, Dx.finish, fz, mapRef, mapRefs])
    refine (seq_nx (e' := [some (scrD []), some (I 1), some (.ref 1), none, none, none]) (m' := [.lst [], .lst [I 0]]) (by simp [c26, evSs, evS, evE, evEs, evT, evTAnd, evTOr, evTo, evL, evI, evO, evAnds, evOrs, Res.bind, Res.of, Res.noErr, Res.toS, getV, evBin, evAdd, evSub, evMul, evFdiv, evMod, evCmp, cmpI, evEq, evIs, isNon, evIdx, ixD, itemsOf, lstOf, evBlt, one, two, evAbs, evToInt, evTru, evIsI, tyOf, isTy, lineOk, assignTg, assignTgs, compL, consO, wipeE, okD, okDs, eqd, eqds, pickL, endC, Dx.finish, nrD, nrDs, allBl, evCatL, evRepL, scrD, evSlc, lstOfS, cutD, cutIx])).trans ?_
    refine (seq_nx (s := .for_ (.tup [.name 3, .name 4]) (.enum (.slc (.var 0) (.some (.var 1)) (.some (.int 63)))) bodyC) (e' := [some (scrD []), some (I 1), some (.ref 1), e3, e4, e5]) (m' := [.lst [], .lst [I v]]) ?_).trans ?_
    · exact q
    · simp [evSs, evS, evE, evEs, evT, evTAnd, evTOr, evTo, evL, evI, evO, evAnds, evOrs, Res.bind, Res.of, Res.noErr, Res.toS, getV, evBin, evAdd, evSub, evMul, evFdiv, evMod, evCmp, cmpI, evEq, evIs, isNon, evIdx, ixD, itemsOf, lstOf, evBlt, one, two, evAbs, evToInt, evTru, evIsI, tyOf, isTy, lineOk, assignTg, assignTgs, compL, consO, wipeE, okD, okDs, eqd, eqds, pickL, endC, Dx.finish, nrD, nrDs, allBl, evCatL, evRepL]
  | cons y l =>
    obtain ⟨e3, e4, e5, v, q⟩ := cells_loop (k := k) (s := scrD (y :: l)) (r := 0) (mk := fun v => [.lst [I v]]) (fun v => rfl) (fun v w => rfl) _ hq none none none y
    refine ⟨v, ?_⟩
    rw [call_S c26 rfl rfl]
    refine (congrArg (endC false 0) (a₂ := .ret (.ref 0) [.lst [I v]]) ?_).trans (by simp [endC, Dx.finish, fz, mapRef, mapRefs])
    refine (seq_nx (e' := [some (scrD (y :: l)), some (I 1), some (.ref 0), none, none, none]) (m' := [.lst [I y]]) (by simp [c26, evSs, evS, evE, evEs, evT, evTAnd, evTOr, evTo, evL, evI, evO, evAnds, evOrs, Res.bind, Res.of, Res.noErr, Res.toS, getV, evBin, evAdd, evSub, evMul, evFdiv, evMod, evCmp, cmpI, evEq, evIs, isNon, evIdx, ixD, itemsOf, lstOf, evBlt, one, two, evAbs, evToInt, evTru, evIsI, tyOf, isTy, lineOk, assignTg, assignTgs, compL, consO, wipeE, okD, okDs, eqd, eqds, pickL, endC, Dx.finish, nrD, nrDs, allBl, evCatL, evRepL, scrD, evSlc, lstOfS, cutD, cutIx])).trans ?_
    refine (seq_nx (s := .for_ (.tup [.name 3, .name 4]) (.enum (.slc (.var 0) (.some (.var 1)) (.some (.int 63)))) bodyC) (e' := [some (scrD (y :: l)), some (I 1), some (.ref 0), e3, e4, e5]) (m' := [.lst [I v]]) ?_).trans ?_
    · exact q
    · simp [evSs, evS, evE, evEs, evT, evTAnd, evTOr, evTo, evL, evI, evO, evAnds, evOrs, Res.bind, Res.of, Res.noErr, Res.toS, getV, evBin, evAdd, evSub, evMul, evFdiv, evMod, evCmp, cmpI, evEq, evIs, isNon, evIdx, ixD, itemsOf, lstOf, evBlt, one, two, evAbs, evToInt, evTru, evIsI, tyOf, isTy, lineOk, assignTg, assignTgs, compL, consO, wipeE, okD, okDs, eqd, eqds, pickL, endC, Dx.finish, nrD, nrDs, allBl, evCatL, evRepL]
end K0
namespace K0
open PySem Dx
def rest1 : CSs → CSs
  | .cons _ ss => ss
  | .nil => .nil
def forB : CSs → CSs
  | .cons (.for_ _ _ b) _ => b
  | _ => .nil
/-- the loop's body -/
def lapB : CSs := forB (rest1 c40.body)
/-- what stands behind the loop -/
def tailB : CSs := rest1 (rest1 c40.body)
abbrev EnvL (s : D) (e2 e5 e6 e7 e8 e9 : Option D) : Env' := [some s, some (.ref 0), e2, none, none, e5, e6, e7, e8, e9, none, none]
def PL (s : D) (n : Nat) (e : Env') (m : M) : Prop := ∃ e2 e5 e6 e7 e8 e9 a b c, e = EnvL s e2 e5 e6 e7 e8 e9 ∧ m = tn a b c ∧ 0 ≤ c ∧ c ≤ 20 * (n : Int)
theorem good01 : Good 0 1 := ⟨by omega, by omega, by omega, by omega, by decide⟩
theorem lap_ (k : Nat) (s : D) (n : Nat) (x : D) (e : Env') (m : M) (hn : n < 100) (h : PL s n e m) : ∃ e' m', (match assignTg (.name 2) x e with
      | some e' => evSs (cf (k + 8) []) lapB e' m
      | none => .bad) = .nx e' m' ∧ PL s (n + 1) e' m' := by
  obtain ⟨e2, e5, e6, e7, e8, e9, a, b, c, rfl, rfl, c0, c1⟩ := h
  obtain ⟨p, q, a1, k1, d1, g1, h1, i1⟩ := drawn_ (k + 5) a b c c0 (by omega)
  obtain ⟨p2, q2, a2, k2, d2, g2, h2, i2⟩ := drawn_ (k + 5) a1 b k1 h1 (by omega)
  obtain ⟨p3, q3, a3, k3, d3, g3, h3, i3⟩ := drawn_ (k + 5) a2 b k2 h2 (by omega)
  obtain ⟨i, hi, a4, k4, d4, h4, i4⟩ := of_ (k + 6) a3 b k3 [F p2 q2, F 0 1, F p3 q3] (by simp) (by simp) h3 (by omega)
  have hw : ∃ r s, ([F p2 q2, F 0 1, F p3 q3] : List D)[i] = F r s ∧ Good r s := by
    match i, hi with
    | 0, _ => exact ⟨_, _, rfl, g2⟩
    | 1, _ => exact ⟨_, _, rfl, good01⟩
    | 2, _ => exact ⟨_, _, rfl, g3⟩
  obtain ⟨r, t', ew, gw⟩ := hw
  rw [ew] at d4
  obtain ⟨u, a5, k5, d5, u0, u1, h5, i5⟩ := take_ (k + 7) a4 b k4 41 (by omega) ⟨by omega, by omega⟩ h4 (by omega)
  obtain ⟨l, a6, k6, d6, l0, l1, h6, i6⟩ := take_ (k + 7) a5 b k5 21 (by omega) ⟨by omega, by omega⟩ h5 (by omega)
  replace d1 : t.call (k + 8) 37 [.ref 0] (tn a b c) = _ := d1
  replace d2 : t.call (k + 8) 37 [.ref 0] (tn a1 b k1) = _ := d2
  replace d3 : t.call (k + 8) 37 [.ref 0] (tn a2 b k2) = _ := d3
  replace d4 : t.call (k + 8) 27 [.ref 0, .lst [F p2 q2, F 0 1, F p3 q3]] (tn a3 b k3) = _ := d4
  replace d5 : t.call (k + 8) 25 [.ref 0, I 41] (tn a4 b k4) = _ := d5
  replace d6 : t.call (k + 8) 25 [.ref 0, I 21] (tn a5 b k5) = _ := d6
  have tr : t.call (k + 8) 38 [F p q, F r t'] (tn a6 b k6) = _ := two_right k (tn a6 b k6) g1 gw
  have wr : t.call (k + 8) 39 [F p q] (tn a6 b k6) = _ := whole_right (k + 3) (tn a6 b k6) g1
  by_cases hl : l - 10 = 0
  · have hh : t.call (k + 8) 36 [.fn 15, .tup [I (u - 20), I (l - 10)]] (tn a6 b k6) = _ := heard_er (k + 6) (tn a6 b k6) (f := 15) (by decide) (I (u - 20)) (I (l - 10)) (by rw [hl]; exact fof_0 (k + 3) (tn a6 b k6) (u - 20))
    rw [hl] at hh
    have sm : t.call (k + 8) 29 [Can, Can] (tn a6 b k6) = _ := same_can (k + 6) (tn a6 b k6)
    refine ⟨EnvL s (some x) (some Can) (some (F p q)) (some (F r t')) (some (I (u - 20))) (some (I (l - 10))), tn a6 b k6, ?_, _, _, _, _, _, _, _, _, _, rfl, rfl, h6, by omega⟩
    simp [lapB, forB, rest1, c40, evSs, evS, evE, evEs, evT, evTAnd, evTOr, evTo, evL, evI, evO, evAnds, evOrs, Res.bind, Res.of, Res.noErr, Res.toS, getV, evBin, evAdd, evSub, evMul, evFdiv, evMod, evCmp, cmpI, evEq, evIs, isNon, evIdx, ixD, itemsOf, lstOf, evBlt, one, two, evAbs, evToInt, evTru, evIsI, tyOf, isTy, lineOk, assignTg, assignTgs, compL, consO, wipeE, okD, okDs, eqd, eqds, pickL, endC, Dx.finish, nrD, nrDs, allBl, evCatL, evRepL, d1, d2, d3, d4, d5, d6, tr, wr, hh, sm, hl]
  · have hh : t.call (k + 8) 36 [.fn 15, .tup [I (u - 20), I (l - 10)]] (tn a6 b k6) = _ := heard_ok (k + 6) (tn a6 b k6) (f := 15) (by decide) (I (u - 20)) (I (l - 10)) _ _ (fof_1 (k + 3) (tn a6 b k6) (u - 20) (l - 10) ⟨by omega, by omega⟩ hl)
    have cc : t.call (k + 8) 32 [I (u - 20), I (l - 10)] (tn a6 b k6) = _ := cut_ (k + 7) (u - 20) (l - 10) (tn a6 b k6) ⟨by omega, by omega⟩ hl
    have sm : ∀ x y, t.call (k + 8) 29 [F x y, F x y] (tn a6 b k6) = _ := fun x y => same_f (k + 6) (tn a6 b k6) x y
    refine ⟨EnvL s (some x) (some (R (u - 20) (l - 10))) (some (F p q)) (some (F r t')) (some (I (u - 20))) (some (I (l - 10))), tn a6 b k6, ?_, _, _, _, _, _, _, _, _, _, rfl, rfl, h6, by omega⟩
    simp [lapB, forB, rest1, c40, evSs, evS, evE, evEs, evT, evTAnd, evTOr, evTo, evL, evI, evO, evAnds, evOrs, Res.bind, Res.of, Res.noErr, Res.toS, getV, evBin, evAdd, evSub, evMul, evFdiv, evMod, evCmp, cmpI, evEq, evIs, isNon, evIdx, ixD, itemsOf, lstOf, evBlt, one, two, evAbs, evToInt, evTru, evIsI, tyOf, isTy, lineOk, assignTg, assignTgs, compL, consO, wipeE, okD, okDs, eqd, eqds, pickL, endC, Dx.finish, nrD, nrDs, allBl, evCatL, evRepL, d1, d2, d3, d4, d5, d6, tr, wr, hh, sm, hl, cc]
def okS : SRes → Bool
  | .ret (.bl true) _ => true
  | _ => false
theorem okS_ok {r : SRes} (h : okS r = true) : ∃ m, r = .ret (.bl true) m := by
  cases r with
  | ret d m =>
    cases d with
    | bl b => cases b with
      | true => exact ⟨m, rfl⟩
      | false => cases h
    | _ => cases h
  | _ => cases h
theorem tail_ (s : D) (e2 e5 e6 e7 e8 e9 : Option D) (a b c : Int) : okS (evSs (cf 59 []) tailB (EnvL s e2 e5 e6 e7 e8 e9) (tn a b c)) = true := by kernel_rfl
theorem law_ok (l : List Int) (hl : l.length ≤ 63) : ∃ m, t.call 60 40 [scrD l] [] = .ok (.bl true) m := by
  obtain ⟨x, hx⟩ := cells_ 58 l hl
  obtain ⟨a, b, hb⟩ := box_ 58 x
  obtain ⟨e', m', q, p⟩ := forL_cnt (P := PL (scrD l)) (step := fun x e m => match assignTg (.name 2) x e with
      | some e' => evSs (cf 59 []) lapB e' m
      | none => .bad) (fun n x e m hn h => lap_ 51 (scrD l) n x e m hn h) ((List.range 6).map fun (i : Nat) => I i) 0 (EnvL (scrD l) none none none none none none) (tn a b 0) (by simp) ⟨_, _, _, _, _, _, _, _, _, rfl, rfl, by omega, by omega⟩
  obtain ⟨e2, e5, e6, e7, e8, e9, a1, b1, c1, rfl, rfl, _, _⟩ := p
  obtain ⟨m2, q2⟩ := okS_ok (tail_ (scrD l) e2 e5 e6 e7 e8 e9 a1 b1 c1)
  refine ⟨m2.take 0, ?_⟩
  rw [call_S c40 rfl rfl]
  have z : evSs (cf 59 []) c40.body [some (scrD l), none, none, none, none, none, none, none, none, none, none, none] [] = .ret (.bl true) m2 := by
    refine (seq_nx (e' := EnvL (scrD l) none none none none none none) (m' := tn a b 0) (by simp [evSs, evS, evE, evEs, evT, evTAnd, evTOr, evTo, evL, evI, evO, evAnds, evOrs, Res.bind, Res.of, Res.noErr, Res.toS, getV, evBin, evAdd, evSub, evMul, evFdiv, evMod, evCmp, cmpI, evEq, evIs, isNon, evIdx, ixD, itemsOf, lstOf, evBlt, one, two, evAbs, evToInt, evTru, evIsI, tyOf, isTy, lineOk, assignTg, assignTgs, compL, consO, wipeE, okD, okDs, eqd, eqds, pickL, endC, Dx.finish, nrD, nrDs, allBl, evCatL, evRepL, hx, hb])).trans ?_
    refine (seq_nx (s := .for_ (.name 2) (.rng1 (.int 6)) lapB) (e' := EnvL (scrD l) e2 e5 e6 e7 e8 e9) (m' := tn a1 b1 c1) ?_).trans ?_
    · exact q
    · exact q2
  refine (congrArg (endC false 0) z).trans ?_
  show Dx.finish false 0 (.bl true) m2 = _
  cases m2 <;> simp [Dx.finish, fz, mapRef]
end K0

theorem PySem.Challenge.cw_wholenear_k00_whole_fractions_holds : PySem.Challenge.rw_wholenear_k00_whole_fractions.Holds := by
  exact K0.law_of K0.law_ok
