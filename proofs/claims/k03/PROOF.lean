import PyProof.Rows.All
import Wide.All
import OpenK.AllK
import Wide.FinOn
import HandS.Base
import HandS.Call
import HandS.List
import HandS.Comp
import HandS.Ends
import HandS.Exc
import HandS.ExcOwn
import HandS.TryMany
import HandS.Words
import HandS.WordsList
import HandS.WordsExc
import HandS.CallSlots
import HandS.Iter
import HandS.Zip
import HandS.Walk
import HandS.Wide
import HandS.IsInst
import HandS.Defaults
import HandS.Small
import HandS.HeadHook1
import HandS.HeadHook2
import HandS.Head0
import HandS.Head1
import HandS.Head2
import HandS.HeadEnd
import HandS.More
import HandS.TupAny
import HandS.TupMul
import HandS.Style
import HandS.Flow
import HandS.ExcIs
import HandS.Deep
import KE.GoesMore
import KE.GoesZip
import KE.GoesEnum
import HandS.HeadHook3
import HandS.HeadHook4
import PySem.Challenge.RW_wholenear_k03_whole_windows
set_option Elab.async false
set_option linter.all false
set_option maxRecDepth 100000
set_option maxHeartbeats 0
/-! Dx, part 1: data, the mini heap, how they lie in the abstract heap. -/
namespace Dx
open PySem PySem.Spec PyProof.Rows L2
/-- a value as a tree; ref i: the i-th object of the mini heap; fn i: the i-th def; scr: the script, a list that nobody changes -/
inductive D where
  | non | bl (b : Bool) | int (i : Int) | str (x : Str) | tup (xs : List D) | lst (xs : List D) | ref (i : Nat) | fn (i : Nat) | scr (xs : List D)
  deriving Inhabited
/-- an object that may be changed -/
inductive O where
  | lst (xs : List D)
  | gone
  deriving Inhabited
abbrev M := List O
/-- a list that nobody changes: known to the object, or the module's own -/
def SqF (K : PySem.W.Frag) (H : Hp) (a : Addr) (xs : List V) : Prop :=
  (∃ o, H a = some (.frz o (.lst xs))) ∨ ∃ (o : Obj) (its : Array Value) (n : Nat), K.lookup a = some o ∧ o.cls = .type "list" ∧ o.dict = none ∧ o.data = .seq its n ∧ its.size ≤ sizeLine ∧ Vals xs its.toList
theorem SqF.sq {K : PySem.W.Frag} {H : Hp} {a : Addr} {xs : List V} (h : SqF K H a xs) : SqL K H a xs := by
  rcases h with h | h
  · exact .inl (.inr h)
  · exact .inr h
section
variable (K : PySem.W.Frag) (fa : Nat → Addr) (ρ : List Addr) (Z : Addr → Prop) (H : Hp)
mutual
def RelD : D → V → Prop
  | .non, v => v = .non
  | .bl b, v => v = .bl b
  | .int i, v => v = .int i
  | .str x, v => v = .str x
  | .tup ds, v => ∃ p vs, v = .ref p ∧ SqT K H p vs ∧ RelDs ds vs
  | .lst ds, v => ∃ p vs, v = .ref p ∧ H p = some (.lst vs) ∧ ¬ Z p ∧ RelDs ds vs
  | .ref i, v => ∃ p, v = .ref p ∧ ρ[i]? = some p
  | .fn i, v => v = .ref (fa i)
  | .scr ds, v => ∃ p vs, v = .ref p ∧ SqF K H p vs ∧ RelDs ds vs
def RelDs : List D → List V → Prop
  | [], vs => vs = []
  | d :: ds, vs => ∃ v r, vs = v :: r ∧ RelD d v ∧ RelDs ds r
end
def RelO : O → Addr → Prop
  | .lst ds, p => ∃ vs, H p = some (.lst vs) ∧ RelDs K fa ρ Z H ds vs
  | .gone, _ => True
end
/-- the mini heap m lies in H: object i at ρ's i-th; Z: the addresses that nothing frozen names; W: those that may be written -/
structure MOk (K : PySem.W.Frag) (fa : Nat → Addr) (ρ : List Addr) (Z : Addr → Prop) (H : Hp) (m : List O) : Prop where
  len : ρ.length = m.length
  nd : ρ.Nodup
  there : ∀ a ∈ ρ, H a ≠ none
  hot : ∀ a, Z a → Mut (H a)
  live : ∀ (i : Nat) (o : O), m[i]? = some o → o ≠ .gone → ∀ p, ρ[i]? = some p → Z p ∧ RelO K fa ρ Z H o p
/-- from one state to a later one. live ones of m may have changed -/
structure Step (ρ : List Addr) (Z : Addr → Prop) (H : Hp) (ρ' : List Addr) (Z' : Addr → Prop) (H' : Hp) : Prop where
  pre : ∃ t, ρ' = ρ ++ t
  newr : ∀ a ∈ ρ', a ∉ ρ → H a = none
  newz : ∀ a, Z' a → ¬ Z a → H a = none
  keep : ∀ a o, H a = some o → (a ∉ ρ ∨ ¬ Z a) → H' a = some o
  hotk : ∀ a, Z a → a ∉ ρ → Z' a
end Dx
/-! Dx, part 2: the core language and its evaluator. -/
namespace Dx
open PySem
inductive Res (α : Type) where
  | ok (a : α) (m : M) | err (c : Nat) (m : M) | bad
def Res.bind {α β : Type} (r : Res α) (f : α → M → Res β) : Res β := match r with
  | .ok a m => f a m
  | .err c m => .err c m
  | .bad => .bad
/-- what a partial function gives -/
def Res.of {α : Type} (o : Option α) (m : M) : Res α := match o with
  | some a => .ok a m
  | none => .bad
def Res.noErr {α : Type} (r : Res α) : Res α := match r with
  | .err _ _ => .bad
  | r => r
inductive SRes where
  | nx (e : List (Option D)) (m : M) | ret (d : D) (m : M) | brk (e : List (Option D)) (m : M) | cnt (e : List (Option D)) (m : M) | err (c : Nat) (e : List (Option D)) (m : M) | bad
abbrev Env' := List (Option D)
/-- the built-in types that isinstance asks -/
inductive Ty where
  | tInt | tBool | tStr | tList | tTuple
  deriving DecidableEq
inductive Blt where
  | len | abs | toInt | all | any | toTuple | sum | max2 | min2
  deriving DecidableEq
inductive Tg where
  | name (i : Nat)
  | tup (ts : List Tg)
mutual
inductive CE where
  | var (i : Nat) | int (i : Int) | bl (b : Bool) | non | str (x : Str)
  | glob (i : Nat) | fn (i : Nat)
  | bin (o : Operator) (a b : CE) | neg (a : CE)
  | cmp (o : CmpOp) (a b : CE) | chain (o o' : CmpOp) (a b c : CE)
  | andV (es : CEs) | orV (es : CEs) | notV (a : CE) | orT (a b : CE)
  | ife (t : CT) (a b : CE)
  | tup (es : CEs)
  | lv (l : CL) | lm (l : CL) | frz (a : CE)
  | idx (a b : CE) | slc (a : CE) (lo hi : CO)
  | call (f : Nat) (es : CEs) | callL (i : Nat) (es : CEs) | callK (f : Nat) (es : CEs) (ks : CEs) (pm : List Nat)
  | blt (b : Blt) (es : CEs)
  | isI (a : CE) (ts : List Ty)
  | excIs (i : Nat)
  | stuck
  | callP (f : Nat) (es : CEs)
inductive CEs where
  | nil | cons (e : CE) (es : CEs)
inductive CO where
  | none | some (e : CE)
inductive CL where
  | disp (es : CEs) | comp (elt : CE) (tg : Tg) (it : CI) (cond : CTo) (own : List Nat)
  | cat (a b : CE) | rep (a b : CE) | lst (a : CE) | slc (a : CE) (lo hi : CO)
inductive CI where
  | seq (a : CE) | rng1 (a : CE) | rng2 (a b : CE) | rngD (a b c : CE) | enum (a : CE) | zip (a b : CE)
inductive CT where
  | val (a : CE) | tru (a : CE) | cmp (o : CmpOp) (a b : CE) | chain (o o' : CmpOp) (a b c : CE) | and (ts : CTs) | or (ts : CTs) | not (a : CT)
inductive CTs where
  | nil | cons (t : CT) (ts : CTs)
inductive CTo where
  | none | some (t : CT)
end
/-- what an except suite does: x = e, or return e -/
inductive HAct where
  | asg (j : Nat) (e : CE) | ret (e : CE)
inductive CHs where
  | nil | cons (c : Nat) (i : Option Nat) (a : HAct) (hs : CHs)
mutual
inductive CS where
  | expr (e : CE) | ret (e : CE) | retN | asg (t : Tg) (e : CE)
  | par2 (i j : Nat) (a b : CE)
  | par3 (i j l : Nat) (a b c : CE)
  | stuck
  | setI (o i e : CE)
  | swap (o1 i1 o2 i2 a b : CE)
  | app (o e : CE) | ext (o e : CE)
  | ife (t : CT) (a b : CSs) | for_ (tg : Tg) (it : CI) (body : CSs) | while_ (t : CT) (body : CSs)
  | brk | cnt | pass | raise (c : Nat) | try_ (body : CSs) (hs : CHs)
inductive CSs where
  | nil | cons (s : CS) (ss : CSs)
end
/-! ### values -/
def mulOk (i j : Int) : Bool := (decide (-(2 ^ 64) < i) && decide (i < 2 ^ 64)) || (decide (-(2 ^ 64) < j) && decide (j < 2 ^ 64)) || decide (i.natAbs.log2 + j.natAbs.log2 < 1000000)
def divOk (j : Int) : Bool := decide (0 < j) && decide (j.natAbs.log2 < 9000)
def powOk (i j : Int) : Bool := decide (0 ≤ j) && decide (j ≤ 1000000) && decide (i.natAbs < 2 ^ 64)
def lineOk (n : Nat) : Bool := decide (n ≤ 1000000)
/-- the items of a list or tuple, read now -/
def itemsOf (m : M) : D → Option (List D)
  | .tup xs => some xs
  | .lst xs => some xs
  | .scr xs => some xs
  | .ref r => match m[r]? with
    | some (.lst xs) => some xs
    | _ => none
  | _ => none
/-- the items of a list or tuple that stands still -/
def seqOf : D → Option (List D)
  | .tup xs => some xs
  | .lst xs => some xs
  | _ => none
def lstOf (m : M) : D → Option (List D)
  | .lst xs => some xs
  | .ref r => match m[r]? with
    | some (.lst xs) => some xs
    | _ => none
  | _ => none
/-- the script, too -/
def lstOfS (m : M) : D → Option (List D)
  | .scr xs => some xs
  | d => lstOf m d
def evCatL (m : M) (a b : D) : Option (List D) := (lstOf m a).bind fun xs => (lstOf m b).bind fun ys => if lineOk (xs.length + ys.length) then some (xs ++ ys) else none
def evRepL (m : M) (a b : D) : Option (List D) := (lstOf m a).bind fun xs => match b with
  | .int k => if decide (k ≤ 1000000) && lineOk (xs.length * k.toNat) && decide (-(2 ^ 63) ≤ k) then some (List.replicate k.toNat xs).flatten else none
  | _ => none
def evAdd (m : M) (a b : D) : Option D := match a, b with
  | .int i, .int j => some (.int (i + j))
  | .tup xs, .tup ys => if lineOk (xs.length + ys.length) then some (.tup (xs ++ ys)) else none
  | a, b => (evCatL m a b).map .lst
def evSub : D → D → Option D
  | .int i, .int j => some (.int (i - j))
  | _, _ => none
def evMul (m : M) (a b : D) : Option D := match a, b with
  | .int i, .int j => if mulOk i j then some (.int (i * j)) else none
  | .tup xs, .int k => if k = 1 then some (.tup xs) else if !xs.isEmpty && decide (2 ≤ k) && decide (k ≤ 1000) && decide (xs.length ≤ 1000) then some (.tup (List.replicate k.toNat xs).flatten) else none
  | a, b => (evRepL m a b).map .lst
def evFdiv : D → D → Option D
  | .int i, .int j => if divOk j then some (.int (i / j)) else none
  | _, _ => none
def evMod : D → D → Option D
  | .int i, .int j => if 0 < j then some (.int (i % j)) else none
  | _, _ => none
def evPow : D → D → Option D
  | .int i, .int j => if powOk i j then some (.int (i ^ j.toNat)) else none
  | _, _ => none
def evBin (m : M) : Operator → D → D → Option D
  | .Add => evAdd m
  | .Sub => evSub
  | .Mult => evMul m
  | .FloorDiv => evFdiv
  | .Mod => evMod
  | .Pow => evPow
  | _ => fun _ _ => none
mutual
/-- a tree of data: no objects that change, no defs; its depth at most n -/
def okD : D → Nat → Bool
  | .non, _ | .bl _, _ | .int _, _ => true
  | .str x, _ => PyData.strOk x
  | .tup xs, n + 1 => okDs xs n
  | .lst xs, n + 1 => okDs xs n
  | _, _ => false
def okDs : List D → Nat → Bool
  | [], _ => true
  | d :: ds, n => okD d n && okDs ds n
end
mutual
def eqd : D → D → Bool
  | .non, .non => true
  | .bl a, .bl b => a == b
  | .bl a, .int j => (if a then 1 else 0) == j
  | .int i, .bl b => i == (if b then 1 else 0)
  | .int i, .int j => i == j
  | .str x, .str y => x == y
  | .lst xs, .lst ys => eqds xs ys
  | .tup xs, .tup ys => eqds xs ys
  | _, _ => false
def eqds : List D → List D → Bool
  | [], [] => true
  | x :: xs, y :: ys => eqd x y && eqds xs ys
  | _, _ => false
end
def isNon : D → Bool
  | .non => true
  | _ => false
def cmpI (p : Int → Int → Bool) : D → D → Option Bool
  | .int i, .int j => some (p i j)
  | _, _ => none
def evEq (a b : D) : Option Bool := if okD a 40 && okD b 40 then some (eqd a b) else none
def evIs (a : D) : D → Option Bool
  | .non => some (isNon a)
  | _ => none
/-- x in a list of data -/
def evIn (a b : D) : Option Bool := match b with
  | .lst ys => if okD a 40 && okD (.lst ys) 40 then some (ys.any fun y => eqd y a) else none
  | _ => none
def evCmp : CmpOp → D → D → Option Bool
  | .Lt => cmpI fun i j => decide (i < j)
  | .LtE => cmpI fun i j => decide (i ≤ j)
  | .Gt => cmpI fun i j => decide (j < i)
  | .GtE => cmpI fun i j => decide (j ≤ i)
  | .Eq => evEq
  | .NotEq => fun a b => (evEq a b).map (!·)
  | .Is => evIs
  | .IsNot => fun a b => (evIs a b).map (!·)
  | .In => evIn
  | .NotIn => fun a b => (evIn a b).map (!·)
/-- an index of any sign -/
def ixD (n : Nat) (i : Int) : Option Nat := if 0 ≤ i then (if i < n then some i.toNat else none) else if -(n : Int) ≤ i then some (i + n).toNat else none
def evIdx (m : M) (a i : D) : Option D := match i with
  | .int k => (itemsOf m a).bind fun xs => (ixD xs.length k).bind fun j => xs[j]?
  | _ => none
/-- a bound of a slice -/
def cutIx (n d : Nat) : Option Int → Nat
  | none => d
  | some v => if v < 0 then (v + (n : Int)).toNat else min v.toNat n
def cutD (xs : List D) (lo hi : Option Int) : List D := (xs.drop (cutIx xs.length 0 lo)).take (cutIx xs.length xs.length hi - cutIx xs.length 0 lo)
def evSlc (m : M) (d : D) (lo hi : Option Int) : Option D := match d with
  | .tup xs => some (.tup (cutD xs lo hi))
  | d => (lstOfS m d).map fun xs => .lst (cutD xs lo hi)
def tyOf (m : M) : D → Option Ty
  | .bl _ => some .tBool
  | .int _ => some .tInt
  | .str _ => some .tStr
  | .tup _ => some .tTuple
  | .lst _ => some .tList
  | .ref r => match m[r]? with
    | some (.lst _) => some .tList
    | _ => none
  | _ => none
def isTy (t : Ty) (ts : List Ty) : Bool := ts.any fun u => decide (u = t) || (decide (u = .tInt) && decide (t = .tBool))
def evIsI (m : M) (d : D) (ts : List Ty) : Option Bool := match d with
  | .non => some false
  | d => (tyOf m d).map fun t => isTy t ts
def allBl : List D → Option (List Bool)
  | [] => some []
  | .bl b :: r => (allBl r).map (b :: ·)
  | _ => none
def allInt : List D → Option (List Int)
  | [] => some []
  | .int b :: r => (allInt r).map (b :: ·)
  | _ => none
def one (f : D → Option D) : List D → Option D
  | [a] => f a
  | _ => none
def two (f : D → D → Option D) : List D → Option D
  | [a, b] => f a b
  | _ => none
def evAbs : D → Option D
  | .int i => some (.int (if i < 0 then -i else i))
  | _ => none
def evToInt : D → Option D
  | .int i => some (.int i)
  | .bl b => some (.int (if b then 1 else 0))
  | _ => none
def evMax2 : D → D → Option D
  | .int i, .int j => some (.int (if j > i then j else i))
  | _, _ => none
def evMin2 : D → D → Option D
  | .int i, .int j => some (.int (if j < i then j else i))
  | _, _ => none
def evBlt (m : M) : Blt → List D → Option D
  | .len => one fun a => (itemsOf m a).map fun xs => .int xs.length
  | .abs => one evAbs
  | .toInt => one evToInt
  | .all => one fun a => (lstOf m a).bind fun xs => (allBl xs).map fun bs => .bl (bs.all id)
  | .any => one fun a => (lstOf m a).bind fun xs => (allBl xs).map fun bs => .bl (bs.any id)
  | .sum => one fun a => (lstOf m a).bind fun xs => (allInt xs).map fun ns => .int ns.sum
  | .toTuple => one fun a => (itemsOf m a).map .tup
  | .max2 => two evMax2
  | .min2 => two evMin2
/-- truth of a value, by its kind -/
def evTru (m : M) : D → Option Bool
  | .non => some false
  | .bl b => some b
  | .int i => some (i != 0)
  | .tup xs => some (!xs.isEmpty)
  | .lst xs => some (!xs.isEmpty)
  | .ref r => match m[r]? with
    | some (.lst xs) => some (!xs.isEmpty)
    | _ => none
  | _ => none
mutual
/-- no object that changes is named -/
def nrD : D → Bool
  | .ref _ => false
  | .tup xs | .lst xs | .scr xs => nrDs xs
  | _ => true
def nrDs : List D → Bool
  | [] => true
  | d :: ds => nrD d && nrDs ds
end
mutual
/-- the objects from n on read as g tells -/
def mapRef (g : Nat → Option D) : D → Option D
  | .ref i => g i
  | .tup xs => (mapRefs g xs).map .tup
  | .lst xs => (mapRefs g xs).map .lst
  | .scr _ => none
  | d => some d
def mapRefs (g : Nat → Option D) : List D → Option (List D)
  | [] => some []
  | d :: ds => (mapRef g d).bind fun e => (mapRefs g ds).map fun es => e :: es
end
/-- a value with its own frame's objects (from n on) read off -/
def fz (m : M) (n : Nat) : Nat → D → Option D
  | 0 => mapRef fun i => if i < n then some (.ref i) else none
  | k + 1 => mapRef fun i => if i < n then some (.ref i) else match m[i]? with
    | some (.lst xs) => (mapRefs (fun j => fz m n k (.ref j)) xs).map .lst
    | _ => none
def isRef : D → Option Nat
  | .ref i => some i
  | _ => none
/-- the items of a list of one's own frame -/
def ownTop (n : Nat) (m : M) : D → Option (List D)
  | .ref i => if n ≤ i then (match m[i]? with
    | some (.lst xs) => some xs
    | _ => none) else none
  | _ => none
/-- a call's end: n objects stood at its start; rm: a list that it hands back is to be changed further -/
def finish (rm : Bool) (n : Nat) (d : D) (m : M) : Res D :=
  match (if rm then ownTop n m d else none) with
  | some xs => if nrDs xs then .ok (.ref n) (m.take n ++ [.lst xs]) else .bad
  | none => if m.length ≤ n then .ok d m else match fz m n 4 d with
    | some e => .ok e (m.take n)
    | none => .bad
/-! ### walks -/
mutual
def assignTg : Tg → D → Env' → Option Env'
  | .name i, d, e => some (e.set i (some d))
  | .tup ts, .tup ds, e => assignTgs ts ds e
  | _, _, _ => none
def assignTgs : List Tg → List D → Env' → Option Env'
  | [], [], e => some e
  | t :: ts, d :: ds, e => (assignTg t d e).bind fun e' => assignTgs ts ds e'
  | _, _, _ => none
end
def wipeE (e : Env') : List Nat → Env'
  | [] => e
  | v :: vs => (wipeE e vs).set v none
inductive Src where
  | seq (xs : List D) | rf (r : Nat) (n : Nat)
def getV (e : Env') (i : Nat) : Option D := match e[i]? with
  | some (some d) => some d
  | _ => none
/-- a for over fixed items -/
def forL (step : D → Env' → M → SRes) : List D → Env' → M → SRes
  | [], e, m => .nx e m
  | x :: xs, e, m => match step x e m with
    | .nx e m => forL step xs e m
    | .cnt e m => forL step xs e m
    | .brk e m => .nx e m
    | r => r
/-- a for over a list that may change: turn k, at most n turns -/
def forR (step : D → Env' → M → SRes) (r : Nat) : Nat → Nat → Env' → M → SRes
  | 0, k, e, m => match m[r]? with
    | some (.lst xs) => if xs.length ≤ k then .nx e m else .bad
    | _ => .bad
  | n + 1, k, e, m => match m[r]? with
    | some (.lst xs) => (match xs[k]? with
      | none => .nx e m
      | some x => match step x e m with
        | .nx e m => forR step r n (k + 1) e m
        | .cnt e m => forR step r n (k + 1) e m
        | .brk e m => .nx e m
        | r => r)
    | _ => .bad
def consO : Option D → List D → List D
  | some d, r => d :: r
  | none, r => r
/-- a comprehension over fixed items -/
def compL (f : D → M → Res (Option D)) : List D → M → Res (List D)
  | [], m => .ok [] m
  | x :: xs, m => (f x m).noErr.bind fun o m => (compL f xs m).bind fun r m => .ok (consO o r) m
def whileN (t : Env' → M → Res Bool) (b : Env' → M → SRes) : Nat → Env' → M → SRes
  | 0, _, _ => .bad
  | n + 1, e, m => match t e m with
    | .ok true m => (match b e m with
      | .nx e m => whileN t b n e m
      | .cnt e m => whileN t b n e m
      | .brk e m => .nx e m
      | r => r)
    | .ok false m => .nx e m
    | .err c m => .err c e m
    | .bad => .bad
def whileMost : Nat := 2 ^ 9100
/-- values with all objects read off -/
def fzs (m : M) : List D → Option (List D)
  | [] => some []
  | d :: ds => (fz m 0 4 d).bind fun e => (fzs m ds).map fun es => e :: es
def atomD : D → Bool
  | .non | .bl _ | .int _ | .str _ => true
  | _ => false
/-- what a call that may change nothing gives -/
def pureR (m : M) : Res D → Res D
  | .ok d [] => if atomD d then .ok d m else .bad
  | .err x [] => .err x m
  | _ => .bad
structure Cfg where
  call : Nat → List D → M → Res D
  glob : Nat → Option D
  base : Nat
  nf : Nat
  nc : Nat
def Res.toS (r : Res D) (e : Env') (f : D → M → SRes) : SRes := match r with
  | .ok d m => f d m
  | .err c m => .err c e m
  | .bad => .bad
def pickL {α : Type} (xs : List α) : List Nat → Option (List α)
  | [] => some []
  | i :: is => (xs[i]?).bind fun x => (pickL xs is).map fun r => x :: r
/-! ### the evaluator -/
mutual
def evE (c : Cfg) : CE → Env' → M → Res D
  | .var i, e, m => .of (getV e i) m
  | .int i, _, m => .ok (.int i) m
  | .bl b, _, m => .ok (.bl b) m
  | .non, _, m => .ok .non m
  | .str x, _, m => .ok (.str x) m
  | .glob i, _, m => .of (c.glob i) m
  | .fn i, _, m => .ok (.fn i) m
  | .bin o a b, e, m => (evE c a e m).bind fun x m => (evE c b e m).bind fun y m => .of (evBin m o x y) m
  | .neg a, e, m => (evE c a e m).bind fun x m => match x with
    | .int i => .ok (.int (-i)) m
    | _ => .bad
  | .cmp o a b, e, m => (evE c a e m).bind fun x m => (evE c b e m).bind fun y m => .of ((evCmp o x y).map .bl) m
  | .chain o o' a b d, e, m => (evE c a e m).bind fun x m => (evE c b e m).bind fun y m => match evCmp o x y with
    | some true => (evE c d e m).bind fun z m => .of ((evCmp o' y z).map .bl) m
    | some false => .ok (.bl false) m
    | none => .bad
  | .andV es, e, m => evAnds c es e m
  | .orV es, e, m => evOrs c es e m
  | .notV a, e, m => (evE c a e m).bind fun x m => match x with
    | .bl b => .ok (.bl (!b)) m
    | _ => .bad
  | .orT a b, e, m => (evE c a e m).bind fun x m => match evTru m x with
    | some true => .ok x m
    | some false => evE c b e m
    | none => .bad
  | .ife t a b, e, m => (evT c t e m).bind fun k m => if k then evE c a e m else evE c b e m
  | .tup es, e, m => (evEs c es e m).bind fun ds m => if lineOk ds.length then .ok (.tup ds) m else .bad
  | .lv l, e, m => (evL c l e m).bind fun ds m => .ok (.lst ds) m
  | .lm l, e, m => (evL c l e m).bind fun ds m => .ok (.ref m.length) (m ++ [.lst ds])
  | .frz a, e, m => (evE c a e m).bind fun x m => match x with
    | .ref r => (match m[r]? with
      | some (.lst xs) => if c.base ≤ r then .ok (.lst xs) (m.set r .gone) else .bad
      | _ => .bad)
    | x => .ok x m
  | .idx a b, e, m => (evE c a e m).bind fun x m => (evE c b e m).bind fun y m => .of (evIdx m x y) m
  | .slc a lo hi, e, m => (evE c a e m).bind fun x m => (evO c lo e m).bind fun l m => (evO c hi e m).bind fun h m => .of (evSlc m x l h) m
  | .call f es, e, m => (evEs c es e m).bind fun ds m => c.call f ds m
  | .callL i es, e, m => match getV e i with
    | some (.fn f) => if f < c.nf then (evEs c es e m).bind fun ds m => c.call f ds m else .bad
    | _ => .bad
  | .callK f es ks pm, e, m => (evEs c es e m).bind fun ds m => (evEs c ks e m).bind fun zs m => match pickL (ds ++ zs) pm with
    | some vs => c.call f vs m
    | none => .bad
  | .blt b es, e, m => (evEs c es e m).bind fun ds m => .of (evBlt m b ds) m
  | .isI a ts, e, m => (evE c a e m).bind fun x m => .of ((evIsI m x ts).map .bl) m
  | .excIs _, _, m => .ok (.bl true) m
  | .stuck, _, _ => .bad
  | .callP f es, e, m => (evEs c es e m).bind fun ds m => match fzs m ds with
    | some ds => pureR m (c.call f ds [])
    | none => .bad
def evAnds (c : Cfg) : CEs → Env' → M → Res D
  | .nil, _, _ => .bad
  | .cons a es, e, m => match es with
    | .nil => evE c a e m
    | .cons _ _ => (evE c a e m).bind fun x m => match x with
      | .bl true => evAnds c es e m
      | .bl false => .ok (.bl false) m
      | _ => .bad
def evOrs (c : Cfg) : CEs → Env' → M → Res D
  | .nil, _, _ => .bad
  | .cons a es, e, m => match es with
    | .nil => evE c a e m
    | .cons _ _ => (evE c a e m).bind fun x m => match x with
      | .bl true => .ok (.bl true) m
      | .bl false => evOrs c es e m
      | _ => .bad
def evEs (c : Cfg) : CEs → Env' → M → Res (List D)
  | .nil, _, m => .ok [] m
  | .cons a es, e, m => (evE c a e m).bind fun d m => (evEs c es e m).bind fun ds m => .ok (d :: ds) m
def evO (c : Cfg) : CO → Env' → M → Res (Option Int)
  | .none, _, m => .ok none m
  | .some a, e, m => (evE c a e m).bind fun d m => match d with
    | .int i => .ok (some i) m
    | _ => .bad
def evL (c : Cfg) : CL → Env' → M → Res (List D)
  | .disp es, e, m => (evEs c es e m).bind fun ds m => if lineOk ds.length then .ok ds m else .bad
  | .comp elt tg it cond own, e, m => (evI c it e m).bind fun s m => match s with
    | .seq xs => if lineOk xs.length then compL (fun x m => match assignTg tg x (wipeE e own) with
      | some e' => (evTo c cond e' m).bind fun k m => if k then (evE c elt e' m).bind fun d m => .ok (some d) m else .ok none m
      | none => .bad) xs m else .bad
    | .rf _ _ => .bad
  | .cat a b, e, m => (evE c a e m).bind fun x m => (evE c b e m).bind fun y m => .of (evCatL m x y) m
  | .rep a b, e, m => (evE c a e m).bind fun x m => (evE c b e m).bind fun y m => .of (evRepL m x y) m
  | .lst a, e, m => (evE c a e m).bind fun x m => .of (itemsOf m x) m
  | .slc a lo hi, e, m => (evE c a e m).bind fun x m => (evO c lo e m).bind fun l m => (evO c hi e m).bind fun h m => .of ((lstOfS m x).map fun xs => cutD xs l h) m
def evI (c : Cfg) : CI → Env' → M → Res Src
  | .seq a, e, m => (evE c a e m).bind fun x m => match x with
    | .tup xs => .ok (.seq xs) m
    | .lst xs => .ok (.seq xs) m
    | .ref r => (match m[r]? with
      | some (.lst xs) => .ok (.rf r xs.length) m
      | _ => .bad)
    | _ => .bad
  | .rng1 a, e, m => (evE c a e m).bind fun x m => match x with
    | .int j => if decide (-(2 ^ 62) ≤ j) && decide (j < 2 ^ 62) then .ok (.seq ((List.range j.toNat).map fun (i : Nat) => .int i)) m else .bad
    | _ => .bad
  | .rng2 a b, e, m => (evE c a e m).bind fun x m => (evE c b e m).bind fun y m => match x, y with
    | .int i, .int j => if decide (-(2 ^ 62) ≤ i) && decide (i < 2 ^ 62) && decide (-(2 ^ 62) ≤ j) && decide (j < 2 ^ 62) then .ok (.seq ((List.range (j - i).toNat).map fun (k : Nat) => .int (i + k))) m else .bad
    | _, _ => .bad
  | .rngD a b d, e, m => (evE c a e m).bind fun x m => (evE c b e m).bind fun y m => (evE c d e m).bind fun z m => match x, y, z with
    | .int i, .int j, .int k => if decide (k = -1) && decide (-(2 ^ 62) ≤ i) && decide (i < 2 ^ 62) && decide (-(2 ^ 62) ≤ j) && decide (j < 2 ^ 62) then .ok (.seq ((List.range (i - j).toNat).map fun (k : Nat) => .int (i + k * (-1)))) m else .bad
    | _, _, _ => .bad
  | .enum a, e, m => (evE c a e m).bind fun x m => match x with
    | .lst xs => .ok (.seq ((xs.zipIdx).map fun p => .tup [.int p.2, p.1])) m
    | _ => .bad
  | .zip a b, e, m => (evE c a e m).bind fun x m => (evE c b e m).bind fun y m => match seqOf x, seqOf y with
    | some xs, some ys => .ok (.seq (List.zipWith (fun p q => .tup [p, q]) xs ys)) m
    | _, _ => .bad
def evT (c : Cfg) : CT → Env' → M → Res Bool
  | .val a, e, m => (evE c a e m).bind fun x m => match x with
    | .bl b => .ok b m
    | _ => .bad
  | .tru a, e, m => (evE c a e m).bind fun x m => .of (evTru m x) m
  | .cmp o a b, e, m => (evE c a e m).bind fun x m => (evE c b e m).bind fun y m => .of (evCmp o x y) m
  | .chain o o' a b d, e, m => (evE c a e m).bind fun x m => (evE c b e m).bind fun y m => match evCmp o x y with
    | some true => (evE c d e m).bind fun z m => .of (evCmp o' y z) m
    | some false => .ok false m
    | none => .bad
  | .and ts, e, m => evTAnd c ts e m
  | .or ts, e, m => evTOr c ts e m
  | .not a, e, m => (evT c a e m).bind fun k m => .ok (!k) m
def evTAnd (c : Cfg) : CTs → Env' → M → Res Bool
  | .nil, _, _ => .bad
  | .cons t ts, e, m => match ts with
    | .nil => evT c t e m
    | .cons _ _ => (evT c t e m).bind fun k m => if k then evTAnd c ts e m else .ok false m
def evTOr (c : Cfg) : CTs → Env' → M → Res Bool
  | .nil, _, _ => .bad
  | .cons t ts, e, m => match ts with
    | .nil => evT c t e m
    | .cons _ _ => (evT c t e m).bind fun k m => if k then .ok true m else evTOr c ts e m
def evTo (c : Cfg) : CTo → Env' → M → Res Bool
  | .none, _, m => .ok true m
  | .some t, e, m => evT c t e m
end
/-- an object changed: what is stored names nothing that changes, if the object is a caller's -/
def store (c : Cfg) (m : M) (r : Nat) (xs : List D) (d : D) (e : Env') : SRes := if decide (c.base ≤ r) || nrD d then .nx e (m.set r (.lst xs)) else .bad
def storeI (c : Cfg) (m : M) (o i d : D) (e : Env') : SRes := match o, i with
  | .ref r, .int k => (match m[r]? with
    | some (.lst xs) => (match ixD xs.length k with
      | some j => store c m r (xs.set j d) d e
      | none => .bad)
    | _ => .bad)
  | _, _ => .bad
def dropN (e : Env') : Option Nat → Env'
  | some i => e.set i none
  | none => e
def evH (c : Cfg) : CHs → Nat → Env' → M → SRes
  | .nil, x, e, m => .err x e m
  | .cons y i a hs, x, e, m => if x = y then (match a with
    | .asg j a => (match evE c a (dropN e i) m with
      | .ok d m => .nx ((dropN e i).set j (some d)) m
      | _ => .bad)
    | .ret a => (match evE c a (dropN e i) m with
      | .ok d m => .ret d m
      | _ => .bad)) else evH c hs x e m
mutual
def evS (c : Cfg) : CS → Env' → M → SRes
  | .expr a, e, m => (evE c a e m).toS e fun _ m => .nx e m
  | .ret a, e, m => (evE c a e m).toS e fun d m => .ret d m
  | .retN, _, m => .ret .non m
  | .asg t a, e, m => (evE c a e m).toS e fun d m => match assignTg t d e with
    | some e' => .nx e' m
    | none => .bad
  | .par2 i j a b, e, m => (evE c a e m).toS e fun x m => (evE c b e m).toS e fun y m => .nx ((e.set i (some x)).set j (some y)) m
  | .par3 i j l a b d, e, m => (evE c a e m).toS e fun x m => (evE c b e m).toS e fun y m => (evE c d e m).toS e fun z m => .nx (((e.set i (some x)).set j (some y)).set l (some z)) m
  | .stuck, _, _ => .bad
  | .setI o i a, e, m => (evE c a e m).toS e fun d m => (evE c o e m).toS e fun o m => (evE c i e m).toS e fun i m => storeI c m o i d e
  | .swap o1 i1 o2 i2 a b, e, m => (evE c (.tup (.cons a (.cons b .nil))) e m).toS e fun d m => match d with
    | .tup [x, y] => (evE c o1 e m).toS e fun p m => (evE c i1 e m).toS e fun i m => (match storeI c m p i x e with
      | .nx e m => (evE c o2 e m).toS e fun q m => (evE c i2 e m).toS e fun j m => storeI c m q j y e
      | r => r)
    | _ => .bad
  | .app o a, e, m => (evE c o e m).toS e fun o m => match o with
    | .ref r => (match m[r]? with
      | some (.lst _) => (evE c a e m).toS e fun d m => (match m[r]? with
        | some (.lst xs) => if lineOk xs.length then store c m r (xs ++ [d]) d e else .bad
        | _ => .bad)
      | _ => .bad)
    | _ => .bad
  | .ext o a, e, m => (evE c o e m).toS e fun o m => match o with
    | .ref r => (match m[r]? with
      | some (.lst _) => (evE c a e m).toS e fun d m => (match m[r]?, lstOf m d with
        | some (.lst xs), some ys => if lineOk (xs.length + ys.length) then store c m r (xs ++ ys) (.lst ys) e else .bad
        | _, _ => .bad)
      | _ => .bad)
    | _ => .bad
  | .ife t a b, e, m => match evT c t e m with
    | .ok k m => if k then evSs c a e m else evSs c b e m
    | .err x m => .err x e m
    | .bad => .bad
  | .for_ tg it body, e, m => match evI c it e m with
    | .ok (.seq xs) m => forL (fun x e m => match assignTg tg x e with
      | some e' => evSs c body e' m
      | none => .bad) xs e m
    | .ok (.rf r n) m => forR (fun x e m => match assignTg tg x e with
      | some e' => evSs c body e' m
      | none => .bad) r n 0 e m
    | .err x m => .err x e m
    | .bad => .bad
  | .while_ t body, e, m => whileN (evT c t) (evSs c body) whileMost e m
  | .brk, e, m => .brk e m
  | .cnt, e, m => .cnt e m
  | .pass, e, m => .nx e m
  | .raise x, e, m => .err x e m
  | .try_ body hs, e, m => match evSs c body e m with
    | .err x e m => if x < c.nc then evH c hs x e m else .bad
    | r => r
def evSs (c : Cfg) : CSs → Env' → M → SRes
  | .nil, e, m => .nx e m
  | .cons s ss, e, m => match evS c s e m with
    | .nx e m => evSs c ss e m
    | r => r
end
/-- a def: parameters, slots, body, whether it hands back an object that is changed further -/
structure CDef where
  np : Nat
  ns : Nat
  body : CSs
  rm : Bool := false
def callF (defs : List CDef) (glob : Nat → Option D) (nc : Nat) : Nat → Nat → List D → M → Res D
  | 0, _, _, _ => .bad
  | k + 1, f, ds, m => match defs[f]? with
    | some d => if ds.length = d.np then (match evSs ⟨callF defs glob nc k, glob, m.length, defs.length, nc⟩ d.body (ds.map some ++ List.replicate (d.ns - d.np) none) m with
      | .ret v m' => finish d.rm m.length v m'
      | .nx _ m' => finish d.rm m.length .non m'
      | .err x _ m' => .err x (m'.take m.length)
      | _ => .bad) else .bad
    | none => .bad
end Dx
/-! Dx, part 3: an older frame's objects never come to name a younger one's. -/
namespace Dx
open PySem
mutual
def ltD (b : Nat) : D → Bool
  | .ref i => decide (i < b)
  | .tup xs | .lst xs | .scr xs => ltDs b xs
  | _ => true
def ltDs (b : Nat) : List D → Bool
  | [] => true
  | d :: ds => ltD b d && ltDs b ds
end
mutual
theorem nr_lt (b : Nat) : ∀ d : D, nrD d = true → ltD b d = true
  | .non, _ => rfl
  | .bl _, _ => rfl
  | .int _, _ => rfl
  | .str _, _ => rfl
  | .fn _, _ => rfl
  | .ref i, h => by simp [nrD] at h
  | .tup xs, h => nrs_lt b xs (by simpa [nrD] using h)
  | .lst xs, h => nrs_lt b xs (by simpa [nrD] using h)
  | .scr xs, h => nrs_lt b xs (by simpa [nrD] using h)
theorem nrs_lt (b : Nat) : ∀ ds : List D, nrDs ds = true → ltDs b ds = true
  | [], _ => rfl
  | d :: ds, h => by
    have h' : (nrD d && nrDs ds) = true := by simpa [nrDs] using h
    rw [Bool.and_eq_true] at h'
    show (ltD b d && ltDs b ds) = true
    rw [nr_lt b d h'.1, nrs_lt b ds h'.2]; rfl
end
theorem ltDs_iff {b : Nat} : ∀ {ds : List D}, ltDs b ds = true ↔ ∀ d ∈ ds, ltD b d = true
  | [] => by simp [ltDs]
  | d :: ds => by
    show (ltD b d && ltDs b ds) = true ↔ _
    rw [Bool.and_eq_true, ltDs_iff]
    simp
theorem nrDs_iff : ∀ {ds : List D}, nrDs ds = true ↔ ∀ d ∈ ds, nrD d = true
  | [] => by simp [nrDs]
  | d :: ds => by
    show (nrD d && nrDs ds) = true ↔ _
    rw [Bool.and_eq_true, nrDs_iff]
    simp
def Low (b : Nat) (m : M) : Prop := ∀ j, j < b → ∀ xs, m[j]? = some (.lst xs) → ltDs b xs = true
/-- from m to m': nothing is lost, and older frames stay closed -/
def LowR (base : Nat) (m m' : M) : Prop := m.length ≤ m'.length ∧ ∀ b, b ≤ base → Low b m → Low b m'
theorem LowR.refl {base : Nat} (m : M) : LowR base m m := ⟨Nat.le_refl _, fun _ _ h => h⟩
theorem LowR.trans {base : Nat} {a b c : M} (h : LowR base a b) (h' : LowR base b c) : LowR base a c := ⟨Nat.le_trans h.1 h'.1, fun n l z => h'.2 n l (h.2 n l z)⟩
theorem LowR.mono {b b' : Nat} {m m' : M} (h : LowR b m m') (l : b' ≤ b) : LowR b' m m' := ⟨h.1, fun n k => h.2 n (Nat.le_trans k l)⟩
theorem LowR.push {base : Nat} {m : M} (o : O) (h : base ≤ m.length) : LowR base m (m ++ [o]) := by
  refine ⟨by simp, fun b hb l j hj xs e => l j hj xs ?_⟩
  rw [List.getElem?_append_left (by omega)] at e
  exact e
theorem LowR.set {base r : Nat} {m : M} {xs ys : List D} (h : m[r]? = some (.lst xs)) (hk : base ≤ r ∨ ∀ b, ltDs b xs = true → ltDs b ys = true) : LowR base m (m.set r (.lst ys)) := by
  refine ⟨by simp, fun b hb l j hj zs e => ?_⟩
  by_cases q : r = j
  · subst q
    have hr : r < m.length := (List.getElem?_eq_some_iff.mp h).1
    rw [List.getElem?_set_self hr] at e
    cases e
    rcases hk with hk | hk
    · omega
    · exact hk b (l r hj xs h)
  · rw [List.getElem?_set_ne q] at e
    exact l j hj zs e
theorem LowR.gone {base r : Nat} {m : M} : LowR base m (m.set r .gone) := by
  refine ⟨by simp, fun b hb l j hj zs e => ?_⟩
  by_cases q : r = j
  · subst q
    by_cases hr : r < m.length
    · rw [List.getElem?_set_self hr] at e; cases e
    · rw [List.getElem?_eq_none (by simp; omega)] at e; cases e
  · rw [List.getElem?_set_ne q] at e
    exact l j hj zs e
def LowRes {α : Type} (base : Nat) (m : M) (r : Res α) : Prop := match r with
  | .ok _ m' => LowR base m m'
  | .err _ m' => LowR base m m'
  | .bad => True
def LowS (base : Nat) (m : M) (r : SRes) : Prop := match r with
  | .nx _ m' | .ret _ m' | .brk _ m' | .cnt _ m' | .err _ _ m' => LowR base m m'
  | .bad => True
section
variable {α β : Type} {base : Nat} {m : M}
theorem LowRes.pre {m0 : M} {r : Res α} (h : LowR base m0 m) (q : LowRes base m r) : LowRes base m0 r := by
  cases r with
  | ok a m' => exact h.trans q
  | err c m' => exact h.trans q
  | bad => trivial
theorem LowS.pre {m0 : M} {r : SRes} (h : LowR base m0 m) (q : LowS base m r) : LowS base m0 r := by
  cases r <;> first | exact h.trans q | trivial
theorem LowRes.bind {r : Res α} {f : α → M → Res β} (h : LowRes base m r) (hf : ∀ a m', LowR base m m' → LowRes base m' (f a m')) : LowRes base m (r.bind f) := by
  cases r with
  | ok a m' => exact (hf a m' h).pre h
  | err c m' => exact h
  | bad => trivial
theorem LowRes.ok (a : α) : LowRes base m (.ok a m) := LowR.refl m
theorem LowRes.of (o : Option α) : LowRes base m (.of o m) := by
  cases o with
  | none => trivial
  | some a => exact LowR.refl m
theorem LowRes.noErr {r : Res α} (h : LowRes base m r) : LowRes base m r.noErr := by
  cases r with
  | ok a m' => exact h
  | err c m' => trivial
  | bad => trivial
theorem LowRes.toS {r : Res D} {e : Env'} {f : D → M → SRes} (h : LowRes base m r) (hf : ∀ a m', LowR base m m' → LowS base m' (f a m')) : LowS base m (r.toS e f) := by
  cases r with
  | ok a m' => exact (hf a m' h).pre h
  | err c m' => exact h
  | bad => trivial
end
theorem low_forL {base : Nat} {step : D → Env' → M → SRes} (hs : ∀ x e m, base ≤ m.length → LowS base m (step x e m)) : ∀ (xs : List D) (e : Env') (m : M), base ≤ m.length → LowS base m (forL step xs e m)
  | [], _, m, _ => LowR.refl m
  | x :: xs, e, m, hb => by
    have h := hs x e m hb
    unfold forL
    cases q : step x e m with
    | nx e' m' => rw [q] at h; exact (low_forL hs xs e' m' (Nat.le_trans hb h.1)).pre h
    | cnt e' m' => rw [q] at h; exact (low_forL hs xs e' m' (Nat.le_trans hb h.1)).pre h
    | brk e' m' => rw [q] at h; exact h
    | ret d m' => rw [q] at h; exact h
    | err c e' m' => rw [q] at h; exact h
    | bad => trivial
theorem low_forR {base : Nat} {step : D → Env' → M → SRes} {r : Nat} (hs : ∀ x e m, base ≤ m.length → LowS base m (step x e m)) : ∀ (n k : Nat) (e : Env') (m : M), base ≤ m.length → LowS base m (forR step r n k e m)
  | 0, k, e, m, _ => by
    unfold forR
    split
    · split
      · exact LowR.refl m
      · trivial
    · trivial
  | n + 1, k, e, m, hb => by
    unfold forR
    split
    · split
      · exact LowR.refl m
      · rename_i x _
        have h := hs x e m hb
        cases q : step x e m with
        | nx e' m' => rw [q] at h; exact (low_forR hs n (k + 1) e' m' (Nat.le_trans hb h.1)).pre h
        | cnt e' m' => rw [q] at h; exact (low_forR hs n (k + 1) e' m' (Nat.le_trans hb h.1)).pre h
        | brk e' m' => rw [q] at h; exact h
        | ret d m' => rw [q] at h; exact h
        | err c e' m' => rw [q] at h; exact h
        | bad => trivial
    · trivial
theorem low_compL {base : Nat} {f : D → M → Res (Option D)} (hs : ∀ x m, base ≤ m.length → LowRes base m (f x m)) : ∀ (xs : List D) (m : M), base ≤ m.length → LowRes base m (compL f xs m)
  | [], m, _ => LowR.refl m
  | x :: xs, m, hb => by
    unfold compL
    exact (hs x m hb).noErr.bind fun o m' h => (low_compL hs xs m' (Nat.le_trans hb h.1)).bind fun r m'' _ => LowRes.ok _
theorem low_whileN {base : Nat} {t : Env' → M → Res Bool} {b : Env' → M → SRes} (ht : ∀ e m, base ≤ m.length → LowRes base m (t e m)) (hs : ∀ e m, base ≤ m.length → LowS base m (b e m)) :
    ∀ (n : Nat) (e : Env') (m : M), base ≤ m.length → LowS base m (whileN t b n e m)
  | 0, _, _, _ => trivial
  | n + 1, e, m, hb => by
    have h := ht e m hb
    unfold whileN
    cases q : t e m with
    | ok k m' =>
      rw [q] at h
      cases k with
      | false => exact h
      | true =>
        have hb' := Nat.le_trans hb h.1
        have h2 := hs e m' hb'
        simp only
        cases q2 : b e m' with
        | nx e' m'' => rw [q2] at h2; exact ((low_whileN ht hs n e' m'' (Nat.le_trans hb' h2.1)).pre h2).pre h
        | cnt e' m'' => rw [q2] at h2; exact ((low_whileN ht hs n e' m'' (Nat.le_trans hb' h2.1)).pre h2).pre h
        | brk e' m'' => rw [q2] at h2; exact h.trans h2
        | ret d m'' => rw [q2] at h2; exact h.trans h2
        | err c e' m'' => rw [q2] at h2; exact h.trans h2
        | bad => trivial
    | err c m' => rw [q] at h; exact h
    | bad => trivial
structure Cfg.Low (c : Cfg) : Prop where
  call : ∀ f ds m, LowRes m.length m (c.call f ds m)
section
variable {c : Cfg} (L : c.Low)
include L
theorem Cfg.Low.at_ {m : M} (hb : c.base ≤ m.length) (f : Nat) (ds : List D) : LowRes c.base m (c.call f ds m) := by
  have h := L.call f ds m
  cases q : c.call f ds m with
  | ok d m' => rw [q] at h; exact LowR.mono h hb
  | err x m' => rw [q] at h; exact LowR.mono h hb
  | bad => trivial
mutual
theorem low_E : ∀ (a : CE) (e : Env') (m : M), c.base ≤ m.length → LowRes c.base m (evE c a e m)
  | .var i, e, m, _ => LowRes.of _
  | .int i, _, m, _ => LowRes.ok _
  | .bl b, _, m, _ => LowRes.ok _
  | .non, _, m, _ => LowRes.ok _
  | .str x, _, m, _ => LowRes.ok _
  | .glob i, _, m, _ => LowRes.of _
  | .fn i, _, m, _ => LowRes.ok _
  | .bin o a b, e, m, hb => by
    unfold evE
    exact (low_E a e m hb).bind fun x m1 h1 => (low_E b e m1 (Nat.le_trans hb h1.1)).bind fun y m2 h2 => LowRes.of _
  | .neg a, e, m, hb => by
    unfold evE
    refine (low_E a e m hb).bind fun x m1 h1 => ?_
    split <;> first | exact LowRes.ok _ | trivial
  | .cmp o a b, e, m, hb => by
    unfold evE
    exact (low_E a e m hb).bind fun x m1 h1 => (low_E b e m1 (Nat.le_trans hb h1.1)).bind fun y m2 h2 => LowRes.of _
  | .chain o o' a b d, e, m, hb => by
    unfold evE
    refine (low_E a e m hb).bind fun x m1 h1 => (low_E b e m1 (Nat.le_trans hb h1.1)).bind fun y m2 h2 => ?_
    split
    · exact (low_E d e m2 (Nat.le_trans (Nat.le_trans hb h1.1) h2.1)).bind fun z m3 h3 => LowRes.of _
    · exact LowRes.ok _
    · trivial
  | .andV es, e, m, hb => low_Ands es e m hb
  | .orV es, e, m, hb => low_Ors es e m hb
  | .notV a, e, m, hb => by
    unfold evE
    refine (low_E a e m hb).bind fun x m1 h1 => ?_
    split <;> first | exact LowRes.ok _ | trivial
  | .orT a b, e, m, hb => by
    unfold evE
    refine (low_E a e m hb).bind fun x m1 h1 => ?_
    split
    · exact LowRes.ok _
    · exact low_E b e m1 (Nat.le_trans hb h1.1)
    · trivial
  | .ife t a b, e, m, hb => by
    unfold evE
    refine (low_T t e m hb).bind fun k m1 h1 => ?_
    cases k
    · exact low_E b e m1 (Nat.le_trans hb h1.1)
    · exact low_E a e m1 (Nat.le_trans hb h1.1)
  | .tup es, e, m, hb => by
    unfold evE
    refine (low_Es es e m hb).bind fun ds m1 h1 => ?_
    split <;> first | exact LowRes.ok _ | trivial
  | .lv l, e, m, hb => by
    unfold evE
    exact (low_L l e m hb).bind fun ds m1 h1 => LowRes.ok _
  | .lm l, e, m, hb => by
    unfold evE
    exact (low_L l e m hb).bind fun ds m1 h1 => LowR.push _ (Nat.le_trans hb h1.1)
  | .frz a, e, m, hb => by
    unfold evE
    refine (low_E a e m hb).bind fun x m1 h1 => ?_
    split
    · split
      · split
        · exact LowR.gone
        · trivial
      · trivial
    · exact LowRes.ok _
  | .idx a b, e, m, hb => by
    unfold evE
    exact (low_E a e m hb).bind fun x m1 h1 => (low_E b e m1 (Nat.le_trans hb h1.1)).bind fun y m2 h2 => LowRes.of _
  | .slc a lo hi, e, m, hb => by
    unfold evE
    exact (low_E a e m hb).bind fun x m1 h1 => (low_O lo e m1 (Nat.le_trans hb h1.1)).bind fun y m2 h2 => (low_O hi e m2 (Nat.le_trans (Nat.le_trans hb h1.1) h2.1)).bind fun z m3 h3 => LowRes.of _
  | .call f es, e, m, hb => by
    unfold evE
    exact (low_Es es e m hb).bind fun ds m1 h1 => L.at_ (Nat.le_trans hb h1.1) f ds
  | .callL i es, e, m, hb => by
    unfold evE
    split
    · split
      · exact (low_Es es e m hb).bind fun ds m1 h1 => L.at_ (Nat.le_trans hb h1.1) _ ds
      · trivial
    · trivial
  | .callK f es ks pm, e, m, hb => by
    unfold evE
    refine (low_Es es e m hb).bind fun ds m1 h1 => (low_Es ks e m1 (Nat.le_trans hb h1.1)).bind fun zs m2 h2 => ?_
    split
    · exact L.at_ (Nat.le_trans (Nat.le_trans hb h1.1) h2.1) f _
    · trivial
  | .blt b es, e, m, hb => by
    unfold evE
    exact (low_Es es e m hb).bind fun ds m1 h1 => LowRes.of _
  | .isI a ts, e, m, hb => by
    unfold evE
    exact (low_E a e m hb).bind fun ds m1 h1 => LowRes.of _
  | .excIs _, _, m, _ => LowRes.ok _
  | .stuck, _, m, _ => trivial
  | .callP f es, e, m, hb => by
    unfold evE
    refine (low_Es es e m hb).bind fun ds m1 h1 => ?_
    split
    · unfold pureR
      split
      · split <;> first | exact LowRes.ok _ | trivial
      · exact LowR.refl _
      · trivial
    · trivial
theorem low_Ands : ∀ (a : CEs) (e : Env') (m : M), c.base ≤ m.length → LowRes c.base m (evAnds c a e m)
  | .nil, _, m, _ => trivial
  | .cons a .nil, e, m, hb => by
    unfold evAnds
    exact low_E a e m hb
  | .cons a (.cons b es), e, m, hb => by
    unfold evAnds
    refine (low_E a e m hb).bind fun x m1 h1 => ?_
    split
    · exact low_Ands (.cons b es) e m1 (Nat.le_trans hb h1.1)
    · exact LowRes.ok _
    · trivial
theorem low_Ors : ∀ (a : CEs) (e : Env') (m : M), c.base ≤ m.length → LowRes c.base m (evOrs c a e m)
  | .nil, _, m, _ => trivial
  | .cons a .nil, e, m, hb => by
    unfold evOrs
    exact low_E a e m hb
  | .cons a (.cons b es), e, m, hb => by
    unfold evOrs
    refine (low_E a e m hb).bind fun x m1 h1 => ?_
    split
    · exact LowRes.ok _
    · exact low_Ors (.cons b es) e m1 (Nat.le_trans hb h1.1)
    · trivial
theorem low_Es : ∀ (a : CEs) (e : Env') (m : M), c.base ≤ m.length → LowRes c.base m (evEs c a e m)
  | .nil, _, m, _ => LowRes.ok _
  | .cons a es, e, m, hb => by
    unfold evEs
    exact (low_E a e m hb).bind fun d m1 h1 => (low_Es es e m1 (Nat.le_trans hb h1.1)).bind fun ds m2 h2 => LowRes.ok _
theorem low_O : ∀ (a : CO) (e : Env') (m : M), c.base ≤ m.length → LowRes c.base m (evO c a e m)
  | .none, _, m, _ => LowRes.ok _
  | .some a, e, m, hb => by
    unfold evO
    refine (low_E a e m hb).bind fun d m1 h1 => ?_
    split <;> first | exact LowRes.ok _ | trivial
theorem low_L : ∀ (a : CL) (e : Env') (m : M), c.base ≤ m.length → LowRes c.base m (evL c a e m)
  | .disp es, e, m, hb => by
    unfold evL
    refine (low_Es es e m hb).bind fun ds m1 h1 => ?_
    split <;> first | exact LowRes.ok _ | trivial
  | .comp elt tg it cond own, e, m, hb => by
    unfold evL
    refine (low_I it e m hb).bind fun s m1 h1 => ?_
    split
    · split
      · refine low_compL (fun x m2 hb2 => ?_) _ m1 (Nat.le_trans hb h1.1)
        split
        · rename_i e' _
          refine (low_To cond e' m2 hb2).bind fun k m3 h3 => ?_
          cases k
          · exact LowRes.ok _
          · exact (low_E elt e' m3 (Nat.le_trans hb2 h3.1)).bind fun d m4 h4 => LowRes.ok _
        · trivial
      · trivial
    · trivial
  | .cat a b, e, m, hb => by
    unfold evL
    exact (low_E a e m hb).bind fun x m1 h1 => (low_E b e m1 (Nat.le_trans hb h1.1)).bind fun y m2 h2 => LowRes.of _
  | .rep a b, e, m, hb => by
    unfold evL
    exact (low_E a e m hb).bind fun x m1 h1 => (low_E b e m1 (Nat.le_trans hb h1.1)).bind fun y m2 h2 => LowRes.of _
  | .lst a, e, m, hb => by
    unfold evL
    exact (low_E a e m hb).bind fun x m1 h1 => LowRes.of _
  | .slc a lo hi, e, m, hb => by
    unfold evL
    exact (low_E a e m hb).bind fun x m1 h1 => (low_O lo e m1 (Nat.le_trans hb h1.1)).bind fun y m2 h2 => (low_O hi e m2 (Nat.le_trans (Nat.le_trans hb h1.1) h2.1)).bind fun z m3 h3 => LowRes.of _
theorem low_I : ∀ (a : CI) (e : Env') (m : M), c.base ≤ m.length → LowRes c.base m (evI c a e m)
  | .seq a, e, m, hb => by
    unfold evI
    refine (low_E a e m hb).bind fun x m1 h1 => ?_
    split
    · exact LowRes.ok _
    · exact LowRes.ok _
    · split <;> first | exact LowRes.ok _ | trivial
    · trivial
  | .rng1 a, e, m, hb => by
    unfold evI
    refine (low_E a e m hb).bind fun x m1 h1 => ?_
    split
    · split <;> first | exact LowRes.ok _ | trivial
    · trivial
  | .rng2 a b, e, m, hb => by
    unfold evI
    refine (low_E a e m hb).bind fun x m1 h1 => (low_E b e m1 (Nat.le_trans hb h1.1)).bind fun y m2 h2 => ?_
    split
    · split <;> first | exact LowRes.ok _ | trivial
    · trivial
  | .rngD a b d, e, m, hb => by
    unfold evI
    refine (low_E a e m hb).bind fun x m1 h1 => (low_E b e m1 (Nat.le_trans hb h1.1)).bind fun y m2 h2 => (low_E d e m2 (Nat.le_trans hb (Nat.le_trans h1.1 h2.1))).bind fun z m3 h3 => ?_
    split
    · split <;> first | exact LowRes.ok _ | trivial
    · trivial
  | .enum a, e, m, hb => by
    unfold evI
    refine (low_E a e m hb).bind fun x m1 h1 => ?_
    split <;> first | exact LowRes.ok _ | trivial
  | .zip a b, e, m, hb => by
    unfold evI
    refine (low_E a e m hb).bind fun x m1 h1 => (low_E b e m1 (Nat.le_trans hb h1.1)).bind fun y m2 h2 => ?_
    split <;> first | exact LowRes.ok _ | trivial
theorem low_T : ∀ (a : CT) (e : Env') (m : M), c.base ≤ m.length → LowRes c.base m (evT c a e m)
  | .val a, e, m, hb => by
    unfold evT
    refine (low_E a e m hb).bind fun x m1 h1 => ?_
    split <;> first | exact LowRes.ok _ | trivial
  | .tru a, e, m, hb => by
    unfold evT
    exact (low_E a e m hb).bind fun x m1 h1 => LowRes.of _
  | .cmp o a b, e, m, hb => by
    unfold evT
    exact (low_E a e m hb).bind fun x m1 h1 => (low_E b e m1 (Nat.le_trans hb h1.1)).bind fun y m2 h2 => LowRes.of _
  | .chain o o' a b d, e, m, hb => by
    unfold evT
    refine (low_E a e m hb).bind fun x m1 h1 => (low_E b e m1 (Nat.le_trans hb h1.1)).bind fun y m2 h2 => ?_
    split
    · exact (low_E d e m2 (Nat.le_trans (Nat.le_trans hb h1.1) h2.1)).bind fun z m3 h3 => LowRes.of _
    · exact LowRes.ok _
    · trivial
  | .and ts, e, m, hb => low_TAnd ts e m hb
  | .or ts, e, m, hb => low_TOr ts e m hb
  | .not a, e, m, hb => by
    unfold evT
    exact (low_T a e m hb).bind fun k m1 h1 => LowRes.ok _
theorem low_TAnd : ∀ (a : CTs) (e : Env') (m : M), c.base ≤ m.length → LowRes c.base m (evTAnd c a e m)
  | .nil, _, m, _ => trivial
  | .cons a .nil, e, m, hb => by
    unfold evTAnd
    exact low_T a e m hb
  | .cons a (.cons b es), e, m, hb => by
    unfold evTAnd
    refine (low_T a e m hb).bind fun k m1 h1 => ?_
    cases k
    · exact LowRes.ok _
    · exact low_TAnd (.cons b es) e m1 (Nat.le_trans hb h1.1)
theorem low_TOr : ∀ (a : CTs) (e : Env') (m : M), c.base ≤ m.length → LowRes c.base m (evTOr c a e m)
  | .nil, _, m, _ => trivial
  | .cons a .nil, e, m, hb => by
    unfold evTOr
    exact low_T a e m hb
  | .cons a (.cons b es), e, m, hb => by
    unfold evTOr
    refine (low_T a e m hb).bind fun k m1 h1 => ?_
    cases k
    · exact low_TOr (.cons b es) e m1 (Nat.le_trans hb h1.1)
    · exact LowRes.ok _
theorem low_To : ∀ (a : CTo) (e : Env') (m : M), c.base ≤ m.length → LowRes c.base m (evTo c a e m)
  | .none, _, m, _ => LowRes.ok _
  | .some t, e, m, hb => by
    unfold evTo
    exact low_T t e m hb
end
omit L in
theorem low_store {m : M} {r : Nat} {xs ys : List D} {d : D} {e : Env'} (h : m[r]? = some (.lst xs)) (hk : nrD d = true → ∀ b, ltDs b xs = true → ltDs b ys = true) : LowS c.base m (store c m r ys d e) := by
  unfold store
  split
  · rename_i q
    rw [Bool.or_eq_true] at q
    refine LowR.set h ?_
    rcases q with q | q
    · exact .inl (of_decide_eq_true q)
    · exact .inr (hk q)
  · trivial
omit L in
theorem ltDs_set {b : Nat} {xs : List D} {j : Nat} {d : D} (h : ltDs b xs = true) (hd : ltD b d = true) : ltDs b (xs.set j d) = true := by
  rw [ltDs_iff] at h ⊢
  intro x hx
  rcases List.mem_or_eq_of_mem_set hx with q | q
  · exact h x q
  · rw [q]; exact hd
omit L in
theorem low_storeI {m : M} {o i d : D} {e : Env'} : LowS c.base m (storeI c m o i d e) := by
  unfold storeI
  split
  · split
    · split
      · rename_i h _ _ _
        exact low_store h fun q b l => ltDs_set l (nr_lt b d q)
      · trivial
    · trivial
  · trivial
omit L in
theorem ltDs_append {b : Nat} {xs ys : List D} (h : ltDs b xs = true) (h' : ltDs b ys = true) : ltDs b (xs ++ ys) = true := by
  rw [ltDs_iff] at h h' ⊢
  intro x hx
  rcases List.mem_append.mp hx with q | q
  · exact h x q
  · exact h' x q
theorem low_H : ∀ (a : CHs) (x : Nat) (e : Env') (m : M), c.base ≤ m.length → LowS c.base m (evH c a x e m)
  | .nil, x, e, m, hb => LowR.refl _
  | .cons y i a hs, x, e, m, hb => by
    unfold evH
    split
    · split
      · rename_i a
        have h := low_E L a (dropN e i) m hb
        split
        · rename_i q; rw [q] at h; exact h
        · trivial
      · rename_i a
        have h := low_E L a (dropN e i) m hb
        split
        · rename_i q; rw [q] at h; exact h
        · trivial
    · exact low_H hs x e m hb
mutual
theorem low_S : ∀ (a : CS) (e : Env') (m : M), c.base ≤ m.length → LowS c.base m (evS c a e m)
  | .expr a, e, m, hb => by
    unfold evS
    exact (low_E L a e m hb).toS fun x m1 h1 => LowR.refl _
  | .ret a, e, m, hb => by
    unfold evS
    exact (low_E L a e m hb).toS fun x m1 h1 => LowR.refl _
  | .retN, e, m, hb => LowR.refl _
  | .asg t a, e, m, hb => by
    unfold evS
    refine (low_E L a e m hb).toS fun x m1 h1 => ?_
    split <;> first | exact LowR.refl _ | trivial
  | .par2 i j a b, e, m, hb => by
    unfold evS
    exact (low_E L a e m hb).toS fun x m1 h1 => (low_E L b e m1 (Nat.le_trans hb h1.1)).toS fun y m2 h2 => LowR.refl _
  | .par3 i j l a b d, e, m, hb => by
    unfold evS
    exact (low_E L a e m hb).toS fun x m1 h1 => (low_E L b e m1 (Nat.le_trans hb h1.1)).toS fun y m2 h2 => (low_E L d e m2 (Nat.le_trans hb (Nat.le_trans h1.1 h2.1))).toS fun z m3 h3 => LowR.refl _
  | .stuck, e, m, hb => trivial
  | .setI o i a, e, m, hb => by
    unfold evS
    exact (low_E L a e m hb).toS fun x m1 h1 => (low_E L o e m1 (Nat.le_trans hb h1.1)).toS fun y m2 h2 => (low_E L i e m2 (Nat.le_trans (Nat.le_trans hb h1.1) h2.1)).toS fun z m3 h3 => low_storeI
  | .swap o1 i1 o2 i2 a b, e, m, hb => by
    unfold evS
    refine (low_E L (.tup (.cons a (.cons b .nil))) e m hb).toS fun d m2 h2 => ?_
    have hb2 := Nat.le_trans hb h2.1
    split
    rotate_left
    · trivial
    rename_i x y
    refine (low_E L o1 e m2 hb2).toS fun p m3 h3 => (low_E L i1 e m3 (Nat.le_trans hb2 h3.1)).toS fun z m4 h4 => ?_
    have hb4 := Nat.le_trans (Nat.le_trans hb2 h3.1) h4.1
    have hs : LowS c.base m4 (storeI c m4 p z x e) := low_storeI
    cases q : storeI c m4 p z x e with
    | nx e' m5 =>
      rw [q] at hs
      have hb5 := Nat.le_trans hb4 hs.1
      exact ((low_E L o2 e' m5 hb5).toS fun p m6 h6 => (low_E L i2 e' m6 (Nat.le_trans hb5 h6.1)).toS fun z m7 h7 => low_storeI).pre hs
    | ret d m5 => rw [q] at hs; exact hs
    | brk e' m5 => rw [q] at hs; exact hs
    | cnt e' m5 => rw [q] at hs; exact hs
    | err x' e' m5 => rw [q] at hs; exact hs
    | bad => trivial
  | .app o a, e, m, hb => by
    unfold evS
    refine (low_E L o e m hb).toS fun x m1 h1 => ?_
    split
    · split
      · refine (low_E L a e m1 (Nat.le_trans hb h1.1)).toS fun d m2 h2 => ?_
        split
        · split
          · rename_i h _
            refine low_store h fun q b l => ltDs_append l ?_
            rw [ltDs_iff]
            intro z hz
            rw [List.mem_singleton.mp hz]
            exact nr_lt b d q
          · trivial
        · trivial
      · trivial
    · trivial
  | .ext o a, e, m, hb => by
    unfold evS
    refine (low_E L o e m hb).toS fun x m1 h1 => ?_
    split
    · split
      · refine (low_E L a e m1 (Nat.le_trans hb h1.1)).toS fun d m2 h2 => ?_
        split
        · split
          · rename_i h _ _
            refine low_store h fun q b l => ltDs_append l ?_
            exact nrs_lt b _ (by simpa [nrD] using q)
          · trivial
        · trivial
      · trivial
    · trivial
  | .ife t a b, e, m, hb => by
    unfold evS
    have h := low_T L t e m hb
    cases q : evT c t e m with
    | ok k m1 =>
      rw [q] at h
      cases k
      · exact (low_Ss b e m1 (Nat.le_trans hb h.1)).pre h
      · exact (low_Ss a e m1 (Nat.le_trans hb h.1)).pre h
    | err x m1 => rw [q] at h; exact h
    | bad => trivial
  | .for_ tg it body, e, m, hb => by
    unfold evS
    have h := low_I L it e m hb
    have st : ∀ (x : D) (e : Env') (m : M), c.base ≤ m.length → LowS c.base m (match assignTg tg x e with
      | some e' => evSs c body e' m
      | none => .bad) := fun x e m hb => by
      split
      · exact low_Ss body _ m hb
      · trivial
    cases q : evI c it e m with
    | ok s m1 =>
      rw [q] at h
      cases s with
      | seq xs => exact (low_forL st xs e m1 (Nat.le_trans hb h.1)).pre h
      | rf r n => exact (low_forR st n 0 e m1 (Nat.le_trans hb h.1)).pre h
    | err x m1 => rw [q] at h; exact h
    | bad => trivial
  | .while_ t body, e, m, hb => by
    unfold evS
    exact low_whileN (fun e m hb => low_T L t e m hb) (fun e m hb => low_Ss body e m hb) _ e m hb
  | .brk, e, m, hb => LowR.refl _
  | .cnt, e, m, hb => LowR.refl _
  | .pass, e, m, hb => LowR.refl _
  | .raise x, e, m, hb => LowR.refl _
  | .try_ body hs, e, m, hb => by
    unfold evS
    have h := low_Ss body e m hb
    cases q : evSs c body e m with
    | err x e' m1 =>
      rw [q] at h
      dsimp only
      split
      · exact (low_H L hs x e' m1 (Nat.le_trans hb h.1)).pre h
      · trivial
    | nx e' m1 => rw [q] at h; exact h
    | ret d m1 => rw [q] at h; exact h
    | brk e' m1 => rw [q] at h; exact h
    | cnt e' m1 => rw [q] at h; exact h
    | bad => trivial
theorem low_Ss : ∀ (a : CSs) (e : Env') (m : M), c.base ≤ m.length → LowS c.base m (evSs c a e m)
  | .nil, e, m, hb => LowR.refl _
  | .cons s ss, e, m, hb => by
    unfold evSs
    have h := low_S s e m hb
    cases q : evS c s e m with
    | nx e' m1 => rw [q] at h; exact (low_Ss ss e' m1 (Nat.le_trans hb h.1)).pre h
    | err x e' m1 => rw [q] at h; exact h
    | ret d m1 => rw [q] at h; exact h
    | brk e' m1 => rw [q] at h; exact h
    | cnt e' m1 => rw [q] at h; exact h
    | bad => trivial
end
end
theorem low_take {m m' : M} {n : Nat} (hn : n = m.length) (h : LowR n m m') : LowR n m (m'.take n) := by
  refine ⟨by simp [hn]; have := h.1; omega, fun b hb l j hj xs e => ?_⟩
  rw [List.getElem?_take_of_lt (by omega)] at e
  exact h.2 b hb l j hj xs e
theorem low_finish {rm : Bool} {m m' : M} {d : D} (h : LowR m.length m m') : LowRes m.length m (finish rm m.length d m') := by
  unfold finish
  split
  · split
    · exact (low_take rfl h).trans (LowR.push _ (by simp; have := h.1; omega))
    · trivial
  · split
    · exact h
    · split
      · exact low_take rfl h
      · trivial
theorem low_call (defs : List CDef) (glob : Nat → Option D) (nc : Nat) : ∀ (k f : Nat) (ds : List D) (m : M), LowRes m.length m (callF defs glob nc k f ds m)
  | 0, _, _, _ => trivial
  | k + 1, f, ds, m => by
    unfold callF
    split
    · rename_i d _
      split
      · have h := low_Ss (c := ⟨callF defs glob nc k, glob, m.length, defs.length, nc⟩) ⟨fun f ds m => low_call defs glob nc k f ds m⟩ d.body (ds.map some ++ List.replicate (d.ns - d.np) none) m (Nat.le_refl _)
        split
        · rename_i q; rw [q] at h; exact low_finish h
        · rename_i q; rw [q] at h; exact low_finish h
        · rename_i q; rw [q] at h; exact low_take rfl h
        · trivial
      · trivial
    · trivial
end Dx
/-! Dx, part 4: how data lies, through steps. -/
namespace Dx
open PySem PySem.Spec PyProof.Rows L2
abbrev Hot (Z : Addr → Prop) (H : Hp) : Prop := ∀ a, Z a → Mut (H a)
section
variable {K : PySem.W.Frag} {fa : Nat → Addr} {ρ ρ1 ρ2 : List Addr} {Z Z1 Z2 : Addr → Prop} {H H1 H2 : Hp}
theorem Step.refl : Step ρ Z H ρ Z H := ⟨⟨[], by simp⟩, fun _ h n => absurd h n, fun _ h n => absurd h n, fun _ _ h _ => h, fun _ h _ => h⟩
theorem Step.old (s : Step ρ Z H ρ1 Z1 H1) {a : Addr} (h : a ∈ ρ) : a ∈ ρ1 := by
  obtain ⟨t, e⟩ := s.pre
  rw [e]
  exact List.mem_append_left _ h
theorem Step.ix (s : Step ρ Z H ρ1 Z1 H1) {i : Nat} {a : Addr} (h : ρ[i]? = some a) : ρ1[i]? = some a := by
  obtain ⟨t, e⟩ := s.pre
  rw [e, List.getElem?_append_left (List.getElem?_eq_some_iff.mp h).1]
  exact h
theorem Step.trans (hot : Hot Z H) (s : Step ρ Z H ρ1 Z1 H1) (t : Step ρ1 Z1 H1 ρ2 Z2 H2) : Step ρ Z H ρ2 Z2 H2 where
  pre := by
    obtain ⟨a, ea⟩ := s.pre
    obtain ⟨b, eb⟩ := t.pre
    exact ⟨a ++ b, by rw [eb, ea, List.append_assoc]⟩
  newr := fun a h n => by
    by_cases q : a ∈ ρ1
    · exact s.newr a q n
    · have e := t.newr a h q
      cases z : H a with
      | none => rfl
      | some o => rw [s.keep a o z (.inl n)] at e; cases e
  newz := fun a h n => by
    by_cases q : Z1 a
    · exact s.newz a q n
    · have e := t.newz a h q
      cases z : H a with
      | none => rfl
      | some o => rw [s.keep a o z (.inr n)] at e; cases e
  keep := fun a o h n => by
    refine t.keep a o (s.keep a o h n) ?_
    rcases n with n | n
    · refine .inl fun q => ?_
      rw [s.newr a q n] at h; cases h
    · refine .inr fun q => ?_
      rw [s.newz a q n] at h; cases h
  hotk := fun a h n => by
    refine t.hotk a (s.hotk a h n) fun q => ?_
    have e := s.newr a q n
    have z := hot a h
    rw [e] at z
    exact z
/-- a new object that is not to change is laid -/
theorem Step.laid {p : Addr} {o : HO} (hp : H p = none) : Step ρ Z H ρ Z (upd H p o) :=
  ⟨⟨[], by simp⟩, fun _ h n => absurd h n, fun _ h n => absurd h n, fun a o h _ => by rw [upd_ne (ne_of_none h hp)]; exact h, fun _ h _ => h⟩
theorem Hot.laid (hot : Hot Z H) {p : Addr} {o : HO} (hp : H p = none) : Hot Z (upd H p o) := fun a h => by
  have q := hot a h
  rw [upd_ne (fun e => by rw [e, hp] at q; exact q)]
  exact q
theorem lst_mono (s : Step ρ Z H ρ1 Z1 H1) {p : Addr} {vs : List V} (h : H p = some (.lst vs)) (n : ¬ Z p) : H1 p = some (.lst vs) ∧ ¬ Z1 p :=
  ⟨s.keep p _ h (.inr n), fun q => by rw [s.newz p q n] at h; cases h⟩
theorem frz_mono (s : Step ρ Z H ρ1 Z1 H1) (hot : Hot Z H) {p : Addr} {o : Obj} {u : HO} (h : H p = some (.frz o u)) : H1 p = some (.frz o u) :=
  s.keep p _ h (.inr fun z => by have q := hot p z; rw [h] at q; exact q)
theorem SqF.mono (s : Step ρ Z H ρ1 Z1 H1) (hot : Hot Z H) {p : Addr} {vs : List V} (h : SqF K H p vs) : SqF K H1 p vs := by
  rcases h with ⟨o, h⟩ | h
  · exact .inl ⟨o, frz_mono s hot h⟩
  · exact .inr h
theorem SqT.mono (s : Step ρ Z H ρ1 Z1 H1) (hot : Hot Z H) {p : Addr} {vs : List V} (h : SqT K H p vs) : SqT K H1 p vs := by
  rcases h with (h | ⟨o, h⟩) | h
  · exact .inl (.inl (s.keep p _ h (.inr fun z => by have q := hot p z; rw [h] at q; exact q)))
  · exact .inl (.inr ⟨o, s.keep p _ h (.inr fun z => by have q := hot p z; rw [h] at q; exact q)⟩)
  · exact .inr h
mutual
theorem RelD.mono (s : Step ρ Z H ρ1 Z1 H1) (hot : Hot Z H) : ∀ (d : D) (v : V), RelD K fa ρ Z H d v → RelD K fa ρ1 Z1 H1 d v
  | .non, _, h => h
  | .bl _, _, h => h
  | .int _, _, h => h
  | .str _, _, h => h
  | .fn _, _, h => h
  | .ref i, _, h => by
    obtain ⟨p, e, q⟩ := h
    exact ⟨p, e, s.ix q⟩
  | .tup ds, _, h => by
    obtain ⟨p, vs, e, q, r⟩ := h
    exact ⟨p, vs, e, SqT.mono s hot q, RelDs.mono s hot ds vs r⟩
  | .lst ds, _, h => by
    obtain ⟨p, vs, e, q, n, r⟩ := h
    have z := lst_mono s q n
    exact ⟨p, vs, e, z.1, z.2, RelDs.mono s hot ds vs r⟩
  | .scr ds, _, h => by
    obtain ⟨p, vs, e, q, r⟩ := h
    exact ⟨p, vs, e, SqF.mono s hot q, RelDs.mono s hot ds vs r⟩
theorem RelDs.mono (s : Step ρ Z H ρ1 Z1 H1) (hot : Hot Z H) : ∀ (ds : List D) (vs : List V), RelDs K fa ρ Z H ds vs → RelDs K fa ρ1 Z1 H1 ds vs
  | [], _, h => h
  | d :: ds, _, h => by
    obtain ⟨v, r, e, q, t⟩ := h
    exact ⟨v, r, e, RelD.mono s hot d v q, RelDs.mono s hot ds r t⟩
end
theorem RelDs.length : ∀ {ds : List D} {vs : List V}, RelDs K fa ρ Z H ds vs → ds.length = vs.length
  | [], _, h => by have e : _ = [] := h; rw [e]; rfl
  | d :: ds, _, h => by
    obtain ⟨v, r, e, q, t⟩ := h
    rw [e, List.length_cons, List.length_cons, t.length]
theorem RelDs.get : ∀ {ds : List D} {vs : List V} {i : Nat} {d : D}, RelDs K fa ρ Z H ds vs → ds[i]? = some d → ∃ v, vs[i]? = some v ∧ RelD K fa ρ Z H d v
  | [], _, _, _, _, h => by simp at h
  | d :: ds, _, 0, _, h, e => by
    obtain ⟨v, r, rfl, q, t⟩ := h
    simp at e
    subst e
    exact ⟨v, rfl, q⟩
  | d :: ds, _, i + 1, _, h, e => by
    obtain ⟨v, r, rfl, q, t⟩ := h
    exact t.get (i := i) (by simpa using e)
theorem RelDs.getV : ∀ {ds : List D} {vs : List V} {i : Nat} {v : V}, RelDs K fa ρ Z H ds vs → vs[i]? = some v → ∃ d, ds[i]? = some d ∧ RelD K fa ρ Z H d v
  | [], _, _, _, h, e => by have z : _ = [] := h; rw [z] at e; simp at e
  | d :: ds, _, 0, _, h, e => by
    obtain ⟨v, r, rfl, q, t⟩ := h
    simp at e
    subst e
    exact ⟨d, rfl, q⟩
  | d :: ds, _, i + 1, _, h, e => by
    obtain ⟨v, r, rfl, q, t⟩ := h
    exact t.getV (i := i) (by simpa using e)
theorem RelDs.append : ∀ {ds es : List D} {vs ws : List V}, RelDs K fa ρ Z H ds vs → RelDs K fa ρ Z H es ws → RelDs K fa ρ Z H (ds ++ es) (vs ++ ws)
  | [], _, _, _, h, t => by have z : _ = [] := h; rw [z]; exact t
  | d :: ds, _, _, _, h, t => by
    obtain ⟨v, r, rfl, q, z⟩ := h
    exact ⟨v, r ++ _, rfl, q, z.append t⟩
theorem RelDs.one {d : D} {v : V} (h : RelD K fa ρ Z H d v) : RelDs K fa ρ Z H [d] [v] := ⟨v, [], rfl, h, rfl⟩
theorem RelDs.take : ∀ {ds : List D} {vs : List V} (n : Nat), RelDs K fa ρ Z H ds vs → RelDs K fa ρ Z H (ds.take n) (vs.take n)
  | _, _, 0, _ => by simp [RelDs]
  | [], _, n + 1, h => by have z : _ = [] := h; rw [z]; simp [RelDs]
  | d :: ds, _, n + 1, h => by
    obtain ⟨v, r, rfl, q, t⟩ := h
    exact ⟨v, r.take n, rfl, q, t.take n⟩
theorem RelDs.drop : ∀ {ds : List D} {vs : List V} (n : Nat), RelDs K fa ρ Z H ds vs → RelDs K fa ρ Z H (ds.drop n) (vs.drop n)
  | _, _, 0, h => h
  | [], _, n + 1, h => by have z : _ = [] := h; rw [z]; simp [RelDs]
  | d :: ds, _, n + 1, h => by
    obtain ⟨v, r, rfl, q, t⟩ := h
    exact t.drop n
theorem RelDs.set {d : D} {v : V} (hd : RelD K fa ρ Z H d v) : ∀ {ds : List D} {vs : List V} (n : Nat), RelDs K fa ρ Z H ds vs → RelDs K fa ρ Z H (ds.set n d) (vs.set n v)
  | [], _, n, h => by have z : _ = [] := h; rw [z]; simp [RelDs]
  | e :: ds, _, 0, h => by
    obtain ⟨w, r, rfl, q, t⟩ := h
    exact ⟨v, r, rfl, hd, t⟩
  | e :: ds, _, n + 1, h => by
    obtain ⟨w, r, rfl, q, t⟩ := h
    exact ⟨w, r.set n v, rfl, q, t.set hd n⟩
theorem RelDs.rep : ∀ (k : Nat) {ds : List D} {vs : List V}, RelDs K fa ρ Z H ds vs → RelDs K fa ρ Z H (List.replicate k ds).flatten (List.replicate k vs).flatten
  | 0, _, _, _ => by simp [RelDs]
  | k + 1, _, _, h => by
    rw [List.replicate_succ, List.replicate_succ, List.flatten_cons, List.flatten_cons]
    exact h.append (RelDs.rep k h)
theorem RelDs.nil_iff {ds : List D} {vs : List V} (h : RelDs K fa ρ Z H ds vs) : ds.isEmpty = vs.isEmpty := by
  have := h.length
  cases ds <;> cases vs <;> simp at this ⊢
/-- what the data is, by its value's form -/
theorem RelD.int {d : D} {i : Int} (h : RelD K fa ρ Z H d (.int i)) : d = .int i := by
  cases d with
  | int j => have e : V.int i = V.int j := h; cases e; rfl
  | non => cases (show V.int i = V.non from h)
  | bl b => cases (show V.int i = V.bl b from h)
  | str b => cases (show V.int i = V.str b from h)
  | fn b => cases (show V.int i = V.ref (fa b) from h)
  | ref b => obtain ⟨_, e, _⟩ := h; cases e
  | tup b => obtain ⟨_, _, e, _⟩ := h; cases e
  | lst b => obtain ⟨_, _, e, _⟩ := h; cases e
  | scr b => obtain ⟨_, _, e, _⟩ := h; cases e
theorem RelD.nonIff {d : D} {v : V} (h : RelD K fa ρ Z H d v) : decide (v = .non) = isNon d := by
  cases d with
  | non => have e : v = .non := h; rw [e]; rfl
  | int j => have e : v = V.int j := h; rw [e]; rfl
  | bl b => have e : v = V.bl b := h; rw [e]; rfl
  | str b => have e : v = V.str b := h; rw [e]; rfl
  | fn b => have e : v = V.ref (fa b) := h; rw [e]; rfl
  | ref b => obtain ⟨_, e, _⟩ := h; rw [e]; rfl
  | tup b => obtain ⟨_, _, e, _⟩ := h; rw [e]; rfl
  | lst b => obtain ⟨_, _, e, _⟩ := h; rw [e]; rfl
  | scr b => obtain ⟨_, _, e, _⟩ := h; rw [e]; rfl
end
/-! ### data that is compared -/
mutual
def toPy : D → PyData
  | .non => .none
  | .bl b => .bool b
  | .int i => .int i
  | .str x => .str x
  | .tup xs => .tuple (toPys xs)
  | .lst xs => .list (toPys xs)
  | _ => .none
def toPys : List D → List PyData
  | [] => []
  | d :: ds => toPy d :: toPys ds
end
mutual
theorem eqd_eqv : ∀ (a b : D) (n k : Nat), okD a n = true → okD b k = true → eqd a b = PyData.eqv (toPy a) (toPy b)
  | .non, b, n, k, ha, hb => by
    cases b <;> simp [okD] at hb <;> simp [eqd, toPy, PyData.eqv]
  | .bl _, b, n, k, ha, hb => by
    cases b <;> simp [okD] at hb <;> simp [eqd, toPy, PyData.eqv]
  | .int _, b, n, k, ha, hb => by
    cases b <;> simp [okD] at hb <;> simp [eqd, toPy, PyData.eqv]
  | .str _, b, n, k, ha, hb => by
    cases b <;> simp [okD] at hb <;> simp [eqd, toPy, PyData.eqv]
  | .ref _, b, n, k, ha, hb => by simp [okD] at ha
  | .fn _, b, n, k, ha, hb => by simp [okD] at ha
  | .scr _, b, n, k, ha, hb => by simp [okD] at ha
  | .tup xs, b, n, k, ha, hb => by
    cases n with
    | zero => simp [okD] at ha
    | succ n =>
      cases b with
      | tup ys =>
        cases k with
        | zero => simp [okD] at hb
        | succ k =>
          simp only [eqd, toPy, PyData.eqv]
          exact eqds_eqv xs ys n k (by simpa [okD] using ha) (by simpa [okD] using hb)
      | _ => simp [okD] at hb <;> simp [eqd, toPy, PyData.eqv]
  | .lst xs, b, n, k, ha, hb => by
    cases n with
    | zero => simp [okD] at ha
    | succ n =>
      cases b with
      | lst ys =>
        cases k with
        | zero => simp [okD] at hb
        | succ k =>
          simp only [eqd, toPy, PyData.eqv]
          exact eqds_eqv xs ys n k (by simpa [okD] using ha) (by simpa [okD] using hb)
      | _ => simp [okD] at hb <;> simp [eqd, toPy, PyData.eqv]
theorem eqds_eqv : ∀ (a b : List D) (n k : Nat), okDs a n = true → okDs b k = true → eqds a b = PyData.eqvAll (toPys a) (toPys b)
  | [], [], _, _, _, _ => by simp [eqds, toPys, PyData.eqvAll]
  | [], _ :: _, _, _, _, _ => by simp [eqds, toPys, PyData.eqvAll]
  | _ :: _, [], _, _, _, _ => by simp [eqds, toPys, PyData.eqvAll]
  | a :: as, b :: bs, n, k, ha, hb => by
    have ha' : (okD a n && okDs as n) = true := by simpa [okDs] using ha
    have hb' : (okD b k && okDs bs k) = true := by simpa [okDs] using hb
    rw [Bool.and_eq_true] at ha' hb'
    simp only [eqds, toPys, PyData.eqvAll]
    rw [eqd_eqv a b n k ha'.1 hb'.1, eqds_eqv as bs n k ha'.2 hb'.2]
end
mutual
theorem okD_lay : ∀ (a : D) (n : Nat), okD a n = true → (toPy a).canLay0 = true ∧ (toPy a).depth ≤ n
  | .non, n, h => by simp [toPy, PyData.canLay0, PyData.depth]
  | .bl _, n, h => by simp [toPy, PyData.canLay0, PyData.depth]
  | .int _, n, h => by simp [toPy, PyData.canLay0, PyData.depth]
  | .str _, n, h => by simpa [toPy, PyData.canLay0, PyData.depth, okD] using h
  | .ref _, n, h => by simp [okD] at h
  | .fn _, n, h => by simp [okD] at h
  | .scr _, n, h => by simp [okD] at h
  | .tup xs, 0, h => by simp [okD] at h
  | .lst xs, 0, h => by simp [okD] at h
  | .tup xs, n + 1, h => by
    have q := okDs_lay xs n (by simpa [okD] using h)
    refine ⟨by simpa [toPy, PyData.canLay0] using q.1, ?_⟩
    simp only [toPy, PyData.depth]
    omega
  | .lst xs, n + 1, h => by
    have q := okDs_lay xs n (by simpa [okD] using h)
    refine ⟨by simpa [toPy, PyData.canLay0] using q.1, ?_⟩
    simp only [toPy, PyData.depth]
    omega
theorem okDs_lay : ∀ (a : List D) (n : Nat), okDs a n = true → PyData.canLayAll0 (toPys a) = true ∧ PyData.depthAll (toPys a) ≤ n
  | [], n, h => by simp [toPys, PyData.canLayAll0, PyData.depthAll]
  | a :: as, n, h => by
    have h' : (okD a n && okDs as n) = true := by simpa [okDs] using h
    rw [Bool.and_eq_true] at h'
    have q := okD_lay a n h'.1
    have r := okDs_lay as n h'.2
    refine ⟨by simp [toPys, PyData.canLayAll0, q.1, r.1], ?_⟩
    simp only [toPys, PyData.depthAll]
    omega
end
theorem okD_shaped {a : D} (h : okD a 40 = true) : SeqAt.shaped (toPy a) = true := by
  have q := okD_lay a 40 h
  unfold SeqAt.shaped
  rw [q.1, decide_eq_true (Nat.le_trans q.2 (by decide))]
  rfl
section
variable {K : PySem.W.Frag} {fa : Nat → Addr} {ρ : List Addr} {Z : Addr → Prop} {H : Hp}
mutual
theorem RelD.dp : ∀ (a : D) (n : Nat) (v : V), okD a n = true → RelD K fa ρ Z H a v → Dp K H v (toPy a)
  | .non, n, v, _, h => by have e : v = .non := h; rw [e]; exact .non
  | .bl b, n, v, _, h => by have e : v = .bl b := h; rw [e]; exact .bl b
  | .int i, n, v, _, h => by have e : v = .int i := h; rw [e]; exact .int i
  | .str x, n, v, _, h => by have e : v = .str x := h; rw [e]; exact .str x
  | .ref _, n, v, q, h => by simp [okD] at q
  | .fn _, n, v, q, h => by simp [okD] at q
  | .scr _, n, v, q, h => by simp [okD] at q
  | .tup xs, 0, v, q, h => by simp [okD] at q
  | .lst xs, 0, v, q, h => by simp [okD] at q
  | .tup xs, n + 1, v, q, h => by
    obtain ⟨p, vs, e, s, r⟩ := h
    rw [e]
    exact .tup s (RelDs.dp xs n vs (by simpa [okD] using q) r)
  | .lst xs, n + 1, v, q, h => by
    obtain ⟨p, vs, e, s, _, r⟩ := h
    rw [e]
    exact .lst (SqL.of s) (RelDs.dp xs n vs (by simpa [okD] using q) r)
theorem RelDs.dp : ∀ (a : List D) (n : Nat) (vs : List V), okDs a n = true → RelDs K fa ρ Z H a vs → DpAll K H vs (toPys a)
  | [], n, vs, q, h => by have e : vs = [] := h; rw [e]; exact .nil
  | a :: as, n, vs, q, h => by
    have h' : (okD a n && okDs as n) = true := by simpa [okDs] using q
    rw [Bool.and_eq_true] at h'
    obtain ⟨v, r, e, s, t⟩ := h
    rw [e]
    exact .cons (RelD.dp a n v h'.1 s) (RelDs.dp as n r h'.2 t)
end
end
/-! ### the mini heap -/
section
variable {K : PySem.W.Frag} {fa : Nat → Addr} {ρ ρ1 : List Addr} {Z Z1 : Addr → Prop} {H H1 : Hp} {m : M}
theorem RelO.mono (s : Step ρ Z H ρ1 Z1 H1) (hot : Hot Z H) {xs : List D} {p : Addr} {vs : List V} (h : H1 p = some (.lst vs)) (r : RelDs K fa ρ Z H xs vs) : RelO K fa ρ1 Z1 H1 (.lst xs) p :=
  ⟨vs, h, RelDs.mono s hot xs vs r⟩
/-- the heap m as it stands, behind a step that leaves the live ones -/
theorem MOk.same (I : MOk K fa ρ Z H m) (s : Step ρ Z H ρ Z1 H1) (hot1 : Hot Z1 H1) (k : ∀ a, a ∈ ρ → Z a → Z1 a ∧ H1 a = H a) : MOk K fa ρ Z1 H1 m where
  len := I.len
  nd := I.nd
  there := fun a h => by
    by_cases z : Z a
    · rw [(k a h z).2]; exact I.there a h
    · cases q : H a with
      | none => exact absurd q (I.there a h)
      | some o => rw [s.keep a o q (.inr z)]; intro z; cases z
  hot := hot1
  live := fun i o e ne p hp => by
    obtain ⟨z, r⟩ := I.live i o e ne p hp
    obtain ⟨z1, e1⟩ := k p (List.mem_of_getElem? hp) z
    refine ⟨z1, ?_⟩
    cases o with
    | gone => trivial
    | lst xs =>
      obtain ⟨vs, hv, r⟩ := r
      exact RelO.mono s I.hot (by rw [e1]; exact hv) r
theorem MOk.laid (I : MOk K fa ρ Z H m) {p : Addr} {o : HO} (hp : H p = none) : MOk K fa ρ Z (upd H p o) m :=
  I.same (Step.laid hp) (Hot.laid I.hot hp) fun a _ z => ⟨z, by rw [upd_ne (fun e => by have q := I.hot a z; rw [e, hp] at q; exact q)]⟩
/-- a live list -/
theorem MOk.get (I : MOk K fa ρ Z H m) {r : Nat} {xs : List D} (h : m[r]? = some (.lst xs)) : ∃ p vs, ρ[r]? = some p ∧ Z p ∧ H p = some (.lst vs) ∧ RelDs K fa ρ Z H xs vs := by
  have hr : r < ρ.length := by rw [I.len]; exact (List.getElem?_eq_some_iff.mp h).1
  have e : ρ[r]? = some ρ[r] := List.getElem?_eq_getElem hr
  obtain ⟨z, vs, hv, q⟩ := I.live r _ h (by intro z; cases z) _ e
  exact ⟨_, vs, e, z, hv, q⟩
theorem MOk.ixne (I : MOk K fa ρ Z H m) {i j : Nat} {a b : Addr} (ha : ρ[i]? = some a) (hb : ρ[j]? = some b) (h : i ≠ j) : a ≠ b := fun z => by
  subst z
  obtain ⟨h1, e1⟩ := List.getElem?_eq_some_iff.mp ha
  obtain ⟨h2, e2⟩ := List.getElem?_eq_some_iff.mp hb
  exact h ((List.getElem_inj I.nd).mp (e1.trans e2.symm))
/-- the object at r changed: its address is written -/
theorem MOk.set (I : MOk K fa ρ Z H m) {r : Nat} {p : Addr} {xs ys : List D} {ws : List V} (h : m[r]? = some (.lst xs)) (hp : ρ[r]? = some p) (q : RelDs K fa ρ Z H ys ws) :
    MOk K fa ρ Z (upd H p (.lst ws)) (m.set r (.lst ys)) ∧ Step ρ Z H ρ Z (upd H p (.lst ws)) := by
  have hz : Z p := (I.live r _ h (by intro z; cases z) p hp).1
  have s : Step ρ Z H ρ Z (upd H p (.lst ws)) := ⟨⟨[], by simp⟩, fun _ h n => absurd h n, fun _ h n => absurd h n, fun a o e n => by
    have ne : a ≠ p := fun z => by
      subst z
      rcases n with n | n
      · exact n (List.mem_of_getElem? hp)
      · exact n hz
    rw [upd_ne ne]; exact e, fun _ h _ => h⟩
  refine ⟨⟨by rw [List.length_set]; exact I.len, I.nd, fun a ha => ?_, fun a z => ?_, fun i o e ne a ha => ?_⟩, s⟩
  · by_cases e : a = p
    · rw [e, upd_same]; intro z; cases z
    · rw [upd_ne e]; exact I.there a ha
  · by_cases e : a = p
    · rw [e, upd_same]; trivial
    · rw [upd_ne e]; exact I.hot a z
  · by_cases hi : r = i
    · subst hi
      have hr : r < m.length := (List.getElem?_eq_some_iff.mp h).1
      rw [List.getElem?_set_self hr] at e
      cases e
      rw [hp] at ha
      cases ha
      exact ⟨hz, ws, upd_same, RelDs.mono s I.hot ys ws q⟩
    · rw [List.getElem?_set_ne hi] at e
      obtain ⟨z, ro⟩ := I.live i o e ne a ha
      refine ⟨z, ?_⟩
      have nap : a ≠ p := I.ixne ha hp (fun e => hi e.symm)
      cases o with
      | gone => trivial
      | lst zs =>
        obtain ⟨vs, hv, rr⟩ := ro
        exact ⟨vs, by rw [upd_ne nap]; exact hv, RelDs.mono s I.hot zs vs rr⟩
/-- a new list that is to change -/
theorem MOk.push (I : MOk K fa ρ Z H m) {p : Addr} {xs : List D} {vs : List V} (hp : H p = none) (q : RelDs K fa ρ Z H xs vs) :
    MOk K fa (ρ ++ [p]) (fun a => Z a ∨ a = p) (upd H p (.lst vs)) (m ++ [.lst xs]) ∧ Step ρ Z H (ρ ++ [p]) (fun a => Z a ∨ a = p) (upd H p (.lst vs)) := by
  have s : Step ρ Z H (ρ ++ [p]) (fun a => Z a ∨ a = p) (upd H p (.lst vs)) := ⟨⟨[p], rfl⟩, fun a h n => by
    rcases List.mem_append.mp h with h | h
    · exact absurd h n
    · rw [List.mem_singleton.mp h]; exact hp, fun a h n => by
    rcases h with h | h
    · exact absurd h n
    · rw [h]; exact hp, fun a o e n => by rw [upd_ne (ne_of_none e hp)]; exact e, fun a h _ => .inl h⟩
  have np : p ∉ ρ := fun h => I.there p h hp
  refine ⟨⟨by simp [I.len], ?_, fun a ha => ?_, fun a z => ?_, fun i o e ne a ha => ?_⟩, s⟩
  · rw [List.nodup_append]
    refine ⟨I.nd, by simp, fun a ha b hb => ?_⟩
    rw [List.mem_singleton.mp hb]
    exact fun z => np (z ▸ ha)
  · by_cases e : a = p
    · rw [e, upd_same]; intro z; cases z
    · rw [upd_ne e]
      rcases List.mem_append.mp ha with h | h
      · exact I.there a h
      · exact absurd (List.mem_singleton.mp h) e
  · by_cases e : a = p
    · rw [e, upd_same]; trivial
    · rw [upd_ne e]
      rcases z with z | z
      · exact I.hot a z
      · exact absurd z e
  · by_cases hi : i < m.length
    · rw [List.getElem?_append_left hi] at e
      rw [List.getElem?_append_left (by rw [I.len]; exact hi)] at ha
      obtain ⟨z, ro⟩ := I.live i o e ne a ha
      refine ⟨.inl z, ?_⟩
      have nap : a ≠ p := fun z => np (z ▸ List.mem_of_getElem? ha)
      cases o with
      | gone => trivial
      | lst zs =>
        obtain ⟨vs, hv, rr⟩ := ro
        exact ⟨vs, by rw [upd_ne nap]; exact hv, RelDs.mono s I.hot zs vs rr⟩
    · have hi' : i < (m ++ [O.lst xs]).length := (List.getElem?_eq_some_iff.mp e).1
      rw [List.length_append, List.length_singleton] at hi'
      have ei : i = m.length := by omega
      subst ei
      rw [List.getElem?_append_right (Nat.le_refl _), Nat.sub_self] at e
      rw [← I.len, List.getElem?_append_right (Nat.le_refl _), Nat.sub_self] at ha
      cases e
      cases ha
      exact ⟨.inr rfl, vs, upd_same, RelDs.mono s I.hot xs vs q⟩
/-- an object is read from now on, never changed -/
theorem MOk.freeze (I : MOk K fa ρ Z H m) {r : Nat} {p : Addr} (hp : ρ[r]? = some p) :
    MOk K fa ρ (fun a => Z a ∧ a ≠ p) H (m.set r .gone) ∧ Step ρ Z H ρ (fun a => Z a ∧ a ≠ p) H := by
  have s : Step ρ Z H ρ (fun a => Z a ∧ a ≠ p) H := ⟨⟨[], by simp⟩, fun _ h n => absurd h n, fun _ h n => absurd h.1 n, fun a o e n => e, fun a h n => ⟨h, fun e => n (e ▸ List.mem_of_getElem? hp)⟩⟩
  refine ⟨⟨by rw [List.length_set]; exact I.len, I.nd, I.there, fun a z => I.hot a z.1, fun i o e ne a ha => ?_⟩, s⟩
  by_cases hi : r = i
  · subst hi
    by_cases hr : r < m.length
    · rw [List.getElem?_set_self hr] at e
      cases e
      exact absurd rfl ne
    · rw [List.getElem?_eq_none (by simpa using hr)] at e; cases e
  · rw [List.getElem?_set_ne hi] at e
    obtain ⟨z, ro⟩ := I.live i o e ne a ha
    refine ⟨⟨z, I.ixne ha hp (fun e => hi e.symm)⟩, ?_⟩
    cases o with
    | gone => trivial
    | lst zs =>
      obtain ⟨vs, hv, rr⟩ := ro
      exact ⟨vs, hv, RelDs.mono s I.hot zs vs rr⟩
end
end Dx
/-! Dx, part 5: a call's end; readings by data. -/
namespace Dx
open PySem PySem.Spec PyProof.Rows L2
section
variable {K : PySem.W.Frag} {fa : Nat → Addr} {ρ ρ0 ρ2 : List Addr} {Z Z0 Z2 Z' : Addr → Prop} {H H0 H2 : Hp} {m m0 m2 : M}
mutual
theorem RelD.lt : ∀ (d : D) (v : V), RelD K fa ρ Z H d v → ltD ρ.length d = true
  | .non, _, _ => rfl
  | .bl _, _, _ => rfl
  | .int _, _, _ => rfl
  | .str _, _, _ => rfl
  | .fn _, _, _ => rfl
  | .ref i, _, h => by
    obtain ⟨p, _, q⟩ := h
    exact decide_eq_true (List.getElem?_eq_some_iff.mp q).1
  | .tup ds, _, h => by
    obtain ⟨p, vs, _, _, r⟩ := h
    exact RelDs.lt ds vs r
  | .lst ds, _, h => by
    obtain ⟨p, vs, _, _, _, r⟩ := h
    exact RelDs.lt ds vs r
  | .scr ds, _, h => by
    obtain ⟨p, vs, _, _, r⟩ := h
    exact RelDs.lt ds vs r
theorem RelDs.lt : ∀ (ds : List D) (vs : List V), RelDs K fa ρ Z H ds vs → ltDs ρ.length ds = true
  | [], _, _ => rfl
  | d :: ds, _, h => by
    obtain ⟨v, r, _, q, t⟩ := h
    show (ltD _ d && ltDs _ ds) = true
    rw [RelD.lt d v q, RelDs.lt ds r t]; rfl
end
theorem MOk.low (I : MOk K fa ρ Z H m) : Low m.length m := fun j hj xs e => by
  obtain ⟨p, vs, _, _, _, r⟩ := I.get e
  rw [← I.len]
  exact RelDs.lt xs vs r
mutual
/-- seen from an older frame -/
theorem RelD.down {n : Nat} (hi : ∀ i, i < n → ρ2[i]? = ρ0[i]?) (hz : ∀ a, Z' a → Z2 a) : ∀ (d : D) (v : V), ltD n d = true → RelD K fa ρ2 Z2 H d v → RelD K fa ρ0 Z' H d v
  | .non, _, _, h => h
  | .bl _, _, _, h => h
  | .int _, _, _, h => h
  | .str _, _, _, h => h
  | .fn _, _, _, h => h
  | .ref i, _, l, h => by
    obtain ⟨p, e, q⟩ := h
    exact ⟨p, e, by rw [← hi i (of_decide_eq_true l)]; exact q⟩
  | .tup ds, _, l, h => by
    obtain ⟨p, vs, e, q, r⟩ := h
    exact ⟨p, vs, e, q, RelDs.down hi hz ds vs l r⟩
  | .lst ds, _, l, h => by
    obtain ⟨p, vs, e, q, n, r⟩ := h
    exact ⟨p, vs, e, q, fun z => n (hz p z), RelDs.down hi hz ds vs l r⟩
  | .scr ds, _, l, h => by
    obtain ⟨p, vs, e, q, r⟩ := h
    exact ⟨p, vs, e, q, RelDs.down hi hz ds vs l r⟩
theorem RelDs.down {n : Nat} (hi : ∀ i, i < n → ρ2[i]? = ρ0[i]?) (hz : ∀ a, Z' a → Z2 a) : ∀ (ds : List D) (vs : List V), ltDs n ds = true → RelDs K fa ρ2 Z2 H ds vs → RelDs K fa ρ0 Z' H ds vs
  | [], _, _, h => h
  | d :: ds, _, l, h => by
    obtain ⟨v, r, e, q, t⟩ := h
    have l' : (ltD n d && ltDs n ds) = true := l
    rw [Bool.and_eq_true] at l'
    exact ⟨v, r, e, RelD.down hi hz d v l'.1 q, RelDs.down hi hz ds r l'.2 t⟩
end
mutual
theorem mapRef_ok {g : Nat → Option D} (hg : ∀ i e v, RelD K fa ρ2 Z2 H (.ref i) v → g i = some e → RelD K fa ρ0 Z' H e v) (hz : ∀ a, Z' a → Z2 a) :
    ∀ (d e : D) (v : V), RelD K fa ρ2 Z2 H d v → mapRef g d = some e → RelD K fa ρ0 Z' H e v
  | .non, _, _, h, q => by cases (show some D.non = some _ from q); exact h
  | .bl _, _, _, h, q => by cases (show some (D.bl _) = some _ from q); exact h
  | .int _, _, _, h, q => by cases (show some (D.int _) = some _ from q); exact h
  | .str _, _, _, h, q => by cases (show some (D.str _) = some _ from q); exact h
  | .fn _, _, _, h, q => by cases (show some (D.fn _) = some _ from q); exact h
  | .ref i, e, v, h, q => hg i e v h q
  | .tup ds, e, v, h, q => by
    have q' : (mapRefs g ds).map D.tup = some e := q
    obtain ⟨es, q1, rfl⟩ := Option.map_eq_some_iff.mp q'
    obtain ⟨p, vs, ev, s, r⟩ := h
    exact ⟨p, vs, ev, s, mapRefs_ok hg hz ds es vs r q1⟩
  | .lst ds, e, v, h, q => by
    have q' : (mapRefs g ds).map D.lst = some e := q
    obtain ⟨es, q1, rfl⟩ := Option.map_eq_some_iff.mp q'
    obtain ⟨p, vs, ev, s, n, r⟩ := h
    exact ⟨p, vs, ev, s, fun z => n (hz p z), mapRefs_ok hg hz ds es vs r q1⟩
  | .scr ds, e, v, h, q => by cases (show (none : Option D) = some e from q)
theorem mapRefs_ok {g : Nat → Option D} (hg : ∀ i e v, RelD K fa ρ2 Z2 H (.ref i) v → g i = some e → RelD K fa ρ0 Z' H e v) (hz : ∀ a, Z' a → Z2 a) :
    ∀ (ds es : List D) (vs : List V), RelDs K fa ρ2 Z2 H ds vs → mapRefs g ds = some es → RelDs K fa ρ0 Z' H es vs
  | [], es, vs, h, q => by cases (show some ([] : List D) = some es from q); exact h
  | d :: ds, es, vs, h, q => by
    obtain ⟨v, r, rfl, h1, h2⟩ := h
    have q' : ((mapRef g d).bind fun e => (mapRefs g ds).map fun es => e :: es) = some es := q
    obtain ⟨e, q1, q2⟩ := Option.bind_eq_some_iff.mp q'
    obtain ⟨es', q3, rfl⟩ := Option.map_eq_some_iff.mp q2
    exact ⟨v, r, rfl, mapRef_ok hg hz d e v h1 q1, mapRefs_ok hg hz ds es' r h2 q3⟩
end
theorem fz_ok {n : Nat} (hi : ∀ i, i < n → ρ2[i]? = ρ0[i]?) (hz : ∀ a, Z' a → Z2 a) (hl : ∀ i p, n ≤ i → ρ2[i]? = some p → ¬ Z' p) (I : MOk K fa ρ2 Z2 H m2) :
    ∀ (k : Nat) (d e : D) (v : V), RelD K fa ρ2 Z2 H d v → fz m2 n k d = some e → RelD K fa ρ0 Z' H e v
  | 0, d, e, v, h, q => by
    refine mapRef_ok (fun i e v h q => ?_) hz d e v h q
    by_cases c : i < n
    · rw [if_pos c] at q
      cases q
      obtain ⟨p, e, z⟩ := h
      exact ⟨p, e, by rw [← hi i c]; exact z⟩
    · rw [if_neg c] at q; cases q
  | k + 1, d, e, v, h, q => by
    refine mapRef_ok (fun i e v h q => ?_) hz d e v h q
    by_cases c : i < n
    · rw [if_pos c] at q
      cases q
      obtain ⟨p, e, z⟩ := h
      exact ⟨p, e, by rw [← hi i c]; exact z⟩
    · rw [if_neg c] at q
      split at q
      · rename_i xs hx
        obtain ⟨es, q1, rfl⟩ := Option.map_eq_some_iff.mp q
        obtain ⟨p, rfl, hp⟩ := h
        obtain ⟨p', vs, hp', zp, hv, r⟩ := I.get hx
        rw [hp] at hp'
        cases hp'
        exact ⟨p, vs, rfl, hv, hl i p (by omega) hp, mapRefs_ok (fun j e v h q => fz_ok hi hz hl I k (.ref j) e v h q) hz xs es vs r q1⟩
      · cases q
theorem take_pre {n : Nat} (s : Step ρ0 Z0 H0 ρ2 Z2 H2) (hn : ρ0.length = n) : ρ2.take n = ρ0 := by
  obtain ⟨t, e⟩ := s.pre
  rw [e, ← hn, List.take_append_of_le_length (Nat.le_refl _), List.take_length]
/-- the older objects behind a call -/
theorem older {n : Nat} (I0 : MOk K fa ρ0 Z0 H0 m0) (s : Step ρ0 Z0 H0 ρ2 Z2 H2) (I2 : MOk K fa ρ2 Z2 H2 m2) (L : LowR n m0 m2) (hn : n = m0.length) {q : Addr → Prop} (hq : ∀ a, q a → a ∈ ρ2 ∧ a ∉ ρ0) :
    Step ρ0 Z0 H0 ρ0 (fun a => Z2 a ∧ (a ∈ ρ0 ∨ a ∉ ρ2 ∨ q a)) H2 ∧ MOk K fa ρ0 (fun a => Z2 a ∧ (a ∈ ρ0 ∨ a ∉ ρ2 ∨ q a)) H2 (m2.take n) := by
  have hi : ∀ i, i < n → ρ2[i]? = ρ0[i]? := fun i h => by
    obtain ⟨t, e⟩ := s.pre
    rw [e, List.getElem?_append_left (by rw [I0.len, ← hn]; exact h)]
  refine ⟨⟨⟨[], by simp⟩, fun _ h n => absurd h n, fun a h z => s.newz a h.1 z, s.keep, fun a h z => ⟨s.hotk a h z, ?_⟩⟩, ?_⟩
  · refine .inr (.inl fun z' => ?_)
    have q := s.newr a z' z
    have e := I0.hot a h
    rw [q] at e
    exact e
  · refine ⟨by rw [List.length_take, I0.len, hn]; have := L.1; omega, I0.nd, fun a h => I2.there a (s.old h), fun a h => I2.hot a h.1, fun i o e ne p hp => ?_⟩
    have hin : i < n := by
      have := (List.getElem?_eq_some_iff.mp hp).1
      rw [I0.len] at this
      omega
    rw [List.getElem?_take_of_lt hin] at e
    obtain ⟨z, r⟩ := I2.live i o e ne p (by rw [hi i hin]; exact hp)
    refine ⟨⟨z, .inl (List.mem_of_getElem? hp)⟩, ?_⟩
    cases o with
    | gone => trivial
    | lst xs =>
      obtain ⟨vs, hv, r⟩ := r
      exact ⟨vs, hv, RelDs.down hi (fun a h => h.1) xs vs (L.2 n (Nat.le_refl _) (by rw [hn]; exact I0.low) i hin xs e) r⟩
theorem finish_ok {rm : Bool} {n : Nat} {d e : D} {v : V} {m' : M} (I0 : MOk K fa ρ0 Z0 H0 m0) (s : Step ρ0 Z0 H0 ρ2 Z2 H2) (I2 : MOk K fa ρ2 Z2 H2 m2) (L : LowR n m0 m2) (hn : n = m0.length)
    (r : RelD K fa ρ2 Z2 H2 d v) (h : finish rm n d m2 = .ok e m') : ∃ ρ' Z', Step ρ0 Z0 H0 ρ' Z' H2 ∧ MOk K fa ρ' Z' H2 m' ∧ RelD K fa ρ' Z' H2 e v := by
  have hi : ∀ i, i < n → ρ2[i]? = ρ0[i]? := fun i h => by
    obtain ⟨t, e⟩ := s.pre
    rw [e, List.getElem?_append_left (by rw [I0.len, ← hn]; exact h)]
  unfold finish at h
  split at h
  · rename_i xs hw
    have hown : ∃ i, d = .ref i ∧ n ≤ i ∧ m2[i]? = some (.lst xs) := by
      split at hw
      · unfold ownTop at hw
        split at hw
        · rename_i i
          split at hw
          · rename_i hni
            split at hw
            · rename_i ys hx
              cases hw
              exact ⟨i, rfl, hni, hx⟩
            · cases hw
          · cases hw
        · cases hw
      · cases hw
    obtain ⟨i, rfl, hni, hx⟩ := hown
    split at h
    · rename_i hnr
      injection h with h1 h2
      subst h1 h2
      obtain ⟨p, rfl, hp⟩ := r
      obtain ⟨p', vs, hp', zp, hv, rr⟩ := I2.get hx
      rw [hp] at hp'
      cases hp'
      have hp0 : p ∉ ρ0 := fun z => by
        obtain ⟨j, hj, ej⟩ := List.getElem_of_mem z
        have e1 : ρ2[j]? = some p := by
          rw [hi j (by rw [hn, ← I0.len]; exact hj), List.getElem?_eq_getElem hj, ej]
        have : i ≠ j := by
          have := I0.len
          omega
        exact I2.ixne hp e1 this rfl
      obtain ⟨s', I'⟩ := older (q := fun a => a = p) I0 s I2 L hn (fun a e => by rw [e]; exact ⟨List.mem_of_getElem? hp, hp0⟩)
      refine ⟨ρ0 ++ [p], _, ⟨⟨[p], rfl⟩, fun a h n => ?_, s'.newz, s'.keep, s'.hotk⟩, ?_, ⟨p, rfl, ?_⟩⟩
      · rcases List.mem_append.mp h with h | h
        · exact absurd h n
        · rw [List.mem_singleton.mp h] at n ⊢
          exact s.newr p (List.mem_of_getElem? hp) n
      · refine ⟨?_, ?_, fun a h => ?_, I'.hot, fun j o e ne a ha => ?_⟩
        · rw [List.length_append, List.length_append, I'.len]; rfl
        · rw [List.nodup_append]
          refine ⟨I0.nd, by simp, fun a ha b hb => ?_⟩
          rw [List.mem_singleton.mp hb]
          exact fun z => hp0 (z ▸ ha)
        · rcases List.mem_append.mp h with h | h
          · exact I'.there a h
          · rw [List.mem_singleton.mp h, hv]; intro z; cases z
        · by_cases hj : j < (m2.take n).length
          · rw [List.getElem?_append_left hj] at e
            rw [List.getElem?_append_left (by rw [I'.len]; exact hj)] at ha
            obtain ⟨z, ro⟩ := I'.live j o e ne a ha
            refine ⟨z, ?_⟩
            cases o with
            | gone => trivial
            | lst zs =>
              obtain ⟨ws, hw, rw_⟩ := ro
              have lz := RelDs.lt zs ws rw_
              exact ⟨ws, hw, RelDs.down (n := ρ0.length) (fun i h => by rw [List.getElem?_append_left h]) (fun a h => h) zs ws lz rw_⟩
          · have hj' : j < (m2.take n ++ [O.lst xs]).length := (List.getElem?_eq_some_iff.mp e).1
            rw [List.length_append, List.length_singleton] at hj'
            have ej : j = (m2.take n).length := by omega
            rw [ej, List.getElem?_append_right (Nat.le_refl _), Nat.sub_self] at e
            rw [ej, ← I'.len, List.getElem?_append_right (Nat.le_refl _), Nat.sub_self] at ha
            cases e
            cases ha
            exact ⟨⟨zp, .inr (.inr rfl)⟩, vs, hv, RelDs.down (n := 0) (fun i h => by omega) (fun a h => h.1) xs vs (nrs_lt 0 xs hnr) rr⟩
      · rw [hn, ← I0.len, List.getElem?_append_right (Nat.le_refl _), Nat.sub_self]; rfl
    · cases h
  · split at h
    · rename_i hle
      injection h with h1 h2
      subst h1 h2
      exact ⟨ρ2, Z2, s, I2, r⟩
    · split at h
      · rename_i e' q
        injection h with h1 h2
        subst h1 h2
        obtain ⟨s', I'⟩ := older (q := fun _ => False) I0 s I2 L hn (fun a e => e.elim)
        refine ⟨ρ0, _, s', I', fz_ok hi (fun a h => h.1) (fun i p hni hp z => ?_) I2 4 d e' v r q⟩
        rcases z.2 with z | z | z
        · obtain ⟨j, hj, ej⟩ := List.getElem_of_mem z
          have e1 : ρ2[j]? = some p := by
            rw [hi j (by rw [hn, ← I0.len]; exact hj), List.getElem?_eq_getElem hj, ej]
          have : i ≠ j := by
            have := I0.len
            omega
          exact I2.ixne hp e1 this rfl
        · exact z (List.mem_of_getElem? hp)
        · exact z
      · cases h
end
/-! ### readings by data -/
/-- the frame and the mini heap -/
structure Sim (K : PySem.W.Frag) (fa : Nat → Addr) (ρ : List Addr) (Z : Addr → Prop) (H : Hp) (σ : L2.St) (e : Env') (m : M) : Prop where
  mok : MOk K fa ρ Z H m
  env : ∀ (i : Nat) (d : D), getV e i = some d → ∃ v, σ[i]? = some (some v) ∧ RelD K fa ρ Z H d v
  len : e.length = σ.length
section
variable {K : PySem.W.Frag} {fa ca : Nat → Addr} {ρ ρ1 : List Addr} {Z Z1 : Addr → Prop} {H H1 : Hp} {σ : L2.St} {e : Env'} {m m1 : M} {W : WX}
theorem Sim.step (S : Sim K fa ρ Z H σ e m) (s : Step ρ Z H ρ1 Z1 H1) (I : MOk K fa ρ1 Z1 H1 m1) : Sim K fa ρ1 Z1 H1 σ e m1 :=
  ⟨I, fun i d h => by obtain ⟨v, q, r⟩ := S.env i d h; exact ⟨v, q, RelD.mono s S.mok.hot d v r⟩, S.len⟩
theorem getV_set {e : Env'} {i j : Nat} {d d' : D} (h : getV (e.set i (some d)) j = some d') : (i = j ∧ d' = d) ∨ (i ≠ j ∧ getV e j = some d') := by
  unfold getV at h ⊢
  by_cases q : i = j
  · subst q
    by_cases l : i < e.length
    · rw [List.getElem?_set_self l] at h
      cases h
      exact .inl ⟨rfl, rfl⟩
    · rw [List.getElem?_eq_none (by simpa using l)] at h; cases h
  · rw [List.getElem?_set_ne q] at h
    exact .inr ⟨q, h⟩
theorem Sim.set (S : Sim K fa ρ Z H σ e m) {i : Nat} {d : D} {v : V} (r : RelD K fa ρ Z H d v) : Sim K fa ρ Z H (σ.set i (some v)) (e.set i (some d)) m := by
  refine ⟨S.mok, fun j d' h => ?_, by rw [List.length_set, List.length_set]; exact S.len⟩
  rcases getV_set h with ⟨rfl, rfl⟩ | ⟨q, h⟩
  · refine ⟨v, ?_, r⟩
    have l : i < e.length := by
      unfold getV at h
      by_cases l : i < e.length
      · exact l
      · rw [List.getElem?_eq_none (by simpa using l)] at h; cases h
    rw [List.getElem?_set_self (by rw [← S.len]; exact l)]
  · obtain ⟨w, q1, q2⟩ := S.env j d' h
    exact ⟨w, by rw [List.getElem?_set_ne q]; exact q1, q2⟩
theorem getV_none {e : Env'} {i j : Nat} {d' : D} (h : getV (e.set i none) j = some d') : i ≠ j ∧ getV e j = some d' := by
  unfold getV at h ⊢
  by_cases q : i = j
  · subst q
    by_cases l : i < e.length
    · rw [List.getElem?_set_self l] at h; cases h
    · rw [List.getElem?_eq_none (by simpa using l)] at h; cases h
  · rw [List.getElem?_set_ne q] at h
    exact ⟨q, h⟩
theorem Sim.drop (S : Sim K fa ρ Z H σ e m) {i : Nat} (o : Option V) : Sim K fa ρ Z H (σ.set i o) (e.set i none) m := by
  refine ⟨S.mok, fun j d' h => ?_, by rw [List.length_set, List.length_set]; exact S.len⟩
  obtain ⟨q, h⟩ := getV_none h
  obtain ⟨w, q1, q2⟩ := S.env j d' h
  exact ⟨w, by rw [List.getElem?_set_ne q]; exact q1, q2⟩
theorem Sim.wipe (S : Sim K fa ρ Z H σ e m) : ∀ (l : List Nat), Sim K fa ρ Z H (wipe σ l) (wipeE e l) m
  | [] => S
  | i :: l => (S.wipe l).drop none
abbrev Rl (α β : Type) := List Addr → (Addr → Prop) → Hp → α → β → Prop
/-- what is wanted of a result -/
def PR {α β : Type} (K : PySem.W.Frag) (fa ca : Nat → Addr) (W : WX) (σ : L2.St) (rel : Rl α β) (ρ : List Addr) (Z : Addr → Prop) (H : Hp) (r : Res α) (Q : β → Hp → Prop) : Prop := match r with
  | .ok a m => ∀ ρ' Z' H' b, Step ρ Z H ρ' Z' H' → MOk K fa ρ' Z' H' m → rel ρ' Z' H' a b → Q b H'
  | .err c m => ∀ ρ' Z' H', Step ρ Z H ρ' Z' H' → MOk K fa ρ' Z' H' m → W (.ref (ca c)) none σ H'
  | .bad => False
theorem PR.mono {α β : Type} {rel : Rl α β} {r : Res α} {Q Q' : β → Hp → Prop} (h : PR K fa ca W σ rel ρ Z H r Q) (k : ∀ b H', Q b H' → Q' b H') : PR K fa ca W σ rel ρ Z H r Q' := by
  cases r with
  | ok a m => exact fun ρ' Z' H' b s I q => k b H' (h ρ' Z' H' b s I q)
  | err c m => exact h
  | bad => exact h
theorem PR.step {α β : Type} {rel : Rl α β} {r : Res α} {Q : β → Hp → Prop} (hot : Hot Z H) (s : Step ρ Z H ρ1 Z1 H1) (h : PR K fa ca W σ rel ρ Z H r Q) : PR K fa ca W σ rel ρ1 Z1 H1 r Q := by
  cases r with
  | ok a m => exact fun ρ' Z' H' b t I q => h ρ' Z' H' b (s.trans hot t) I q
  | err c m => exact fun ρ' Z' H' t I => h ρ' Z' H' (s.trans hot t) I
  | bad => exact h
theorem PR.bind {α β γ δ : Type} {rel : Rl α β} {rel' : Rl γ δ} {r : Res α} {f : α → M → Res γ} {Q : δ → Hp → Prop} (hot : Hot Z H) (h : PR K fa ca W σ rel' ρ Z H (r.bind f) Q) :
    PR K fa ca W σ rel ρ Z H r fun b H1 => ∃ ρ1 Z1 a m1, r = .ok a m1 ∧ Step ρ Z H ρ1 Z1 H1 ∧ MOk K fa ρ1 Z1 H1 m1 ∧ rel ρ1 Z1 H1 a b ∧ PR K fa ca W σ rel' ρ1 Z1 H1 (f a m1) Q := by
  cases r with
  | ok a m => exact fun ρ' Z' H' b s I q => ⟨ρ', Z', a, m, rfl, s, I, q, PR.step hot s h⟩
  | err c m => exact h
  | bad => exact h
/-- the end of a chain -/
theorem PR.out {α β : Type} {rel : Rl α β} {a : α} {b : β} {Q : β → Hp → Prop} (h : PR K fa ca W σ rel ρ Z H (.ok a m) Q) (I : MOk K fa ρ Z H m) (q : rel ρ Z H a b) : Q b H := h ρ Z H b Step.refl I q
abbrev rD (K : PySem.W.Frag) (fa : Nat → Addr) : Rl D V := fun ρ Z H d v => RelD K fa ρ Z H d v
abbrev rDs (K : PySem.W.Frag) (fa : Nat → Addr) : Rl (List D) (List V) := fun ρ Z H d v => RelDs K fa ρ Z H d v
abbrev rEq (α : Type) : Rl α α := fun _ _ _ a b => a = b
/-- a reading by a function of the frame and the mini heap; P: what else is known of the slots -/
def tR {α β : Type} (K : PySem.W.Frag) (fa ca : Nat → Addr) (P : L2.St → Prop) (W : WX) (rel : Rl α β) (f : Env' → M → Res α) : L2.St → Hp → (β → Hp → Prop) → Prop :=
  fun σ H Q => P σ ∧ ∃ ρ Z e m, Sim K fa ρ Z H σ e m ∧ PR K fa ca W σ rel ρ Z H (f e m) Q
/-- the same of a list that is made anew -/
def PF (K : PySem.W.Frag) (fa ca : Nat → Addr) (W : WX) (σ : L2.St) (ρ : List Addr) (Z : Addr → Prop) (H : Hp) (r : Res (List D)) (F : List Addr → (Addr → Prop) → Hp → M → List D → Addr → Prop) (Q : VK) : Prop := match r with
  | .ok ds m => ∀ ρ' Z' H' p, F ρ' Z' H' m ds p → Q (.ref p) H'
  | .err c m => ∀ ρ' Z' H', Step ρ Z H ρ' Z' H' → MOk K fa ρ' Z' H' m → W (.ref (ca c)) none σ H'
  | .bad => False
end
section
variable {X : Cx}
theorem _root_.L2.PE.imp {e : Expr} {t t' : TE} (h : PE X e t) (k : ∀ σ H Q, t' σ H Q → t σ H Q) : PE X e t' := ⟨fun pins s σ H Q I q => h.run pins s σ H Q I (k σ H Q q)⟩
theorem _root_.L2.PT.imp {e : Expr} {t t' : TT} (h : PT X e t) (k : ∀ σ H Q, t' σ H Q → t σ H Q) : PT X e t' := ⟨fun pins s σ H Q I q => h.run pins s σ H Q I (k σ H Q q)⟩
theorem _root_.L2.PW.imp {e : Expr} {t t' : TT} (h : PW X e t) (k : ∀ σ H Q, t' σ H Q → t σ H Q) : PW X e t' := ⟨fun wh pins s σ H Q I q => h.run wh pins s σ H Q I (k σ H Q q)⟩
theorem _root_.L2.PA.imp {e : List Expr} {t t' : TA} (h : PA X e t) (k : ∀ σ H Q, t' σ H Q → t σ H Q) : PA X e t' := ⟨fun pos pins s σ H Q I q => h.run pos pins s σ H Q I (k σ H Q q)⟩
theorem _root_.L2.PS.imp {e : Stmt} {t t' : TS} (h : PS X e t) (k : ∀ D σ H, t' D σ H → t D σ H) : PS X e t' := ⟨fun pins s σ H D I q => h.run pins s σ H D I (k D σ H q)⟩
theorem _root_.L2.PSs.imp {e : List Stmt} {t t' : TS} (h : PSs X e t) (k : ∀ D σ H, t' D σ H → t D σ H) : PSs X e t' := ⟨fun pins s σ H D I q => h.run pins s σ H D I (k D σ H q)⟩
theorem _root_.L2.OpR.imp {f : Value → Value → Sem Value} {r r' : R2} (h : OpR X f r) (k : ∀ x y H Q, r' x y H Q → r x y H Q) : OpR X f r' := fun pins s σ H x y v u Q I rx ry q => h pins s σ H x y v u Q I rx ry (k x y H Q q)
theorem _root_.L2.CallR.imp {f : Value} {r r' : List V → Hp → VK → Prop} (h : CallR X f r) (k : ∀ xs H Q, r' xs H Q → r xs H Q) : CallR X f r' := fun pins s σ H xs us Q I rx q => h pins s σ H xs us Q I rx (k xs H Q q)
theorem _root_.L2.IxR.imp {r r' : R2} (h : IxR X r) (k : ∀ x y H Q, r' x y H Q → r x y H Q) : IxR X r' := fun va sl pins s σ H x y v u Q I rx ry q hs => h va sl pins s σ H x y v u Q I rx ry (k x y H Q q) hs
end
end Dx
namespace Dx
open PySem PySem.Spec PyProof.Rows L2
theorem tup_one (l : Addr) (its : Array Value) (n : Nat) (sl : Array (Option Value)) (dd : Option Addr) (u : Tok) :
    Meets (Builtin.«tuple.__mul__» ⟨[.ref l, .int 1 u], []⟩) (fun _ R s => s.heap.get? l = some { cls := .type "tuple", dict := dd, data := .seq its n, slots := sl } ∧ R (.ok (.ret (Value.ref l))) s) :=
  .of_wp fun prog w A R s h => by
    obtain ⟨hp, g, d, tk, os⟩ := s
    obtain ⟨hl, h⟩ := h
    have f1 := AutoSeq1.idx_int
    have c1 : (its.isEmpty || (1 : Int) == 1) = true := by simp
    wp_walk using wpAny_loadPart' hl
    repeat (first
      | (refine wpAny_ite_false (decide_eq_false (by decide)) ?_; wp_walk using wpAny_loadPart' hl)
      | (refine wpAny_ite_true (decide_eq_true (by rw [c1])) ?_; wp_walk using wpAny_loadPart' hl))
    exact ⟨_, rfl, h⟩
section
variable {X : Cx}
theorem op_one : OpR X (binaryOp .Mult) (fun x y H Q => ∃ l xs, x = .ref l ∧ y = .int 1 ∧ SqT X.K H l xs ∧ Q (.ref l) H) := by
  intro pins s σ H x y v u Q I rx ry h
  obtain ⟨l, xs, rfl, rfl, hT, q⟩ := h
  cases rx
  obtain ⟨t, rfl⟩ := ry
  obtain ⟨its, r, ⟨⟨cls, dd, data, sl⟩, ho, hc, n, hd⟩, hs⟩ := I.tuple hT
  simp only at hc hd
  subst hc hd
  refine wpAny_binaryOp_repeat_ref (T := "tuple") (U := "int") (by decide) ⟨_, ho, rfl⟩ (fun s' => typeIs_int s' 1 t) noFill_tuple_mul PySem.F.fills_int_mul PySem.F.slot_int_rmul repeat_tuple PySem.F.slot_int_index.lookup
    (call_meets PySem.F.slot_int_rmul (typeIs_int s 1 t) PySem.F.entry_int_rmul (PySem.F.args_int_rmul_2 _ _) (int_rmul_tuple 1 t l its.toArray n dd sl)
      ⟨ho, rfl, ⟨_, ho, rfl⟩, call_meets PySem.F.slot_tuple_mul ⟨_, ho, rfl⟩ PySem.F.entry_tuple_mul (PySem.F.args_tuple_mul_2 _ _) (tup_one l its.toArray n sl dd t) ⟨ho, ?_⟩⟩)
  exact ⟨.ref l, H, I, rfl, q⟩
end
end Dx
/-! Dx, part 6: operators, subscripts, built-ins by data. -/
namespace Dx
open PySem PySem.Spec PyProof.Rows L2
section
variable (K : PySem.W.Frag) (fa : Nat → Addr)
def rBin (g : M → D → D → Option D) : R2 := fun x y H Q => ∃ ρ Z m dx dy d, MOk K fa ρ Z H m ∧ RelD K fa ρ Z H dx x ∧ RelD K fa ρ Z H dy y ∧ g m dx dy = some d ∧
  ∀ ρ' Z' H' v, Step ρ Z H ρ' Z' H' → MOk K fa ρ' Z' H' m → RelD K fa ρ' Z' H' d v → Q v H'
def rCmp (g : D → D → Option Bool) : R2 := fun x y H Q => ∃ ρ Z m dx dy b, MOk K fa ρ Z H m ∧ RelD K fa ρ Z H dx x ∧ RelD K fa ρ Z H dy y ∧ g dx dy = some b ∧ Q (.bl b) H
def rBlt (g : M → List D → Option D) : List V → Hp → VK → Prop := fun vs H Q => ∃ ρ Z m ds d, MOk K fa ρ Z H m ∧ RelDs K fa ρ Z H ds vs ∧ g m ds = some d ∧
  ∀ ρ' Z' H' v, Step ρ Z H ρ' Z' H' → MOk K fa ρ' Z' H' m → RelD K fa ρ' Z' H' d v → Q v H'
end
theorem line_le {n : Nat} (h : lineOk n = true) : n ≤ sizeLine := by
  have := of_decide_eq_true h
  rw [sizeLine_eq]; omega
theorem line_lt {n : Nat} (h : lineOk n = true) : n < sizeLine := by
  have := of_decide_eq_true h
  rw [sizeLine_eq]; omega
theorem catL_shape {m : M} {a b : D} {zs : List D} (h : evCatL m a b = some zs) : ∃ xs ys, lstOf m a = some xs ∧ lstOf m b = some ys ∧ lineOk (xs.length + ys.length) = true ∧ zs = xs ++ ys := by
  obtain ⟨xs, h1, h⟩ := Option.bind_eq_some_iff.mp h
  obtain ⟨ys, h2, h⟩ := Option.bind_eq_some_iff.mp h
  split at h
  · rename_i hl; cases h; exact ⟨xs, ys, h1, h2, hl, rfl⟩
  · cases h
theorem repL_shape {m : M} {a b : D} {zs : List D} (h : evRepL m a b = some zs) : ∃ xs k, lstOf m a = some xs ∧ b = .int k ∧ k ≤ 1000000 ∧ lineOk (xs.length * k.toNat) = true ∧ -(2 ^ 63) ≤ k ∧ zs = (List.replicate k.toNat xs).flatten := by
  obtain ⟨xs, h1, h⟩ := Option.bind_eq_some_iff.mp h
  split at h
  · split at h
    · rename_i hl
      simp only [Bool.and_eq_true, decide_eq_true_eq] at hl
      cases h
      exact ⟨xs, _, h1, rfl, hl.1.1, hl.1.2, hl.2, rfl⟩
    · cases h
  · cases h
theorem add_shape {m : M} {a b d : D} (h : evAdd m a b = some d) : (∃ i j, a = .int i ∧ b = .int j ∧ d = .int (i + j)) ∨ (∃ xs ys, a = .tup xs ∧ b = .tup ys ∧ lineOk (xs.length + ys.length) = true ∧ d = .tup (xs ++ ys)) ∨
    ∃ zs, evCatL m a b = some zs ∧ d = .lst zs := by
  unfold evAdd at h
  split at h
  · cases h; exact .inl ⟨_, _, rfl, rfl, rfl⟩
  · rename_i xs ys
    split at h
    · rename_i hl
      cases h
      exact .inr (.inl ⟨xs, ys, rfl, rfl, hl, rfl⟩)
    · cases h
  · obtain ⟨zs, h1, rfl⟩ := Option.map_eq_some_iff.mp h
    exact .inr (.inr ⟨zs, h1, rfl⟩)
theorem sub_shape {a b d : D} (h : evSub a b = some d) : ∃ i j, a = .int i ∧ b = .int j ∧ d = .int (i - j) := by
  unfold evSub at h
  split at h
  · cases h; exact ⟨_, _, rfl, rfl, rfl⟩
  · cases h
theorem mul_shape {m : M} {a b d : D} (h : evMul m a b = some d) : (∃ i j, a = .int i ∧ b = .int j ∧ mulOk i j = true ∧ d = .int (i * j)) ∨
    (∃ xs k, a = .tup xs ∧ b = .int k ∧ xs ≠ [] ∧ 2 ≤ k ∧ k ≤ 1000 ∧ xs.length ≤ 1000 ∧ d = .tup (List.replicate k.toNat xs).flatten) ∨ (∃ zs, evRepL m a b = some zs ∧ d = .lst zs) ∨ ∃ xs, a = .tup xs ∧ b = .int 1 ∧ d = .tup xs := by
  unfold evMul at h
  split at h
  · split at h
    · rename_i hc; cases h; exact .inl ⟨_, _, rfl, rfl, hc, rfl⟩
    · cases h
  · rename_i xs k
    split at h
    · rename_i h1
      cases h
      exact .inr (.inr (.inr ⟨xs, rfl, by rw [h1], rfl⟩))
    split at h
    · rename_i hl
      simp only [Bool.and_eq_true, decide_eq_true_eq] at hl
      cases h
      exact .inr (.inl ⟨xs, k, rfl, rfl, fun e => by rw [e] at hl; simp at hl, hl.1.1.2, hl.1.2, hl.2, rfl⟩)
    · cases h
  · obtain ⟨zs, h1, rfl⟩ := Option.map_eq_some_iff.mp h
    exact .inr (.inr (.inl ⟨zs, h1, rfl⟩))
theorem fdiv_shape {a b d : D} (h : evFdiv a b = some d) : ∃ i j, a = .int i ∧ b = .int j ∧ divOk j = true ∧ d = .int (i / j) := by
  unfold evFdiv at h
  split at h
  · split at h
    · rename_i hc; cases h; exact ⟨_, _, rfl, rfl, hc, rfl⟩
    · cases h
  · cases h
theorem mod_shape {a b d : D} (h : evMod a b = some d) : ∃ i j, a = .int i ∧ b = .int j ∧ 0 < j ∧ d = .int (i % j) := by
  unfold evMod at h
  split at h
  · split at h
    · rename_i hc; cases h; exact ⟨_, _, rfl, rfl, hc, rfl⟩
    · cases h
  · cases h
theorem pow_shape {a b d : D} (h : evPow a b = some d) : ∃ i j, a = .int i ∧ b = .int j ∧ powOk i j = true ∧ d = .int (i ^ j.toNat) := by
  unfold evPow at h
  split at h
  · split at h
    · rename_i hc; cases h; exact ⟨_, _, rfl, rfl, hc, rfl⟩
    · cases h
  · cases h
theorem cmpI_shape {p : Int → Int → Bool} {a b : D} {k : Bool} (h : cmpI p a b = some k) : ∃ i j, a = .int i ∧ b = .int j ∧ k = p i j := by
  unfold cmpI at h
  split at h
  · cases h; exact ⟨_, _, rfl, rfl, rfl⟩
  · cases h
/-! ### sequences -/
section
variable {K : PySem.W.Frag} {fa : Nat → Addr} {ρ : List Addr} {Z : Addr → Prop} {H : Hp} {m : M}
theorem items_seq (I : MOk K fa ρ Z H m) {d : D} {v : V} {xs : List D} (r : RelD K fa ρ Z H d v) (h : itemsOf m d = some xs) : ∃ p vs, v = .ref p ∧ (SqL K H p vs ∨ SqT K H p vs) ∧ RelDs K fa ρ Z H xs vs := by
  unfold itemsOf at h
  split at h
  · cases h
    obtain ⟨p, vs, e, q, t⟩ := r
    exact ⟨p, vs, e, .inr q, t⟩
  · cases h
    obtain ⟨p, vs, e, q, _, t⟩ := r
    exact ⟨p, vs, e, .inl (SqL.of q), t⟩
  · cases h
    obtain ⟨p, vs, e, q, t⟩ := r
    exact ⟨p, vs, e, .inl q.sq, t⟩
  · split at h
    · rename_i hx
      cases h
      obtain ⟨p, e, hp⟩ := r
      obtain ⟨p', vs, hp', _, hv, t⟩ := I.get hx
      rw [hp] at hp'
      cases hp'
      exact ⟨p, vs, e, .inl (SqL.of hv), t⟩
    · cases h
  · cases h
/-- a list: H itself holds it (never a locked one) or it is locked -/
theorem lst_seq (I : MOk K fa ρ Z H m) {d : D} {v : V} {xs : List D} (r : RelD K fa ρ Z H d v) (h : lstOf m d = some xs) : ∃ p vs, v = .ref p ∧ H p = some (.lst vs) ∧ RelDs K fa ρ Z H xs vs := by
  unfold lstOf at h
  split at h
  · cases h
    obtain ⟨p, vs, e, q, _, t⟩ := r
    exact ⟨p, vs, e, q, t⟩
  · split at h
    · rename_i hx
      cases h
      obtain ⟨p, e, hp⟩ := r
      obtain ⟨p', vs, hp', _, hv, t⟩ := I.get hx
      rw [hp] at hp'
      cases hp'
      exact ⟨p, vs, e, hv, t⟩
    · cases h
  · cases h
theorem atI_of {xs : List D} {vs : List V} {i : Int} {d : D} (r : RelDs K fa ρ Z H xs vs) (h : ((ixD xs.length i).bind fun j => xs[j]?) = some d) : ∃ v, atI vs i = some v ∧ RelD K fa ρ Z H d v := by
  obtain ⟨j, h1, h2⟩ := Option.bind_eq_some_iff.mp h
  obtain ⟨v, h3, h4⟩ := r.get h2
  refine ⟨v, ?_, h4⟩
  unfold atI
  have e : ixN vs.length i = some j := by
    rw [← r.length]
    exact h1
  rw [e]
  exact h3
theorem cut_rel {xs : List D} {vs : List V} (r : RelDs K fa ρ Z H xs vs) (lo hi : Option Int) : RelDs K fa ρ Z H (cutD xs lo hi) (cutV vs lo hi) := by
  have e : ∀ (n d : Nat) (o : Option Int), cutIx n d o = HT.sIx n d o := fun n d o => by
    cases o <;> rfl
  unfold cutD cutV
  rw [e, e, ← r.length]
  exact (r.drop _).take _
theorem allBl_rel : ∀ {xs : List D} {bs : List Bool} {vs : List V}, allBl xs = some bs → RelDs K fa ρ Z H xs vs → vs = bs.map V.bl
  | [], bs, vs, h, r => by
    cases (show some ([] : List Bool) = some bs from h)
    exact r
  | x :: xs, bs, vs, h, r => by
    obtain ⟨v, t, rfl, q, r⟩ := r
    cases x with
    | bl b =>
      have h' : (allBl xs).map (b :: ·) = some bs := h
      obtain ⟨cs, h1, rfl⟩ := Option.map_eq_some_iff.mp h'
      rw [allBl_rel h1 r, show v = .bl b from q]
      rfl
    | _ => cases h
theorem allInt_rel : ∀ {xs : List D} {bs : List Int} {vs : List V}, allInt xs = some bs → RelDs K fa ρ Z H xs vs → vs = bs.map V.int
  | [], bs, vs, h, r => by
    cases (show some ([] : List Int) = some bs from h)
    exact r
  | x :: xs, bs, vs, h, r => by
    obtain ⟨v, t, rfl, q, r⟩ := r
    cases x with
    | int b =>
      have h' : (allInt xs).map (b :: ·) = some bs := h
      obtain ⟨cs, h1, rfl⟩ := Option.map_eq_some_iff.mp h'
      rw [allInt_rel h1 r, show v = .int b from q]
      rfl
    | _ => cases h
end
section
variable {X : Cx} {fa : Nat → Addr}
theorem new_lst {K : PySem.W.Frag} {ρ : List Addr} {Z : Addr → Prop} {H : Hp} {m : M} {Q : VK} {zs : List D} {ws : List V} {t : Addr} (MO : MOk K fa ρ Z H m)
    (k : ∀ ρ' Z' H' v, Step ρ Z H ρ' Z' H' → MOk K fa ρ' Z' H' m → RelD K fa ρ' Z' H' (.lst zs) v → Q v H') (ht : H t = none) (r : RelDs K fa ρ Z H zs ws) : Q (.ref t) (upd H t (.lst ws)) :=
  k ρ Z _ _ (Step.laid ht) (MO.laid ht) ⟨t, ws, rfl, upd_same, fun z => by have q := MO.hot t z; rw [ht] at q; exact q, RelDs.mono (Step.laid ht) MO.hot _ _ r⟩
theorem opB (o : Operator) : OpR X (binaryOp o) (rBin X.K fa fun m => evBin m o) := by
  intro pins s σ H x y v u Q I rx ry h
  obtain ⟨ρ, Z, m, dx, dy, d, MO, r1, r2, hg, k⟩ := h
  cases o with
  | Add =>
    rcases add_shape hg with ⟨i, j, rfl, rfl, rfl⟩ | ⟨xs, ys, rfl, rfl, hl, rfl⟩ | ⟨zs, hz, rfl⟩
    · cases (show x = _ from r1)
      cases (show y = _ from r2)
      exact op_add pins s σ H _ _ v u Q I rx ry ⟨_, _, rfl, rfl, k ρ Z H _ Step.refl MO rfl⟩
    · obtain ⟨p, vs, rfl, hp, q⟩ := r1
      obtain ⟨p2, ws, rfl, hp2, q2⟩ := r2
      have l1 := q.length
      have l2 := q2.length
      refine op_catA pins s σ H _ _ v u Q I rx ry ⟨p, p2, vs, ws, rfl, rfl, hp, hp2, ?_, fun e => ?_, fun _ e => ?_, fun _ _ t ht => ?_⟩
      · have := line_le hl
        omega
      · have e2 : xs = [] := List.length_eq_zero_iff.mp (by rw [l1, e]; rfl)
        subst e2
        exact k ρ Z H _ Step.refl MO ⟨p2, ws, rfl, hp2, q2⟩
      · have e2 : ys = [] := List.length_eq_zero_iff.mp (by rw [l2, e]; rfl)
        subst e2
        exact k ρ Z H _ Step.refl MO ⟨p, vs, rfl, hp, by rw [List.append_nil]; exact q⟩
      · exact k ρ Z _ _ (Step.laid ht) (MO.laid ht) ⟨t, vs ++ ws, rfl, SqT.of upd_same, RelDs.mono (Step.laid ht) MO.hot _ _ (q.append q2)⟩
    · obtain ⟨xs, ys, h1, h2, hl, rfl⟩ := catL_shape hz
      obtain ⟨p, vs, rfl, hp, q⟩ := lst_seq MO r1 h1
      obtain ⟨p2, ws, rfl, hp2, q2⟩ := lst_seq MO r2 h2
      have l1 := q.length
      have l2 := q2.length
      have := line_le hl
      exact op_cat pins s σ H _ _ v u Q I rx ry ⟨p, p2, vs, ws, rfl, rfl, hp, hp2, by omega, fun t ht => new_lst MO k ht (q.append q2)⟩
  | Sub =>
    obtain ⟨i, j, rfl, rfl, rfl⟩ := sub_shape hg
    cases (show x = _ from r1)
    cases (show y = _ from r2)
    exact op_sub pins s σ H _ _ v u Q I rx ry ⟨_, _, rfl, rfl, k ρ Z H _ Step.refl MO rfl⟩
  | Mult =>
    rcases mul_shape hg with ⟨i, j, rfl, rfl, hc, rfl⟩ | ⟨xs, i, rfl, rfl, ne, h2, h3, h4, rfl⟩ | ⟨zs, hz, rfl⟩ | ⟨xs, rfl, rfl, rfl⟩
    · cases (show x = _ from r1)
      cases (show y = _ from r2)
      unfold mulOk at hc
      simp only [Bool.or_eq_true, Bool.and_eq_true, decide_eq_true_eq] at hc
      rcases hc with hc | hc
      · exact op_mul pins s σ H _ _ v u Q I rx ry ⟨_, _, rfl, rfl, hc, k ρ Z H _ Step.refl MO rfl⟩
      · exact op_mulW pins s σ H _ _ v u Q I rx ry ⟨_, _, rfl, rfl, hc, k ρ Z H _ Step.refl MO rfl⟩
    · obtain ⟨p, vs, rfl, hp, q⟩ := r1
      cases (show y = _ from r2)
      have l1 := q.length
      refine op_repT pins s σ H _ _ v u Q I rx ry ⟨p, i, vs, rfl, rfl, hp, fun e => ne (List.length_eq_zero_iff.mp (by rw [l1, e]; rfl)), h2, h3, by omega, fun t ht => ?_⟩
      exact k ρ Z _ _ (Step.laid ht) (MO.laid ht) ⟨t, _, rfl, SqT.of upd_same, RelDs.mono (Step.laid ht) MO.hot _ _ (RelDs.rep _ q)⟩
    · obtain ⟨xs, i, h1, rfl, h3, hl, h5, rfl⟩ := repL_shape hz
      obtain ⟨p, vs, rfl, hp, q⟩ := lst_seq MO r1 h1
      cases (show y = _ from r2)
      have := line_le hl
      exact op_rep pins s σ H _ _ v u Q I rx ry ⟨p, i, vs, rfl, rfl, hp, h5, by omega, by rw [← q.length]; exact this, fun t ht => new_lst MO k ht (RelDs.rep _ q)⟩
    · obtain ⟨p, vs, rfl, hp, q⟩ := r1
      cases (show y = _ from r2)
      exact op_one pins s σ H _ _ v u Q I rx ry ⟨p, vs, rfl, rfl, hp, k ρ Z H _ Step.refl MO ⟨p, vs, rfl, hp, q⟩⟩
  | FloorDiv =>
    obtain ⟨i, j, rfl, rfl, hc, rfl⟩ := fdiv_shape hg
    cases (show x = _ from r1)
    cases (show y = _ from r2)
    unfold divOk at hc
    simp only [Bool.and_eq_true, decide_eq_true_eq] at hc
    exact op_fdivW pins s σ H _ _ v u Q I rx ry ⟨_, _, rfl, rfl, hc, k ρ Z H _ Step.refl MO rfl⟩
  | Mod =>
    obtain ⟨i, j, rfl, rfl, hc, rfl⟩ := mod_shape hg
    cases (show x = _ from r1)
    cases (show y = _ from r2)
    exact op_mod pins s σ H _ _ v u Q I rx ry ⟨_, _, rfl, rfl, hc, k ρ Z H _ Step.refl MO rfl⟩
  | Pow =>
    obtain ⟨i, j, rfl, rfl, hc, rfl⟩ := pow_shape hg
    cases (show x = _ from r1)
    cases (show y = _ from r2)
    unfold powOk at hc
    simp only [Bool.and_eq_true, decide_eq_true_eq] at hc
    exact op_pow pins s σ H _ _ v u Q I rx ry ⟨_, _, rfl, rfl, ⟨hc.1.1, hc.1.2, hc.2⟩, k ρ Z H _ Step.refl MO rfl⟩
  | _ => cases (show (none : Option D) = some d from hg)
theorem any_eqv {a : D} {k : Nat} (ha : okD a k = true) : ∀ (ys : List D) (n : Nat), okDs ys n = true → (toPys ys).any (fun z => PyData.eqv z (toPy a)) = ys.any fun y => eqd y a
  | [], _, _ => rfl
  | y :: ys, n, h => by
    have h' : (okD y n && okDs ys n) = true := by simpa [okDs] using h
    rw [Bool.and_eq_true] at h'
    show (PyData.eqv (toPy y) (toPy a) || (toPys ys).any _) = (eqd y a || ys.any _)
    rw [eqd_eqv y a n k h'.1 ha, any_eqv ha ys n h'.2]
theorem opC (hu : X.A.units + 65 < cLine) (o : CmpOp) : OpR X (compareOp o) (rCmp X.K fa (evCmp o)) := by
  intro pins s σ H x y v u Q I rx ry h
  obtain ⟨ρ, Z, m, dx, dy, b, MO, r1, r2, hg, k⟩ := h
  cases o with
  | Lt =>
    obtain ⟨i, j, rfl, rfl, rfl⟩ := cmpI_shape hg
    cases (show x = _ from r1)
    cases (show y = _ from r2)
    exact op_lt pins s σ H _ _ v u Q I rx ry ⟨_, _, rfl, rfl, k⟩
  | LtE =>
    obtain ⟨i, j, rfl, rfl, rfl⟩ := cmpI_shape hg
    cases (show x = _ from r1)
    cases (show y = _ from r2)
    exact op_le pins s σ H _ _ v u Q I rx ry ⟨_, _, rfl, rfl, k⟩
  | Gt =>
    obtain ⟨i, j, rfl, rfl, rfl⟩ := cmpI_shape hg
    cases (show x = _ from r1)
    cases (show y = _ from r2)
    exact op_gt pins s σ H _ _ v u Q I rx ry ⟨_, _, rfl, rfl, k⟩
  | GtE =>
    obtain ⟨i, j, rfl, rfl, rfl⟩ := cmpI_shape hg
    cases (show x = _ from r1)
    cases (show y = _ from r2)
    exact op_ge pins s σ H _ _ v u Q I rx ry ⟨_, _, rfl, rfl, k⟩
  | Eq =>
    have g : evEq dx dy = some b := hg
    unfold evEq at g
    split at g
    · rename_i ok
      rw [Bool.and_eq_true] at ok
      cases g
      refine op_eqD (by omega) pins s σ H _ _ v u Q I rx ry ⟨toPy dx, toPy dy, RelD.dp dx 40 x ok.1 r1, RelD.dp dy 40 y ok.2 r2, okD_shaped ok.1, okD_shaped ok.2, ?_⟩
      rw [← eqd_eqv dx dy 40 40 ok.1 ok.2]
      exact k
    · cases g
  | NotEq =>
    have g : (evEq dx dy).map (!·) = some b := hg
    obtain ⟨b', g1, rfl⟩ := Option.map_eq_some_iff.mp g
    clear g hg
    unfold evEq at g1
    split at g1
    · rename_i ok
      rw [Bool.and_eq_true] at ok
      cases g1
      refine op_neD (by omega) pins s σ H _ _ v u Q I rx ry ⟨toPy dx, toPy dy, RelD.dp dx 40 x ok.1 r1, RelD.dp dy 40 y ok.2 r2, okD_shaped ok.1, okD_shaped ok.2, ?_⟩
      rw [← eqd_eqv dx dy 40 40 ok.1 ok.2]
      exact k
    · cases g1
  | Is =>
    have g : evIs dx dy = some b := hg
    unfold evIs at g
    split at g
    · cases g
      refine op_isN pins s σ H _ _ v u Q I rx ry ⟨r2, ?_⟩
      rw [RelD.nonIff r1]
      exact k
    · cases g
  | IsNot =>
    have g : (evIs dx dy).map (!·) = some b := hg
    obtain ⟨b', g1, rfl⟩ := Option.map_eq_some_iff.mp g
    clear g hg
    unfold evIs at g1
    split at g1
    · cases g1
      refine op_notN pins s σ H _ _ v u Q I rx ry ⟨r2, ?_⟩
      rw [RelD.nonIff r1]
      exact k
    · cases g1
  | In =>
    have g : evIn dx dy = some b := hg
    unfold evIn at g
    split at g
    · rename_i ys
      split at g
      · rename_i ok
        rw [Bool.and_eq_true] at ok
        cases g
        refine op_inD hu pins s σ H _ _ v u Q I rx ry ⟨toPy dx, toPys ys, RelD.dp dx 40 x ok.1 r1, RelD.dp (.lst ys) 40 y ok.2 r2, okD_shaped ok.1, okD_shaped (a := .lst ys) ok.2, ?_⟩
        rw [any_eqv ok.1 ys 39 (by simpa [okD] using ok.2)]
        exact k
      · cases g
    · cases g
  | NotIn =>
    have g : (evIn dx dy).map (!·) = some b := hg
    obtain ⟨b', g1, rfl⟩ := Option.map_eq_some_iff.mp g
    clear g hg
    unfold evIn at g1
    split at g1
    · rename_i ys
      split at g1
      · rename_i ok
        rw [Bool.and_eq_true] at ok
        cases g1
        refine op_notInD hu pins s σ H _ _ v u Q I rx ry ⟨toPy dx, toPys ys, RelD.dp dx 40 x ok.1 r1, RelD.dp (.lst ys) 40 y ok.2 r2, okD_shaped ok.1, okD_shaped (a := .lst ys) ok.2, ?_⟩
        rw [any_eqv ok.1 ys 39 (by simpa [okD] using ok.2)]
        exact k
      · cases g1
    · cases g1
end
section
variable {X : Cx} {fa : Nat → Addr}
theorem idx_shape {m : M} {a i d : D} (h : evIdx m a i = some d) : ∃ k xs, i = .int k ∧ itemsOf m a = some xs ∧ ((ixD xs.length k).bind fun j => xs[j]?) = some d := by
  unfold evIdx at h
  split at h
  · obtain ⟨xs, h1, h2⟩ := Option.bind_eq_some_iff.mp h
    exact ⟨_, xs, rfl, h1, h2⟩
  · cases h
theorem ixD_rule : IxR X (rBin X.K fa fun m => evIdx m) := by
  refine L2.IxR.imp (ix_list.or ix_tup) fun x y H Q h => ?_
  obtain ⟨ρ, Z, m, dx, dy, d, MO, r1, r2, hg, k⟩ := h
  obtain ⟨i, xs, rfl, h1, h2⟩ := idx_shape hg
  obtain ⟨p, vs, rfl, hs, q⟩ := items_seq MO r1 h1
  obtain ⟨v, hv, rv⟩ := atI_of q h2
  rcases hs with hs | hs
  · exact .inl ⟨p, vs, i, v, rfl, r2, hs, hv, k ρ Z H v Step.refl MO rv⟩
  · exact .inr ⟨p, vs, i, v, rfl, r2, hs, hv, k ρ Z H v Step.refl MO rv⟩
def rSlc (K : PySem.W.Frag) (fa : Nat → Addr) : V → Option Int → Option Int → Hp → VK → Prop := fun x lo hi H Q => ∃ ρ Z m dx d, MOk K fa ρ Z H m ∧ RelD K fa ρ Z H dx x ∧ evSlc m dx lo hi = some d ∧
  ∀ ρ' Z' H' v, Step ρ Z H ρ' Z' H' → MOk K fa ρ' Z' H' m → RelD K fa ρ' Z' H' d v → Q v H'
theorem lstS_seq {K : PySem.W.Frag} {ρ : List Addr} {Z : Addr → Prop} {H : Hp} {m : M} (I : MOk K fa ρ Z H m) {d : D} {v : V} {xs : List D} (r : RelD K fa ρ Z H d v) (h : lstOfS m d = some xs) : ∃ p vs, v = .ref p ∧ SqL K H p vs ∧ RelDs K fa ρ Z H xs vs := by
  unfold lstOfS at h
  split at h
  · cases h
    obtain ⟨p, vs, e, q, t⟩ := r
    exact ⟨p, vs, e, q.sq, t⟩
  · obtain ⟨p, vs, e, q, t⟩ := lst_seq I r h
    exact ⟨p, vs, e, SqL.of q, t⟩
theorem slc_shape {m : M} {x d : D} {lo hi : Option Int} (h : evSlc m x lo hi = some d) : (∃ xs, x = .tup xs ∧ d = .tup (cutD xs lo hi)) ∨ ∃ xs, lstOfS m x = some xs ∧ d = .lst (cutD xs lo hi) := by
  unfold evSlc at h
  split at h
  · cases h; exact .inl ⟨_, rfl, rfl⟩
  · obtain ⟨xs, h1, rfl⟩ := Option.map_eq_some_iff.mp h
    exact .inr ⟨xs, h1, rfl⟩
theorem cut_whole {xs : List V} {lo hi : Option Int} (h : HT.sIx xs.length 0 lo = 0 ∧ HT.sIx xs.length xs.length hi = xs.length) : cutV xs lo hi = xs := by
  unfold cutV
  rw [h.1, h.2, List.drop_zero, Nat.sub_zero, List.take_length]
theorem slcR : SlR X (rSlc X.K fa) := by
  intro pins s σ H x v vl vu lo hi sl Q I rx hs pl pu h
  obtain ⟨ρ, Z, m, dx, d, MO, r, hg, k⟩ := h
  rcases slc_shape hg with ⟨xs, rfl, rfl⟩ | ⟨xs, h1, rfl⟩
  · obtain ⟨p, vs, rfl, hp, q⟩ := r
    refine sl_tupA pins s σ H _ v vl vu lo hi sl Q I rx hs pl pu ⟨p, vs, rfl, hp, fun w => ?_, fun _ t ht => ?_⟩
    · refine k ρ Z H _ Step.refl MO ⟨p, vs, rfl, hp, ?_⟩
      have e := cut_rel q lo hi
      rw [cut_whole w] at e
      exact e
    · exact k ρ Z _ _ (Step.laid ht) (MO.laid ht) ⟨t, _, rfl, SqT.of upd_same, RelDs.mono (Step.laid ht) MO.hot _ _ (cut_rel q lo hi)⟩
  · obtain ⟨p, vs, rfl, hp, q⟩ := lstS_seq MO r h1
    exact sl_list pins s σ H _ v vl vu lo hi sl Q I rx hs pl pu ⟨p, vs, rfl, hp, fun t ht => new_lst MO k ht (cut_rel q lo hi)⟩
/-! ### built-ins -/
theorem rels_one {K : PySem.W.Frag} {ρ : List Addr} {Z : Addr → Prop} {H : Hp} {a : D} {vs : List V} (r : RelDs K fa ρ Z H [a] vs) : ∃ v, vs = [v] ∧ RelD K fa ρ Z H a v := by
  obtain ⟨v, t, rfl, q, r⟩ := r
  have e : t = [] := r
  exact ⟨v, by rw [e], q⟩
theorem rels_two {K : PySem.W.Frag} {ρ : List Addr} {Z : Addr → Prop} {H : Hp} {a b : D} {vs : List V} (r : RelDs K fa ρ Z H [a, b] vs) : ∃ v w, vs = [v, w] ∧ RelD K fa ρ Z H a v ∧ RelD K fa ρ Z H b w := by
  obtain ⟨v, t, rfl, q, r⟩ := r
  obtain ⟨w, rfl, q2⟩ := rels_one r
  exact ⟨v, w, rfl, q, q2⟩
/-- the value that a built-in's name stands for -/
def bltV : Blt → Value
  | .len => .builtin "len"
  | .abs => .builtin "abs"
  | .toInt => .type "int"
  | .all => .builtin "all"
  | .any => .builtin "any"
  | .toTuple => .type "tuple"
  | .sum => .builtin "sum"
  | .max2 => .builtin "max"
  | .min2 => .builtin "min"
theorem one_shape {f : D → Option D} {ds : List D} {d : D} (h : one f ds = some d) : ∃ a, ds = [a] ∧ f a = some d := by
  unfold one at h
  split at h
  · exact ⟨_, rfl, h⟩
  · cases h
theorem two_shape {f : D → D → Option D} {ds : List D} {d : D} (h : two f ds = some d) : ∃ a b, ds = [a, b] ∧ f a b = some d := by
  unfold two at h
  split at h
  · exact ⟨_, _, rfl, h⟩
  · cases h
theorem len_shape {m : M} {ds : List D} {d : D} (h : evBlt m .len ds = some d) : ∃ a xs, ds = [a] ∧ itemsOf m a = some xs ∧ d = .int xs.length := by
  obtain ⟨a, rfl, h⟩ := one_shape h
  obtain ⟨xs, h1, rfl⟩ := Option.map_eq_some_iff.mp h
  exact ⟨a, xs, rfl, h1, rfl⟩
theorem abs_shape {m : M} {ds : List D} {d : D} (h : evBlt m .abs ds = some d) : ∃ i, ds = [.int i] ∧ d = .int (if i < 0 then -i else i) := by
  obtain ⟨a, rfl, h⟩ := one_shape (f := evAbs) h
  have h : evAbs a = some d := h
  unfold evAbs at h
  split at h
  · cases h; exact ⟨_, rfl, rfl⟩
  · cases h
theorem toInt_shape {m : M} {ds : List D} {d : D} (h : evBlt m .toInt ds = some d) : (∃ i, ds = [.int i] ∧ d = .int i) ∨ ∃ b, ds = [.bl b] ∧ d = .int (if b then 1 else 0) := by
  obtain ⟨a, rfl, h⟩ := one_shape (f := evToInt) h
  have h : evToInt a = some d := h
  unfold evToInt at h
  split at h
  · cases h; exact .inl ⟨_, rfl, rfl⟩
  · cases h; exact .inr ⟨_, rfl, rfl⟩
  · cases h
theorem all_shape {m : M} {ds : List D} {d : D} (h : evBlt m .all ds = some d) : ∃ a xs bs, ds = [a] ∧ lstOf m a = some xs ∧ allBl xs = some bs ∧ d = .bl (bs.all id) := by
  obtain ⟨a, rfl, h⟩ := one_shape h
  obtain ⟨xs, h1, h2⟩ := Option.bind_eq_some_iff.mp h
  obtain ⟨bs, h3, rfl⟩ := Option.map_eq_some_iff.mp h2
  exact ⟨a, xs, bs, rfl, h1, h3, rfl⟩
theorem any_shape {m : M} {ds : List D} {d : D} (h : evBlt m .any ds = some d) : ∃ a xs bs, ds = [a] ∧ lstOf m a = some xs ∧ allBl xs = some bs ∧ d = .bl (bs.any id) := by
  obtain ⟨a, rfl, h⟩ := one_shape h
  obtain ⟨xs, h1, h2⟩ := Option.bind_eq_some_iff.mp h
  obtain ⟨bs, h3, rfl⟩ := Option.map_eq_some_iff.mp h2
  exact ⟨a, xs, bs, rfl, h1, h3, rfl⟩
theorem sum_shape {m : M} {ds : List D} {d : D} (h : evBlt m .sum ds = some d) : ∃ a xs bs, ds = [a] ∧ lstOf m a = some xs ∧ allInt xs = some bs ∧ d = .int bs.sum := by
  obtain ⟨a, rfl, h⟩ := one_shape h
  obtain ⟨xs, h1, h2⟩ := Option.bind_eq_some_iff.mp h
  obtain ⟨bs, h3, rfl⟩ := Option.map_eq_some_iff.mp h2
  exact ⟨a, xs, bs, rfl, h1, h3, rfl⟩
theorem toTuple_shape {m : M} {ds : List D} {d : D} (h : evBlt m .toTuple ds = some d) : ∃ a xs, ds = [a] ∧ itemsOf m a = some xs ∧ d = .tup xs := by
  obtain ⟨a, rfl, h⟩ := one_shape h
  obtain ⟨xs, h1, rfl⟩ := Option.map_eq_some_iff.mp h
  exact ⟨a, xs, rfl, h1, rfl⟩
theorem max_shape {m : M} {ds : List D} {d : D} (h : evBlt m .max2 ds = some d) : ∃ i j, ds = [.int i, .int j] ∧ d = .int (if j > i then j else i) := by
  obtain ⟨a, b, rfl, h⟩ := two_shape (f := evMax2) h
  have h : evMax2 a b = some d := h
  unfold evMax2 at h
  split at h
  · cases h; exact ⟨_, _, rfl, rfl⟩
  · cases h
theorem min_shape {m : M} {ds : List D} {d : D} (h : evBlt m .min2 ds = some d) : ∃ i j, ds = [.int i, .int j] ∧ d = .int (if j < i then j else i) := by
  obtain ⟨a, b, rfl, h⟩ := two_shape (f := evMin2) h
  have h : evMin2 a b = some d := h
  unfold evMin2 at h
  split at h
  · cases h; exact ⟨_, _, rfl, rfl⟩
  · cases h
theorem bltR (hc : X.calm = true) (b : Blt) : CallR X (bltV b) (rBlt X.K fa fun m => evBlt m b) := by
  intro pins s σ H vs us Q I rx h
  obtain ⟨ρ, Z, m, ds, d, MO, r, hg, k⟩ := h
  cases b with
  | len =>
    obtain ⟨a, xs, rfl, h1, rfl⟩ := len_shape hg
    obtain ⟨v, rfl, q⟩ := rels_one r
    obtain ⟨p, ws, rfl, hs, t⟩ := items_seq MO q h1
    refine call_len_seq pins s σ H _ us Q I rx ⟨p, ws, rfl, hs, ?_⟩
    rw [← t.length]
    exact k ρ Z H _ Step.refl MO rfl
  | abs =>
    obtain ⟨i, rfl, rfl⟩ := abs_shape hg
    obtain ⟨v, rfl, q⟩ := rels_one r
    cases (show v = _ from q)
    exact call_abs pins s σ H _ us Q I rx ⟨i, rfl, k ρ Z H _ Step.refl MO rfl⟩
  | toInt =>
    rcases toInt_shape hg with ⟨i, rfl, rfl⟩ | ⟨b, rfl, rfl⟩
    · obtain ⟨v, rfl, q⟩ := rels_one r
      cases (show v = _ from q)
      exact call_int1 pins s σ H _ us Q I rx (.inl ⟨i, rfl, k ρ Z H _ Step.refl MO rfl⟩)
    · obtain ⟨v, rfl, q⟩ := rels_one r
      cases (show v = _ from q)
      exact call_int1 pins s σ H _ us Q I rx (.inr ⟨b, rfl, k ρ Z H _ Step.refl MO rfl⟩)
  | all =>
    obtain ⟨a, xs, bs, rfl, h1, h2, rfl⟩ := all_shape hg
    obtain ⟨v, rfl, q⟩ := rels_one r
    obtain ⟨p, ws, rfl, hs, t⟩ := lst_seq MO q h1
    refine cr_all hc pins s σ H _ us Q I rx ⟨p, bs, rfl, SqL.of ?_, k ρ Z H _ Step.refl MO rfl⟩
    rw [← allBl_rel h2 t]
    exact hs
  | any =>
    obtain ⟨a, xs, bs, rfl, h1, h2, rfl⟩ := any_shape hg
    obtain ⟨v, rfl, q⟩ := rels_one r
    obtain ⟨p, ws, rfl, hs, t⟩ := lst_seq MO q h1
    refine cr_any hc pins s σ H _ us Q I rx ⟨p, bs, rfl, SqL.of ?_, k ρ Z H _ Step.refl MO rfl⟩
    rw [← allBl_rel h2 t]
    exact hs
  | sum =>
    obtain ⟨a, xs, bs, rfl, h1, h2, rfl⟩ := sum_shape hg
    obtain ⟨v, rfl, q⟩ := rels_one r
    obtain ⟨p, ws, rfl, hs, t⟩ := lst_seq MO q h1
    refine cr_sum hc pins s σ H _ us Q I rx ⟨p, bs, rfl, SqL.of ?_, k ρ Z H _ Step.refl MO rfl⟩
    rw [← allInt_rel h2 t]
    exact hs
  | toTuple =>
    obtain ⟨a, xs, rfl, h1, rfl⟩ := toTuple_shape hg
    obtain ⟨v, rfl, q⟩ := rels_one r
    obtain ⟨p, ws, rfl, hs, t⟩ := items_seq MO q h1
    rcases hs with hs | hs
    · refine call_tuple_of pins s σ H _ us Q I rx ⟨p, ws, rfl, .inl ⟨hs, fun l hl => ?_⟩⟩
      exact k ρ Z _ _ (Step.laid hl) (MO.laid hl) ⟨l, ws, rfl, SqT.of upd_same, RelDs.mono (Step.laid hl) MO.hot _ _ t⟩
    · exact call_tuple_of pins s σ H _ us Q I rx ⟨p, ws, rfl, .inr ⟨hs, k ρ Z H _ Step.refl MO ⟨p, ws, rfl, hs, t⟩⟩⟩
  | max2 =>
    obtain ⟨i, j, rfl, rfl⟩ := max_shape hg
    obtain ⟨v, w, rfl, q1, q2⟩ := rels_two r
    cases (show v = _ from q1)
    cases (show w = _ from q2)
    exact call_max2 hc pins s σ H _ us Q I rx ⟨i, j, rfl, k ρ Z H _ Step.refl MO rfl⟩
  | min2 =>
    obtain ⟨i, j, rfl, rfl⟩ := min_shape hg
    obtain ⟨v, w, rfl, q1, q2⟩ := rels_two r
    cases (show v = _ from q1)
    cases (show w = _ from q2)
    exact call_min2 hc pins s σ H _ us Q I rx ⟨i, j, rfl, k ρ Z H _ Step.refl MO rfl⟩
end
end Dx
/-! Dx: zip of a list or tuple with a list or tuple, in any mix. -/
namespace Dx
open PySem PySem.Spec PyProof.Rows L2
/-- true: a tuple; false: a list -/
def SqK (tl : Bool) (K : PySem.W.Frag) (H : Hp) (a : Addr) (xs : List V) : Prop := match tl with
  | true => SqT K H a xs
  | false => SqL K H a xs
def ItK (tl : Bool) (h : Heap) (it a : Addr) (i : Nat) : Prop := match tl with
  | true => h.IsTupleIter it a i
  | false => h.IsListIter it a i
def IsK (tl : Bool) (h : Heap) (a : Addr) (its : Array Value) : Prop := match tl with
  | true => h.IsTuple a its
  | false => h.IsList a its
def obK (tl : Bool) (a : Addr) : Obj := match tl with
  | true => { cls := .type "tuple_iterator", data := .fields #[.ref a, .int 0 0] }
  | false => { cls := .type "list_iterator", data := .fields #[.ref a, .int 0 0] }
theorem drawsK {prog : Program} {w : World} {A : Around} (tl : Bool) (hh : A.handled = none) (it a : Addr) (hne : a ≠ it) (its : Array Value) :
    Draws prog w A it [it, a] its.size (fun i v => its[i]? = some v) (fun i h => ItK tl h it a i ∧ IsK tl h a its) := by
  cases tl with
  | true => exact Draws.tuple hh it a hne its
  | false => exact Draws.list hh it a hne its
theorem beginsK (tl : Bool) (a : Addr) (its : Array Value) : Begins (.ref a) (obK tl a) fun h => IsK tl h a its := by
  cases tl with
  | true => exact begins_tuple a its
  | false => exact begins_list a its
theorem itK_new {tl : Bool} {h : Heap} {it a : Addr} (e : h.get? it = some (obK tl a)) : ItK tl h it a 0 := by
  cases tl with
  | true => exact ⟨_, e, rfl, rfl⟩
  | false => exact ⟨_, e, rfl, rfl⟩
theorem itK_obj {tl : Bool} {h : Heap} {it a : Addr} {i : Nat} (e : ItK tl h it a i) : ∃ o, h.get? it = some o ∧ ∀ v, o.data ≠ .cell v := by
  cases tl with
  | true => obtain ⟨o, e, _, d⟩ := e; exact ⟨o, e, fun v q => by rw [d] at q; cases q⟩
  | false => obtain ⟨o, e, _, d⟩ := e; exact ⟨o, e, fun v q => by rw [d] at q; cases q⟩
theorem itK_at {tl : Bool} {h h' : Heap} {it a : Addr} {i : Nat} (e : ItK tl h it a i) (k : ∀ o, h.get? it = some o → h'.get? it = some o) : ItK tl h' it a i := by
  cases tl with
  | true => exact Heap.IsTupleIter.at e k
  | false => exact Heap.IsListIter.at e k
theorem isK_lt {tl : Bool} {h : Heap} {a : Addr} {its : Array Value} (e : IsK tl h a its) : a < h.objs.size := by
  cases tl with
  | true => obtain ⟨o, e, _⟩ := e; exact Heap.lt_size e
  | false => obtain ⟨o, e, _⟩ := e; exact Heap.lt_size e
theorem isK_ne {k1 k2 : Bool} {h : Heap} {it a a' : Addr} {i : Nat} {its : Array Value} (e : ItK k1 h it a' i) (w : IsK k2 h a its) : a ≠ it := by
  rintro rfl
  cases k1 <;> cases k2 <;> (obtain ⟨o, e, c, _⟩ := e; obtain ⟨o', e', c', _⟩ := w; rw [e] at e'; cases e'; rw [c] at c'; exact absurd c' (by decide))
section
variable {X : Cx} {pins : List (Addr × Obj)} {σ : L2.St} {H : Hp} {s : Shared}
theorem inv_K (tl : Bool) (I : Inv X pins σ H s) {a : Addr} {xs : List V} (h : SqK tl X.K H a xs) : ∃ its, Vals xs its ∧ IsK tl s.heap a its.toArray := by
  cases tl with
  | true => obtain ⟨its, rv, p, _⟩ := I.tuple h; exact ⟨its, rv, p⟩
  | false => obtain ⟨its, rv, p, _⟩ := I.list h; exact ⟨its, rv, p.isList⟩
theorem inj_K (tl : Bool) (I : Inv X pins σ H s) {a : Addr} {xs ys : List V} (h : SqK tl X.K H a xs) (w : SqK tl X.K H a ys) : xs = ys := by
  cases tl with
  | true => exact I.tuple_inj h w
  | false => exact I.list_inj h w
end
def ItzK (K : PySem.W.Frag) (k1 k2 : Bool) (a b : Addr) : It :=
  ⟨fun i H => ∃ (xs ys : List V) (x y : V), SqK k1 K H a xs ∧ SqK k2 K H b ys ∧ xs[i]? = some x ∧ ys[i]? = some y,
    fun i H v H' => ∃ T x y, v = .ref T ∧ H T = none ∧ H' = upd H T (.tup [x, y]) ∧ (∀ xs, SqK k1 K H a xs → xs[i]? = some x) ∧ ∀ ys, SqK k2 K H b ys → ys[i]? = some y,
    fun i H => ∃ xs ys : List V, SqK k1 K H a xs ∧ SqK k2 K H b ys ∧ (xs.length = i ∧ i ≤ ys.length ∨ ys.length = i ∧ i ≤ xs.length)⟩
theorem turn_zipK {P : Program} {w : World} {K : PySem.W.Frag} {elts : List Expr} {kk : Nat} {tpos : Pos} {k1 k2 : Bool} {a b z TI TO i1 i2 : Addr} (D : ZipSep2 z TI TO i1 i2 [i1, a] [i2, b]) :
    Turn P w K (.Tuple elts kk tpos) (ItzK K k1 k2 a b) [z, TI, TO, i1, i2] z (fun i h => IsZip h z TI TO .none ∧ IsPair h TI (.ref i1) (.ref i2) ∧ (∃ x y, IsPair h TO x y) ∧ ItK k1 h i1 a i ∧ ItK k2 h i2 b i) where
  mem := by simp
  obj := fun i h st c hc => by
    obtain ⟨hz, hTI, ⟨x, y, hTO⟩, h1, h2⟩ := st
    have e' : c = z ∨ c = TI ∨ c = TO ∨ c = i1 ∨ c = i2 := by simpa using hc
    rcases e' with q | q | q | q | q
    · rw [q]; exact ⟨_, hz, fun v q => nomatch q⟩
    · rw [q]; exact ⟨_, hTI, fun v q => nomatch q⟩
    · rw [q]; exact ⟨_, hTO, fun v q => nomatch q⟩
    · rw [q]; exact itK_obj h1
    · rw [q]; exact itK_obj h2
  keep := fun i h h' st k => by
    obtain ⟨hz, hTI, ⟨x, y, hTO⟩, h1, h2⟩ := st
    exact ⟨k z (by simp) _ hz, k TI (by simp) _ hTI, ⟨x, y, k TO (by simp) _ hTO⟩, itK_at h1 fun o q => k i1 (by simp) o q, itK_at h2 fun o q => k i2 (by simp) o q⟩
  item := by
    intro X hP hw hK hc i pins s σ H E I hf st hg
    subst hP hw hK
    obtain ⟨hz, hTI, ⟨x0, y0, hTO⟩, h1, h2⟩ := st
    obtain ⟨xs, ys, x, y, hqx, hqy, hx, hy⟩ := hg
    obtain ⟨its, rv, p⟩ := inv_K k1 I hqx
    obtain ⟨its2, rv2, p2⟩ := inv_K k2 I hqy
    obtain ⟨u, hu, ru⟩ := rv.get hx
    obtain ⟨u2, hu2, ru2⟩ := rv2.get hy
    have hzl : z < s.heap.objs.size := Heap.lt_size hz
    have hh : X.A.in1.handled = none := I.ok.hd hc
    have hi1 : i < its.toArray.size := by simpa using (List.getElem?_eq_some_iff.mp hu).1
    have hi2 : i < its2.toArray.size := by simpa using (List.getElem?_eq_some_iff.mp hu2).1
    have ne1 : a ≠ i1 := isK_ne h1 p
    have ne2 : b ≠ i2 := isK_ne h2 p2
    refine wpAny_pyNext_zipD2_item D (drawsK k1 hh i1 a ne1 its.toArray) (drawsK k2 hh i2 b ne2 its2.toArray) hz hTI hTO ⟨h1, p⟩ ⟨h2, p2⟩ hi1 hi2 fun x1 x2 h' tk y1 y2 z' TO' h1' h2' hT hsz hk => ?_
    have e1 : x1 = u := by
      rw [List.getElem?_toArray, hu] at y1; exact (Option.some.inj y1).symm
    have e2 : x2 = u2 := by
      rw [List.getElem?_toArray, hu2] at y2; exact (Option.some.inj y2).symm
    subst e1 e2
    refine ⟨_, rfl, wpAny_letOwnedTupleGo_zip (s := { s with heap := h', toks := tk }) z' fun h'' z'' sb => ?_⟩
    have hT2 : h''.get? s.heap.objs.size = some { cls := .type "tuple", data := .seq #[x1, x2] } := (sb.2 _ (Nat.ne_of_gt hzl)).trans hT
    have new : ObjOk X.prog X.w (upd H s.heap.objs.size (.tup [x, y])) h'' s.heap.objs.size (.tup [x, y]) :=
      ⟨by show 2 ≤ sizeLine; decide, [x1, x2], .cons ru (.cons ru2 .nil), ⟨_, hT2, rfl, _, rfl⟩⟩
    have I1 : Inv X pins σ (upd H s.heap.objs.size (.tup [x, y])) { s with heap := h'', toks := tk } :=
      I.turnedNew (t' := tk) (ch := [z, TI, TO, i1, i2]) (fun c o hb q => (sb.2 c (fun q' => hb (by simp [q']))).trans (hk c o (fun q' => hb (by simp [q'])) (fun q' => hb (by simp [q'])) (fun q' => hb (by simp [q'])) (fun q' => hb (by simp [q'])) q)) hf (Nat.le_refl _) new
    refine ⟨.ref s.heap.objs.size, _, I1, rfl, ⟨_, x, y, rfl, I.hok.fresh (Nat.le_refl _), rfl, fun l hl => by rw [inj_K k1 I hl hqx]; exact hx, fun l hl => by rw [inj_K k2 I hl hqy]; exact hy⟩, ⟨z'', ?_, ⟨x1, x2, ?_⟩, ?_, ?_⟩, fun c hcm => ?_⟩
    · exact (sb.2 _ D.TIz).trans (hk _ _ D.TIz D.TITO D.TIi1 D.TIi2 hTI)
    · exact (sb.2 _ D.TOz).trans TO'
    · exact itK_at h1'.1 fun o q => (sb.2 _ (Ne.symm D.zi1)).trans q
    · exact itK_at h2'.1 fun o q => (sb.2 _ (Ne.symm D.zi2)).trans q
    · have hlt : c < s.heap.objs.size := by
        have e' : c = z ∨ c = TI ∨ c = TO ∨ c = i1 ∨ c = i2 := by simpa using hcm
        rcases e' with q | q | q | q | q
        · rw [q]; exact hzl
        · rw [q]; exact Heap.lt_size hTI
        · rw [q]; exact Heap.lt_size hTO
        · rw [q]; obtain ⟨_, e1, _⟩ := itK_obj h1; exact Heap.lt_size e1
        · rw [q]; obtain ⟨_, e2, _⟩ := itK_obj h2; exact Heap.lt_size e2
      rw [upd_ne (Nat.ne_of_lt hlt)]
      exact (hf c hcm).1
  done := by
    intro X hP hw hK hc i pins s σ H E I hf st hg
    subst hP hw hK
    obtain ⟨hz, hTI, ⟨x0, y0, hTO⟩, h1, h2⟩ := st
    obtain ⟨xs, ys, hqx, hqy, hend⟩ := hg
    obtain ⟨its, rv, p⟩ := inv_K k1 I hqx
    obtain ⟨its2, rv2, p2⟩ := inv_K k2 I hqy
    have l1 := rv.length
    have l2 := rv2.length
    have hh : X.A.in1.handled = none := I.ok.hd hc
    have z1 : its.toArray.size = xs.length := by simp; omega
    have z2 : its2.toArray.size = ys.length := by simp; omega
    exact wpAny_pyNext_zipD2_end D (drawsK k1 hh i1 a (isK_ne h1 p) its.toArray) (drawsK k2 hh i2 b (isK_ne h2 p2) its2.toArray) hz hTI hTO ⟨h1, p⟩ ⟨h2, p2⟩ (by omega) (by omega) (by omega) fun h' tk hk =>
      ⟨rfl, I.turnedL (t' := tk) (ch := [z, TI, TO, i1, i2]) (fun c o hb q => hk c o (fun q' => hb (by simp [q'])) (fun q' => hb (by simp [q'])) (fun q' => hb (by simp [q'])) (fun q' => hb (by simp [q'])) q) hf⟩
  self := fun A i s Q E st h => wpAny_pyIter_zip st.1 h
def iZipK (K : PySem.W.Frag) (ta : TA) : TI := fun σ H R => ta σ H fun vs H1 => ∃ a b xs ys k1 k2, vs = [.ref a, .ref b] ∧ SqK k1 K H1 a xs ∧ SqK k2 K H1 b ys ∧ R (ItzK K k1 k2 a b) H1
theorem pi_zipK {X : Cx} {e e2 : Expr} {ta : TA} {p pos tpos : Pos} {elts : List Expr} {kk : Nat} (hg : Gl X "zip") (hm : X.mg "zip" = none) (ha : PA X [e, e2] ta)
    (hs : starEach [e, e2] X.env = (false, eval e X.env) :: starEach [e2] X.env := by rfl) (hpl : (backTo pos (starEach [e2] X.env)).any (·.1) = false := by rfl) :
    PI X (.Tuple elts kk tpos) (.Call (.Name "zip" p) [e, e2] [] pos) (iZipK X.K ta) := by
  refine ⟨fun pins s σ H R I h => ?_⟩
  refine Call_ (ld_blt I hg hm PyProof.Rows.boot_zip (PyProof.Rows.callWith_type1 (thn (ha.run pos pins s σ H _ I h) fun us s1 ⟨vs, H1, I1, r1, q1⟩ => ?_) hs hpl))
  obtain ⟨a, b, xs, ys, k1, k2, ex, hqx, hqy, q⟩ := q1
  subst ex
  cases r1 with
  | cons r rr =>
    cases rr with
    | cons r' rr =>
      cases rr
      cases r
      cases r'
      have fresh5 : ∀ c, c ∈ [s1.heap.objs.size + 4, s1.heap.objs.size + 2, s1.heap.objs.size + 3, s1.heap.objs.size, s1.heap.objs.size + 1] → FpOk X pins H1 c := fun c hcm => by
        have e' : c = s1.heap.objs.size + 4 ∨ c = s1.heap.objs.size + 2 ∨ c = s1.heap.objs.size + 3 ∨ c = s1.heap.objs.size ∨ c = s1.heap.objs.size + 1 := by simpa using hcm
        have hle : s1.heap.objs.size ≤ c := by
          rcases e' with z | z | z | z | z
          · rw [z]; exact Nat.le_add_right _ _
          · rw [z]; exact Nat.le_add_right _ _
          · rw [z]; exact Nat.le_add_right _ _
          · rw [z]; exact Nat.le_refl _
          · rw [z]; exact Nat.le_add_right _ _
        exact I1.fpOk hle (I1.hok.fresh hle)
      obtain ⟨its, rv, p1⟩ := inv_K k1 I1 hqx
      obtain ⟨its2, rv2, p2⟩ := inv_K k2 I1 hqy
      refine zip_begins2 (beginsK k1 a its.toArray) (beginsK k2 b its2.toArray) p1 p2 fun h' hz hTI hTO h1 h2 hsz hk => wpAny_pyIter_zip hz ?_
      have I2 : Inv X pins σ H1 { s1 with heap := h' } := I1.kept (t' := s1.toks) hk
      exact ⟨s1.heap.objs.size + 4, [s1.heap.objs.size + 4, s1.heap.objs.size + 2, s1.heap.objs.size + 3, s1.heap.objs.size, s1.heap.objs.size + 1], _, _, H1, rfl, I2, turn_zipK (zip_sep2 (fun b hb => by rw [List.mem_singleton.mp hb]; exact isK_lt p1) (fun c hb => by rw [List.mem_singleton.mp hb]; exact isK_lt p2)), ⟨hz, hTI, ⟨_, _, hTO⟩, itK_new h1, itK_new h2⟩, fresh5, q⟩
end Dx
/-! Dx, part 7: walks, isinstance, truth, fresh lists. -/
namespace Dx
open PySem PySem.Spec PyProof.Rows L2
/-- J walks xs, whatever happens meanwhile -/
def Goes (K : PySem.W.Frag) (fa : Nat → Addr) (J : It) (xs : List D) (ρ : List Addr) (Z : Addr → Prop) (H : Hp) : Prop :=
  ∀ ρ' Z' H', Step ρ Z H ρ' Z' H' → Hot Z' H' → (∀ (i : Nat) (d : D), xs[i]? = some d → J.go i H' ∧ ∀ v H'', J.yld i H' v H'' →
    Step ρ' Z' H' ρ' Z' H'' ∧ (∀ m, MOk K fa ρ' Z' H' m → MOk K fa ρ' Z' H'' m) ∧ RelD K fa ρ' Z' H'' d v) ∧ J.stop xs.length H'
section
variable {K : PySem.W.Frag} {fa : Nat → Addr} {ρ : List Addr} {Z : Addr → Prop} {H : Hp}
/-- a list that stands still: by what stays through steps -/
theorem goes_list {p : Addr} {vs : List V} {xs : List D} (hs : ∀ ρ' Z' H', Step ρ Z H ρ' Z' H' → SqL K H' p vs) (hot : Hot Z H) (r : RelDs K fa ρ Z H xs vs) : Goes K fa (Itl K p) xs ρ Z H := by
  intro ρ' Z' H' s hot'
  have q := hs ρ' Z' H' s
  have r' := RelDs.mono s hot xs vs r
  refine ⟨fun i d hd => ?_, vs, q, by rw [r.length]; exact Nat.le_refl _⟩
  obtain ⟨v, hv, rv⟩ := r'.get hd
  refine ⟨⟨vs, v, q, hv⟩, fun w H'' y => ?_⟩
  obtain ⟨rfl, y⟩ := y
  have e := y vs q
  rw [hv] at e
  cases e
  exact ⟨Step.refl, fun _ h => h, rv⟩
theorem goes_tup {p : Addr} {vs : List V} {xs : List D} (h : SqT K H p vs) (hot : Hot Z H) (r : RelDs K fa ρ Z H xs vs) : Goes K fa (Itt K p) xs ρ Z H := by
  intro ρ' Z' H' s hot'
  have q := SqT.mono s hot h
  have r' := RelDs.mono s hot xs vs r
  refine ⟨fun i d hd => ?_, vs, q, by rw [r.length]; exact Nat.le_refl _⟩
  obtain ⟨v, hv, rv⟩ := r'.get hd
  refine ⟨⟨vs, v, q, hv⟩, fun w H'' y => ?_⟩
  obtain ⟨rfl, y⟩ := y
  have e := y vs q
  rw [hv] at e
  cases e
  exact ⟨Step.refl, fun _ h => h, rv⟩
theorem goes_range {lo : Int} {n : Nat} : Goes K fa (Itr lo n) ((List.range n).map fun (k : Nat) => .int (lo + k)) ρ Z H := by
  intro ρ' Z' H' s hot'
  refine ⟨fun i d hd => ?_, by show n ≤ _; simp⟩
  rw [List.getElem?_map] at hd
  obtain ⟨j, hj, rfl⟩ := Option.map_eq_some_iff.mp hd
  obtain ⟨hi, e⟩ := List.getElem?_eq_some_iff.mp hj
  rw [List.getElem_range] at e
  subst e
  refine ⟨show i < n by simpa using hi, fun v H'' y => ?_⟩
  obtain ⟨rfl, rfl⟩ := y
  exact ⟨Step.refl, fun _ h => h, rfl⟩
theorem goes_down {lo : Int} {n : Nat} : Goes K fa (Itc lo (-1) n) ((List.range n).map fun (k : Nat) => .int (lo + k * (-1))) ρ Z H := by
  intro ρ' Z' H' s hot'
  refine ⟨fun i d hd => ?_, by show n ≤ _; simp⟩
  rw [List.getElem?_map] at hd
  obtain ⟨j, hj, rfl⟩ := Option.map_eq_some_iff.mp hd
  obtain ⟨hi, e⟩ := List.getElem?_eq_some_iff.mp hj
  rw [List.getElem_range] at e
  subst e
  refine ⟨show i < n by simpa using hi, fun v H'' y => ?_⟩
  obtain ⟨rfl, rfl⟩ := y
  exact ⟨Step.refl, fun _ h => h, rfl⟩
theorem pair_new {T : Addr} {x y : D} {v w : V} {ρ' : List Addr} {Z' : Addr → Prop} {H' : Hp} (hot' : Hot Z' H') (hT : H' T = none) (r1 : RelD K fa ρ' Z' H' x v) (r2 : RelD K fa ρ' Z' H' y w) :
    Step ρ' Z' H' ρ' Z' (upd H' T (.tup [v, w])) ∧ (∀ m, MOk K fa ρ' Z' H' m → MOk K fa ρ' Z' (upd H' T (.tup [v, w])) m) ∧ RelD K fa ρ' Z' (upd H' T (.tup [v, w])) (.tup [x, y]) (.ref T) :=
  ⟨Step.laid hT, fun m I => I.laid hT, T, [v, w], rfl, SqT.of upd_same, v, [w], rfl, RelD.mono (Step.laid hT) hot' x v r1, w, [], rfl, RelD.mono (Step.laid hT) hot' y w r2, rfl⟩
theorem goes_enum {p : Addr} {vs : List V} {xs : List D} (hs : ∀ ρ' Z' H', Step ρ Z H ρ' Z' H' → SqL K H' p vs) (hot : Hot Z H) (r : RelDs K fa ρ Z H xs vs) :
    Goes K fa (Ite K p) (xs.zipIdx.map fun q => .tup [.int q.2, q.1]) ρ Z H := by
  intro ρ' Z' H' s hot'
  have q := hs ρ' Z' H' s
  have r' := RelDs.mono s hot xs vs r
  refine ⟨fun i d hd => ?_, vs, q, by simp [r.length]⟩
  rw [List.getElem?_map, List.getElem?_zipIdx] at hd
  obtain ⟨z, hz, rfl⟩ := Option.map_eq_some_iff.mp hd
  obtain ⟨d, hd1, rfl⟩ := Option.map_eq_some_iff.mp hz
  obtain ⟨v, hv, rv⟩ := r'.get hd1
  refine ⟨⟨vs, v, q, hv⟩, fun w H'' y => ?_⟩
  obtain ⟨T, x, rfl, hT, rfl, hx⟩ := y
  have e := hx vs q
  rw [hv] at e
  cases e
  have e0 : (0 + i) = i := Nat.zero_add i
  rw [e0]
  exact pair_new hot' hT rfl rv
theorem goes_zip {p p2 : Addr} {vs ws : List V} {xs ys : List D} (hs : ∀ ρ' Z' H', Step ρ Z H ρ' Z' H' → SqL K H' p vs) (hs2 : ∀ ρ' Z' H', Step ρ Z H ρ' Z' H' → SqL K H' p2 ws) (hot : Hot Z H) (r : RelDs K fa ρ Z H xs vs) (r2 : RelDs K fa ρ Z H ys ws) :
    Goes K fa (Itz K p p2) (List.zipWith (fun a b => .tup [a, b]) xs ys) ρ Z H := by
  intro ρ' Z' H' s hot'
  have q := hs ρ' Z' H' s
  have q2 := hs2 ρ' Z' H' s
  have r' := RelDs.mono s hot xs vs r
  have r2' := RelDs.mono s hot ys ws r2
  refine ⟨fun i d hd => ?_, vs, ws, q, q2, ?_⟩
  · rw [List.getElem?_zipWith] at hd
    split at hd
    · rename_i a b ha hb
      cases hd
      obtain ⟨v, hv, rv⟩ := r'.get ha
      obtain ⟨w, hw, rw_⟩ := r2'.get hb
      refine ⟨⟨vs, ws, v, w, q, q2, hv, hw⟩, fun u H'' y => ?_⟩
      obtain ⟨T, x, z, rfl, hT, rfl, hx, hz⟩ := y
      have e := hx vs q
      rw [hv] at e
      cases e
      have e := hz ws q2
      rw [hw] at e
      cases e
      exact pair_new hot' hT rv rw_
    · cases hd
  · have l1 := r.length
    have l2 := r2.length
    rw [List.length_zipWith]
    omega
theorem goes_zipT {p p2 : Addr} {vs ws : List V} {xs ys : List D} (hs : SqT K H p vs) (hs2 : SqT K H p2 ws) (hot : Hot Z H) (r : RelDs K fa ρ Z H xs vs) (r2 : RelDs K fa ρ Z H ys ws) :
    Goes K fa (RZ.ItzT K p p2) (List.zipWith (fun a b => .tup [a, b]) xs ys) ρ Z H := by
  intro ρ' Z' H' s hot'
  have q := SqT.mono s hot hs
  have q2 := SqT.mono s hot hs2
  have r' := RelDs.mono s hot xs vs r
  have r2' := RelDs.mono s hot ys ws r2
  refine ⟨fun i d hd => ?_, vs, ws, q, q2, ?_⟩
  · rw [List.getElem?_zipWith] at hd
    split at hd
    · rename_i a b ha hb
      cases hd
      obtain ⟨v, hv, rv⟩ := r'.get ha
      obtain ⟨w, hw, rw_⟩ := r2'.get hb
      refine ⟨⟨vs, ws, v, w, q, q2, hv, hw⟩, fun u H'' y => ?_⟩
      obtain ⟨T, x, z, rfl, hT, rfl, hx, hz⟩ := y
      have e := hx vs q
      rw [hv] at e
      cases e
      have e := hz ws q2
      rw [hw] at e
      cases e
      exact pair_new hot' hT rv rw_
    · cases hd
  · have l1 := r.length
    have l2 := r2.length
    rw [List.length_zipWith]
    omega
theorem goes_zipK {k1 k2 : Bool} {p p2 : Addr} {vs ws : List V} {xs ys : List D} (hs : ∀ ρ' Z' H', Step ρ Z H ρ' Z' H' → SqK k1 K H' p vs) (hs2 : ∀ ρ' Z' H', Step ρ Z H ρ' Z' H' → SqK k2 K H' p2 ws) (hot : Hot Z H) (r : RelDs K fa ρ Z H xs vs) (r2 : RelDs K fa ρ Z H ys ws) :
    Goes K fa (ItzK K k1 k2 p p2) (List.zipWith (fun a b => .tup [a, b]) xs ys) ρ Z H := by
  intro ρ' Z' H' s hot'
  have q := hs ρ' Z' H' s
  have q2 := hs2 ρ' Z' H' s
  have r' := RelDs.mono s hot xs vs r
  have r2' := RelDs.mono s hot ys ws r2
  refine ⟨fun i d hd => ?_, vs, ws, q, q2, ?_⟩
  · rw [List.getElem?_zipWith] at hd
    split at hd
    · rename_i a b ha hb
      cases hd
      obtain ⟨v, hv, rv⟩ := r'.get ha
      obtain ⟨w, hw, rw_⟩ := r2'.get hb
      refine ⟨⟨vs, ws, v, w, q, q2, hv, hw⟩, fun u H'' y => ?_⟩
      obtain ⟨T, x, z, rfl, hT, rfl, hx, hz⟩ := y
      have e := hx vs q
      rw [hv] at e
      cases e
      have e := hz ws q2
      rw [hw] at e
      cases e
      exact pair_new hot' hT rv rw_
    · cases hd
  · have l1 := r.length
    have l2 := r2.length
    rw [List.length_zipWith]
    omega
/-- what stands still: a list or tuple, and how it lies -/
theorem seq_lies {d : D} {xs : List D} {v : V} (h : seqOf d = some xs) (r : RelD K fa ρ Z H d v) : ∃ k p vs, v = .ref p ∧ SqK k K H p vs ∧ (∀ ρ' Z' H', Step ρ Z H ρ' Z' H' → Hot Z H → SqK k K H' p vs) ∧ RelDs K fa ρ Z H xs vs := by
  cases d with
  | tup ys =>
    cases h
    obtain ⟨p, vs, rfl, hp, t⟩ := r
    exact ⟨true, p, vs, rfl, hp, fun ρ' Z' H' s hot => SqT.mono s hot hp, t⟩
  | lst ys =>
    cases h
    obtain ⟨p, vs, rfl, hp, n, t⟩ := r
    exact ⟨false, p, vs, rfl, SqL.of hp, fun ρ' Z' H' s hot => SqL.of (s.keep p _ hp (.inr n)), t⟩
  | _ => cases h
theorem Goes.step {J : It} {xs : List D} {ρ1 : List Addr} {Z1 : Addr → Prop} {H1 : Hp} (g : Goes K fa J xs ρ Z H) (hot : Hot Z H) (s : Step ρ Z H ρ1 Z1 H1) : Goes K fa J xs ρ1 Z1 H1 := fun ρ' Z' H' t h => g ρ' Z' H' (s.trans hot t) h
end
/-! ### a list or a tuple, walked -/
theorem pi_dyn {X : Cx} {tg l : Expr} {tl : TE} (hl : PE X l tl) :
    PI X tg l (fun σ H R => tl σ H fun x H1 => ∃ a, x = .ref a ∧ ((∃ xs, SqL X.K H1 a xs ∧ R (Itl X.K a) H1) ∨ ∃ xs, SqT X.K H1 a xs ∧ R (Itt X.K a) H1)) := by
  refine ⟨fun pins s σ H R I h => thn (hl.run pins s σ H _ I h) fun v s1 w => ?_⟩
  obtain ⟨x, H1, J, rx, a, rfl, w⟩ := w
  cases rx
  have fp : ∀ b ∈ [s1.heap.objs.size], FpOk X pins H1 b := fun b hb => by
    rw [List.mem_singleton.mp hb]
    exact J.fpOk (Nat.le_refl _) (J.hok.fresh (Nat.le_refl _))
  rcases w with ⟨xs, hx, w⟩ | ⟨xs, hx, w⟩
  · obtain ⟨its, _, pl, _⟩ := J.list hx
    refine wpAny_pyIter_list pl.isList ⟨_, [s1.heap.objs.size], _, _, H1, rfl, J.kept (t' := s1.toks) ?_, turn_list a _, ⟨_, Heap.get?_push_size _ rfl, rfl, rfl⟩, fp, w⟩
    exact fun b o e => Heap.get?_push_of_some _ e
  · obtain ⟨its, _, pl, _⟩ := J.tuple hx
    refine wpAny_pyIter_tuple (show s1.heap.IsTuple a its.toArray from pl) ⟨_, [s1.heap.objs.size], _, _, H1, rfl, J.kept (t' := s1.toks) ?_, turn_tuple a _, ⟨_, Heap.get?_push_size _ rfl, rfl, rfl⟩, fp, w⟩
    exact fun b o e => Heap.get?_push_of_some _ e
/-! ### isinstance -/
def tyN : Ty → String
  | .tInt => "int"
  | .tBool => "bool"
  | .tStr => "str"
  | .tList => "list"
  | .tTuple => "tuple"
section
variable {K : PySem.W.Frag} {fa : Nat → Addr} {ρ : List Addr} {Z : Addr → Prop} {H : Hp} {m : M}
theorem ty_of (I : MOk K fa ρ Z H m) {d : D} {v : V} {t : Ty} (r : RelD K fa ρ Z H d v) (h : tyOf m d = some t) : TyX K H v (.type (tyN t)) := by
  unfold tyOf at h
  split at h
  · cases h; cases (show v = _ from r); exact .base (.bl _)
  · cases h; cases (show v = _ from r); exact .base (.int _)
  · cases h; cases (show v = _ from r); exact .base (.str _)
  · cases h
    obtain ⟨p, vs, rfl, hs, _⟩ := r
    rcases hs with (hs | ⟨o, hs⟩) | ⟨o, its, n, hk, hc, _⟩
    · exact .base (.tup hs)
    · exact .fTuple hs
    · exact .kTuple hk hc
  · cases h
    obtain ⟨p, vs, rfl, hs, _⟩ := r
    exact .base (.lst hs)
  · split at h
    · rename_i hx
      cases h
      obtain ⟨p, rfl, hp⟩ := r
      obtain ⟨p', vs, hp', _, hv, _⟩ := I.get hx
      rw [hp] at hp'
      cases hp'
      exact .base (.lst hv)
    · cases h
  · cases h
theorem kit_all (t u : Ty) : kitB (tyN t) (tyN u) = some (decide (u = t) || (decide (u = .tInt) && decide (t = .tBool))) := by
  cases t <;> cases u <;> decide +kernel
theorem kit_non (u : Ty) : kitB "NoneType" (tyN u) = some false := by
  cases u <;> decide +kernel
theorem kit_tys (t : Ty) : ∀ ts : List Ty, PySem.W.kitAny K (.type (tyN t)) (ts.map fun u => .type (tyN u)) = some (isTy t ts)
  | [] => kitAny_nil
  | u :: ts => by
    refine kitAny_cons (kit_ty (kit_all t u)) (fun h => ?_) fun h => ?_
    · rw [kit_tys t ts]
      show some (isTy t ts) = some ((decide (u = t) || (decide (u = .tInt) && decide (t = .tBool))) || isTy t ts)
      rw [h]; rfl
    · show ((decide (u = t) || (decide (u = .tInt) && decide (t = .tBool))) || isTy t ts) = true
      rw [h]; rfl
theorem kit_nons : ∀ ts : List Ty, PySem.W.kitAny K (.type "NoneType") (ts.map fun u => .type (tyN u)) = some false
  | [] => kitAny_nil
  | u :: ts => kitAny_cons (kit_ty (kit_non u)) (fun _ => kit_nons ts) fun h => by cases h
end
/-- isinstance(x, c), x by data -/
def rIsD (K : PySem.W.Frag) (fa : Nat → Addr) (ts : List Ty) : V → Hp → VK → Prop := fun x H Q => ∃ ρ Z m dx b, MOk K fa ρ Z H m ∧ RelD K fa ρ Z H dx x ∧ evIsI m dx ts = some b ∧ Q (.bl b) H
theorem isi_ty {K : PySem.W.Frag} {fa : Nat → Addr} {ρ : List Addr} {Z : Addr → Prop} {H : Hp} {m : M} (I : MOk K fa ρ Z H m) {d : D} {x : V} {ts : List Ty} {b : Bool} (r : RelD K fa ρ Z H d x) (h : evIsI m d ts = some b) :
    ∃ t, TyX K H x t ∧ PySem.W.kitAny K t (ts.map fun u => .type (tyN u)) = some b := by
  unfold evIsI at h
  split at h
  · cases h
    cases (show x = _ from r)
    exact ⟨_, .base .non, kit_nons ts⟩
  · obtain ⟨t, h1, rfl⟩ := Option.map_eq_some_iff.mp h
    exact ⟨_, ty_of I r h1, kit_tys t ts⟩
/-! ### truth -/
theorem tru_v {K : PySem.W.Frag} {fa : Nat → Addr} {ρ : List Addr} {Z : Addr → Prop} {H : Hp} {m : M} (I : MOk K fa ρ Z H m) {d : D} {x : V} {k : Bool} (r : RelD K fa ρ Z H d x) (h : evTru m d = some k) : TruV K x H k := by
  unfold evTru at h
  split at h
  · cases h; cases (show x = _ from r); rfl
  · cases h; cases (show x = _ from r); rfl
  · cases h; cases (show x = _ from r); rfl
  · cases h
    obtain ⟨p, vs, rfl, hs, t⟩ := r
    exact .inr (.inl ⟨vs, hs, by rw [t.nil_iff]⟩)
  · cases h
    obtain ⟨p, vs, rfl, hs, _, t⟩ := r
    exact .inl ⟨vs, SqL.of hs, by rw [t.nil_iff]⟩
  · split at h
    · rename_i hx
      cases h
      obtain ⟨p, rfl, hp⟩ := r
      obtain ⟨p', vs, hp', _, hv, t⟩ := I.get hx
      rw [hp] at hp'
      cases hp'
      exact .inl ⟨vs, SqL.of hv, by rw [t.nil_iff]⟩
    · cases h
  · cases h
/-! ### a list that was just made -/
structure Fresh (K : PySem.W.Frag) (fa : Nat → Addr) (ρ : List Addr) (Z : Addr → Prop) (H : Hp) (ρ' : List Addr) (Z' : Addr → Prop) (H' : Hp) (m : M) (ds : List D) (p : Addr) : Prop where
  step : Step ρ Z H ρ' Z' H'
  mok : MOk K fa ρ' Z' H' m
  hot : Z' p
  np : p ∉ ρ'
  new : H p = none
  is_ : ∃ vs, H' p = some (.lst vs) ∧ RelDs K fa ρ' Z' H' ds vs
section
variable {K : PySem.W.Frag} {fa : Nat → Addr} {ρ ρ' : List Addr} {Z Z' : Addr → Prop} {H H' : Hp} {m : M} {ds : List D} {p : Addr}
theorem Fresh.mut (f : Fresh K fa ρ Z H ρ' Z' H' m ds p) (hot : Hot Z H) : Step ρ Z H (ρ' ++ [p]) Z' H' ∧ MOk K fa (ρ' ++ [p]) Z' H' (m ++ [.lst ds]) ∧ RelD K fa (ρ' ++ [p]) Z' H' (.ref m.length) (.ref p) := by
  obtain ⟨vs, hv, r⟩ := f.is_
  have I := f.mok
  have s1 : Step ρ' Z' H' (ρ' ++ [p]) Z' H' → Step ρ Z H (ρ' ++ [p]) Z' H' := f.step.trans hot
  have st : Step ρ Z H (ρ' ++ [p]) Z' H' := by
    obtain ⟨t, e⟩ := f.step.pre
    refine ⟨⟨t ++ [p], by rw [e, List.append_assoc]⟩, fun a h n => ?_, f.step.newz, f.step.keep, f.step.hotk⟩
    rcases List.mem_append.mp h with h | h
    · exact f.step.newr a h n
    · rw [List.mem_singleton.mp h]; exact f.new
  have down : ∀ (xs : List D) (ws : List V), RelDs K fa ρ' Z' H' xs ws → RelDs K fa (ρ' ++ [p]) Z' H' xs ws := fun xs ws h =>
    RelDs.down (n := ρ'.length) (fun i h => by rw [List.getElem?_append_left h]) (fun a h => h) xs ws (RelDs.lt xs ws h) h
  refine ⟨st, ⟨by simp [I.len], ?_, fun a ha => ?_, I.hot, fun i o e ne a ha => ?_⟩, p, rfl, ?_⟩
  · rw [List.nodup_append]
    refine ⟨I.nd, by simp, fun a ha b hb => ?_⟩
    rw [List.mem_singleton.mp hb]
    exact fun z => f.np (z ▸ ha)
  · rcases List.mem_append.mp ha with h | h
    · exact I.there a h
    · rw [List.mem_singleton.mp h, hv]; intro z; cases z
  · by_cases hi : i < m.length
    · rw [List.getElem?_append_left hi] at e
      rw [List.getElem?_append_left (by rw [I.len]; exact hi)] at ha
      obtain ⟨z, ro⟩ := I.live i o e ne a ha
      refine ⟨z, ?_⟩
      cases o with
      | gone => trivial
      | lst zs =>
        obtain ⟨ws, hw, rr⟩ := ro
        exact ⟨ws, hw, down zs ws rr⟩
    · have hi' : i < (m ++ [O.lst ds]).length := (List.getElem?_eq_some_iff.mp e).1
      rw [List.length_append, List.length_singleton] at hi'
      have ei : i = m.length := by omega
      subst ei
      rw [List.getElem?_append_right (Nat.le_refl _), Nat.sub_self] at e
      rw [← I.len, List.getElem?_append_right (Nat.le_refl _), Nat.sub_self] at ha
      cases e
      cases ha
      exact ⟨f.hot, vs, hv, down ds vs r⟩
  · rw [← I.len, List.getElem?_append_right (Nat.le_refl _), Nat.sub_self]; rfl
theorem Fresh.value (f : Fresh K fa ρ Z H ρ' Z' H' m ds p) (hot : Hot Z H) : Step ρ Z H ρ' (fun a => Z' a ∧ a ≠ p) H' ∧ MOk K fa ρ' (fun a => Z' a ∧ a ≠ p) H' m ∧ RelD K fa ρ' (fun a => Z' a ∧ a ≠ p) H' (.lst ds) (.ref p) := by
  obtain ⟨vs, hv, r⟩ := f.is_
  have I := f.mok
  have down : ∀ (xs : List D) (ws : List V), RelDs K fa ρ' Z' H' xs ws → RelDs K fa ρ' (fun a => Z' a ∧ a ≠ p) H' xs ws := fun xs ws h =>
    RelDs.down (n := ρ'.length) (fun i h => rfl) (fun a h => h.1) xs ws (RelDs.lt xs ws h) h
  refine ⟨⟨f.step.pre, f.step.newr, fun a h n => f.step.newz a h.1 n, f.step.keep, fun a h n => ⟨f.step.hotk a h n, fun e => ?_⟩⟩, ⟨I.len, I.nd, I.there, fun a h => I.hot a h.1, fun i o e ne a ha => ?_⟩, p, vs, rfl, hv, fun h => h.2 rfl, down ds vs r⟩
  · have q := hot a h
    rw [e, f.new] at q
    exact q
  · obtain ⟨z, ro⟩ := I.live i o e ne a ha
    refine ⟨⟨z, fun e => f.np (e ▸ List.mem_of_getElem? ha)⟩, ?_⟩
    cases o with
    | gone => trivial
    | lst zs =>
      obtain ⟨ws, hw, rr⟩ := ro
      exact ⟨ws, hw, down zs ws rr⟩
/-- laid behind a step -/
theorem Fresh.of_laid {H1 : Hp} {Z1 : Addr → Prop} {ρ1 : List Addr} {vs : List V} (hot : Hot Z H) (s : Step ρ Z H ρ1 Z1 H1) (I : MOk K fa ρ1 Z1 H1 m) (r : RelDs K fa ρ1 Z1 H1 ds vs) (hp : H1 p = none) :
    Fresh K fa ρ Z H ρ1 (fun a => Z1 a ∨ a = p) (upd H1 p (.lst vs)) m ds p := by
  obtain ⟨I', s'⟩ := I.push (xs := ds) hp r
  have np : p ∉ ρ1 := fun h => I.there p h hp
  have s2 : Step ρ1 Z1 H1 ρ1 (fun a => Z1 a ∨ a = p) (upd H1 p (.lst vs)) := ⟨⟨[], by simp⟩, fun _ h n => absurd h n, s'.newz, s'.keep, s'.hotk⟩
  refine ⟨s.trans hot s2, ⟨I.len, I.nd, fun a h => I'.there a (List.mem_append_left _ h), I'.hot, fun i o e ne a ha => ?_⟩, .inr rfl, np, ?_, vs, upd_same, RelDs.mono s2 I.hot ds vs r⟩
  · obtain ⟨z, ro⟩ := I.live i o e ne a ha
    refine ⟨.inl z, ?_⟩
    have nap : a ≠ p := fun z => np (z ▸ List.mem_of_getElem? ha)
    cases o with
    | gone => trivial
    | lst zs =>
      obtain ⟨ws, hw, rr⟩ := ro
      exact ⟨ws, by rw [upd_ne nap]; exact hw, RelDs.mono s2 I.hot zs ws rr⟩
  · cases q : H p with
    | none => rfl
    | some o =>
      by_cases z : p ∈ ρ
      · exact absurd (s.old z) np
      · rw [s.keep p o q (.inl z)] at hp; cases hp
end
/-- a list made anew, read by a function -/
def tF (K : PySem.W.Frag) (fa ca : Nat → Addr) (P : L2.St → Prop) (W : WX) (f : Env' → M → Res (List D)) : TE :=
  fun σ H Q => P σ ∧ ∃ ρ Z e m, Sim K fa ρ Z H σ e m ∧ PF K fa ca W σ ρ Z H (f e m) (fun ρ' Z' H' m ds p => Fresh K fa ρ Z H ρ' Z' H' m ds p) Q
/-- what is wanted of a walk -/
def PI' (K : PySem.W.Frag) (fa ca : Nat → Addr) (W : WX) (σ : L2.St) (ρ : List Addr) (Z : Addr → Prop) (H : Hp) (r : Res Src) (R : It → Hp → Prop) : Prop := match r with
  | .ok (.seq xs) m => ∀ ρ' Z' H' J, Step ρ Z H ρ' Z' H' → MOk K fa ρ' Z' H' m → Goes K fa J xs ρ' Z' H' → R J H'
  | .ok (.rf r _) m => ∀ ρ' Z' H' p, Step ρ Z H ρ' Z' H' → MOk K fa ρ' Z' H' m → ρ'[r]? = some p → R (Itl K p) H'
  | .err c m => ∀ ρ' Z' H', Step ρ Z H ρ' Z' H' → MOk K fa ρ' Z' H' m → W (.ref (ca c)) none σ H'
  | .bad => False
def tI (K : PySem.W.Frag) (fa ca : Nat → Addr) (P : L2.St → Prop) (W : WX) (f : Env' → M → Res Src) : TI :=
  fun σ H R => P σ ∧ ∃ ρ Z e m, Sim K fa ρ Z H σ e m ∧ PI' K fa ca W σ ρ Z H (f e m) R
end Dx
/-! Dx, part 8: the tie between core text and the program's text. -/
namespace Dx
open PySem PySem.Spec PyProof.Rows L2
/-- names by number: defs, exception classes, constants, built-ins that stand, calls by keywords (def, how many by place, names, order) -/
structure Tab where
  fns : List Str
  cls : List Str
  glo : List (Str × D)
  blt : List Str
  kws : List (Nat × Nat × List Str × List Nat)
structure SC where
  N : List Str
  sc : Scope
  fnb : Str → Bool
  calm : Bool
  exc : Option Nat := none
/-- within a comprehension's block -/
def SC.blk (S : SC) (scope : Scope) : SC := { N := S.N, sc := relS scope S.sc, fnb := fun x => scope.names.lookup x == some .cell, calm := S.calm, exc := none }
def visB (S : SC) (x : Str) : Bool := match S.sc.names.lookup x with
  | some .local => true
  | some .cell => true
  | some .free => true
  | _ => false
def gloB (S : SC) (x : Str) : Bool := (match S.sc.names.lookup x with
  | some .globalImplicit => true
  | _ => false) && !(x == ("__debug__" : Str))
def nameB (S : SC) (i : Nat) (x : Str) : Bool := decide (S.N[i]? = some x) && visB S x && !(x == ("__debug__" : Str)) && !(x == ("__classdict__" : Str))
/-- may be stored -/
def locB (S : SC) (i : Nat) (x : Str) : Bool := decide (S.N[i]? = some x) && match S.sc.names.lookup x with
  | some .local => true
  | some .cell => S.fnb x
  | _ => false
def bltB (T : Tab) (S : SC) (x : Str) : Bool := gloB S x && T.blt.contains x
def nst : Expr → Bool
  | .Starred _ _ => false
  | _ => true
def plainT : Expr → Bool
  | .UnaryOp _ _ _ => false
  | .BoolOp _ _ _ => false
  | .IfExp _ _ _ _ => false
  | .Compare _ _ _ _ => false
  | _ => true
def notSet : Expr → Bool
  | .Set _ _ _ => false
  | _ => true
def notSlice : Expr → Bool
  | .Slice _ _ _ _ => false
  | _ => true
def notComp : Expr → Bool
  | .ListComp _ _ _ _ => false
  | .SetComp _ _ _ _ => false
  | .DictComp _ _ _ _ _ => false
  | _ => true
def bltName : Blt → Str
  | .len => "len"
  | .abs => "abs"
  | .toInt => "int"
  | .all => "all"
  | .any => "any"
  | .toTuple => "tuple"
  | .sum => "sum"
  | .max2 => "max"
  | .min2 => "min"
def tyS : Ty → Str
  | .tInt => "int"
  | .tBool => "bool"
  | .tStr => "str"
  | .tList => "list"
  | .tTuple => "tuple"
def isTup : Expr → Bool
  | .Tuple _ _ _ => true
  | _ => false
/-- the classes that isinstance asks -/
def chkTys (T : Tab) (S : SC) : List Ty → List Expr → Bool
  | [], [] => true
  | t :: ts, x :: xs => (match x with
    | .Name n _ => decide (n = tyS t) && bltB T S n
    | _ => false) && chkTys T S ts xs
  | _, _ => false
mutual
def chkTg (S : SC) : Tg → Expr → Bool
  | .name i, x => (match x with
    | .Name n _ => locB S i n
    | _ => false)
  | .tup ts, x => (match x with
    | .Tuple xs _ _ => S.calm && chkTgs S ts xs
    | _ => false)
def chkTgs (S : SC) : List Tg → List Expr → Bool
  | [], [] => true
  | t :: ts, x :: xs => nst x && chkTg S t x && chkTgs S ts xs
  | _, _ => false
end
mutual
def tgIx : Tg → List Nat
  | .name i => [i]
  | .tup ts => tgIxs ts
def tgIxs : List Tg → List Nat
  | [] => []
  | t :: ts => tgIx t ++ tgIxs ts
end
mutual
def chkE (T : Tab) (S : SC) : CE → Expr → Bool
  | .var i, x => (match x with
    | .Name n _ => nameB S i n
    | _ => false)
  | .int i, x => (match x with
    | .Constant (.int j) _ _ => decide (i = j)
    | _ => false)
  | .bl b, x => (match x with
    | .Constant (.bool c) _ _ => decide (b = c)
    | _ => false)
  | .non, x => (match x with
    | .Constant .none _ _ => true
    | _ => false)
  | .str z, x => (match x with
    | .Constant (.str w) _ _ => decide (z = w)
    | _ => false)
  | .glob i, x => (match x with
    | .Name n _ => (match T.glo[i]? with
      | some p => decide (p.1 = n) && gloB S n
      | none => false)
    | _ => false)
  | .fn i, x => (match x with
    | .Name n _ => decide (T.fns[i]? = some n) && gloB S n
    | _ => false)
  | .bin o a b, x => (match x with
    | .BinOp l o' r _ => decide (o = o') && chkE T S a l && chkE T S b r
    | _ => false)
  | .neg a, x => (match x with
    | .UnaryOp .USub y _ => chkE T S a y
    | _ => false)
  | .cmp o a b, x => (match x with
    | .Compare l [o'] [r] _ => S.calm && decide (o = o') && !behindInMarks o r && true && chkE T S a l && chkE T S b r
    | _ => false)
  | .chain o p a b c, x => (match x with
    | .Compare l [o', p'] [r, q] _ => S.calm && decide (o = o') && decide (o ≠ .In) && decide (o ≠ .NotIn) && decide (p = p') && decide (p ≠ .In) && decide (p ≠ .NotIn) && chkE T S a l && chkE T S b r && chkE T S c q
    | _ => false)
  | .andV es, x => (match x with
    | .BoolOp .And xs _ => chkEs T S es xs
    | _ => false)
  | .orV es, x => (match x with
    | .BoolOp .Or xs _ => chkEs T S es xs
    | _ => false)
  | .notV a, x => (match x with
    | .UnaryOp .Not y _ => chkE T S a y
    | _ => false)
  | .orT a b, x => (match x with
    | .BoolOp .Or [y, z] _ => chkE T S a y && chkE T S b z
    | _ => false)
  | .ife t a b, x => (match x with
    | .IfExp c y z _ => chkT T S t c && chkE T S a y && chkE T S b z
    | _ => false)
  | .tup es, x => (match x with
    | .Tuple xs _ _ => chkEs T S es xs
    | _ => false)
  | .lv l, x => chkL T S l x
  | .lm l, x => chkL T S l x
  | .frz a, x => chkE T S a x
  | .idx a b, x => (match x with
    | .Subscript y z _ => notSlice z && chkE T S a y && chkE T S b z
    | _ => false)
  | .slc a lo hi, x => (match x with
    | .Subscript y (.Slice l h none _) _ => chkE T S a y && chkO T S lo l && chkO T S hi h
    | _ => false)
  | .call f es, x => (match x with
    | .Call (.Name n _) (y :: ys) [] _ => S.calm && decide (T.fns[f]? = some n) && gloB S n && chkEs T S es (y :: ys)
    | .Call (.Name n _) [] [] _ => S.calm && decide (T.fns[f]? = some n) && gloB S n && chkEs T S es []
    | _ => false)
  | .callL i es, x => (match x with
    | .Call (.Name n _) (y :: ys) [] _ => S.calm && nameB S i n && chkEs T S es (y :: ys)
    | _ => false)
  | .callK f es ks pm, x => (match x with
    | .Call (.Name n _) ys (k :: kws) _ => S.calm && decide (T.fns[f]? = some n) && gloB S n && chkEs T S es ys && chkKs T S ks (k :: kws) && decide ((f, ys.length, (k :: kws).filterMap (·.arg), pm) ∈ T.kws)
    | _ => false)
  | .blt b es, x => (match x with
    | .Call (.Name n _) (y :: ys) [] _ => S.calm && decide (n = bltName b) && bltB T S n && chkEs T S es (y :: ys)
    | _ => false)
  | .isI a ts, x => (match x with
    | .Call (.Name n _) [y, z] [] _ => S.calm && decide (n = ("isinstance" : Str)) && bltB T S n && nst y && nst z && chkE T S a y && (match z with
      | .Tuple zs _ _ => decide (ts.length ≤ 1000) && zs.all nst && chkTys T S ts zs
      | z => decide (ts.length = 1) && chkTys T S ts [z])
    | _ => false)
  | .excIs i, x => (match x with
    | .Call (.Name n _) [.Name y _, .Name z _] [] _ => !S.calm && decide (n = ("isinstance" : Str)) && bltB T S n && decide (S.exc = some i) && nameB S i y && decide (z = ("ValueError" : Str)) && bltB T S z
    | _ => false)
  | .stuck, x => true
  | .callP f es, x => (match x with
    | .Call (.Name n _) (y :: ys) [] _ => S.calm && decide (T.fns[f]? = some n) && gloB S n && chkEs T S es (y :: ys)
    | _ => false)
def chkEs (T : Tab) (S : SC) : CEs → List Expr → Bool
  | .nil, xs => (match xs with
    | [] => true
    | _ => false)
  | .cons e es, xs => (match xs with
    | x :: xs => nst x && chkE T S e x && chkEs T S es xs
    | _ => false)
def chkKs (T : Tab) (S : SC) : CEs → List Keyword → Bool
  | .nil, xs => (match xs with
    | [] => true
    | _ => false)
  | .cons e es, xs => (match xs with
    | x :: xs => x.arg.isSome && chkE T S e x.value && chkKs T S es xs
    | _ => false)
def chkO (T : Tab) (S : SC) : CO → Option Expr → Bool
  | .none, x => (match x with
    | none => true
    | _ => false)
  | .some e, x => (match x with
    | some y => chkE T S e y
    | _ => false)
def chkL (T : Tab) (S : SC) : CL → Expr → Bool
  | .disp es, x => (match x with
    | .List xs _ => chkEs T S es xs
    | _ => false)
  | .comp elt tg it cond own, x => (match x with
    | .ListComp y [g] scope _ => S.calm && decide (g.is_async = 0) && notSet g.iter && chkI T S it g.target g.iter && blkC S.N S.sc scope (own.map fun i => (S.N.getD i Str.empty, i)) &&
      (tgIx tg).all own.contains &&
      chkTg (S.blk scope) tg g.target &&
      chkTo T (S.blk scope) cond g.ifs &&
      chkE T (S.blk scope) elt y
    | _ => false)
  | .cat a b, x => (match x with
    | .BinOp l .Add r _ => chkE T S a l && chkE T S b r
    | _ => false)
  | .rep a b, x => (match x with
    | .BinOp l .Mult r _ => chkE T S a l && chkE T S b r
    | _ => false)
  | .lst a, x => (match x with
    | .Call (.Name n _) [y] [] _ => decide (n = ("list" : Str)) && bltB T S n && nst y && chkE T S a y
    | _ => false)
  | .slc a lo hi, x => (match x with
    | .Subscript y (.Slice l h none _) _ => chkE T S a y && chkO T S lo l && chkO T S hi h
    | _ => false)
def chkI (T : Tab) (S : SC) : CI → Expr → Expr → Bool
  | .seq a, _, x => chkE T S a x
  | .rng1 a, _, x => (match x with
    | .Call (.Name n _) [y] [] _ => decide (n = ("range" : Str)) && bltB T S n && nst y && chkE T S a y
    | _ => false)
  | .rng2 a b, _, x => (match x with
    | .Call (.Name n _) [y, z] [] _ => decide (n = ("range" : Str)) && bltB T S n && nst y && nst z && chkE T S a y && chkE T S b z
    | _ => false)
  | .rngD a b c, _, x => (match x with
    | .Call (.Name n _) [y, z, w] [] _ => decide (n = ("range" : Str)) && bltB T S n && nst y && nst z && nst w && chkE T S a y && chkE T S b z && chkE T S c w
    | _ => false)
  | .enum a, tg, x => (match x with
    | .Call (.Name n _) [y] [] _ => isTup tg && decide (n = ("enumerate" : Str)) && bltB T S n && nst y && chkE T S a y
    | _ => false)
  | .zip a b, tg, x => (match x with
    | .Call (.Name n _) [y, z] [] _ => isTup tg && decide (n = ("zip" : Str)) && bltB T S n && nst y && nst z && chkE T S a y && chkE T S b z
    | _ => false)
def chkT (T : Tab) (S : SC) : CT → Expr → Bool
  | .val a, x => plainT x && chkE T S a x
  | .tru a, x => plainT x && chkE T S a x
  | .cmp o a b, x => (match x with
    | .Compare l [o'] [r] _ => S.calm && decide (o = o') && !behindInMarks o r && true && chkE T S a l && chkE T S b r
    | _ => false)
  | .chain o p a b c, x => (match x with
    | .Compare l [o', p'] [r, q] _ => S.calm && decide (o = o') && decide (o ≠ .In) && decide (o ≠ .NotIn) && decide (p = p') && decide (p ≠ .In) && decide (p ≠ .NotIn) && chkE T S a l && chkE T S b r && chkE T S c q
    | _ => false)
  | .and ts, x => (match x with
    | .BoolOp .And xs _ => chkTs T S ts xs
    | _ => false)
  | .or ts, x => (match x with
    | .BoolOp .Or xs _ => chkTs T S ts xs
    | _ => false)
  | .not t, x => (match x with
    | .UnaryOp .Not y _ => chkT T S t y
    | _ => false)
def chkTs (T : Tab) (S : SC) : CTs → List Expr → Bool
  | .nil, xs => (match xs with
    | [] => true
    | _ => false)
  | .cons e es, xs => (match xs with
    | x :: xs => chkT T S e x && chkTs T S es xs
    | _ => false)
def chkTo (T : Tab) (S : SC) : CTo → List Expr → Bool
  | .none, xs => (match xs with
    | [] => true
    | _ => false)
  | .some t, xs => (match xs with
    | [x] => chkT T S t x
    | _ => false)
end
/-! ### what the tie gives -/
theorem starEach_ns {e : Expr} {es : List Expr} {env : Env} (h : nst e = true) : starEach (e :: es) env = (false, eval e env) :: starEach es env := by
  cases e <;> first | rfl | cases h
theorem assignEach_ns {e : Expr} {es : List Expr} {env : Env} (h : nst e = true) : assignEach (e :: es) env = (false, assign e env) :: assignEach es env := by
  cases e <;> first | rfl | cases h
theorem isTrue_plain' {e : Expr} {env : Env} (h : plainT e = true) (whole : Sem Value) : isTrue e env whole = (do let v ← whole; standAt e.pos; holding [v] (truthy v)) := by
  cases e <;> first | rfl | cases h
theorem notSet_iter {e : Expr} {env : Env} (h : notSet e = true) (x : Value) : foldedSetIterable e env x = pure x := by
  cases e <;> first | rfl | cases h
theorem notSlice_ix {e : Expr} (h : notSlice e = true) : PlainIx e := by
  cases e <;> first | exact fun _ _ => rfl | cases h
theorem plain_any : ∀ {es : List Expr} {pos : Pos} {env : Env}, (∀ e ∈ es, nst e = true) → (backTo pos (starEach es env)).any (·.1) = false
  | [], _, _, _ => rfl
  | e :: es, pos, env, h => by
    have ih := plain_any (es := es) (pos := pos) (env := env) fun x hx => h x (List.mem_cons_of_mem _ hx)
    rw [starEach_ns (h e List.mem_cons_self)]
    unfold backTo at ih ⊢
    rw [List.map_cons, List.any_cons]
    exact ih
theorem chkEs_ns {T : Tab} {S : SC} : ∀ {es : CEs} {xs : List Expr}, chkEs T S es xs = true → ∀ x ∈ xs, nst x = true
  | .nil, [], _, x, hx => by cases hx
  | .nil, _ :: _, h, x, hx => by cases h
  | .cons e es, [], h, x, hx => by cases hx
  | .cons e es, y :: ys, h, x, hx => by
    have h' : (nst y && chkE T S e y && chkEs T S es ys) = true := h
    simp only [Bool.and_eq_true] at h'
    rcases List.mem_cons.mp hx with q | q
    · rw [q]; exact h'.1.1
    · exact chkEs_ns h'.2 x q
end Dx
/-! Dx, part 9: each construct, from its parts. -/
namespace Dx
open PySem PySem.Spec PyProof.Rows L2
theorem PR_of {α β : Type} {K : PySem.W.Frag} {fa ca : Nat → Addr} {W : WX} {σ : L2.St} {rel : Rl α β} {ρ : List Addr} {Z : Addr → Prop} {H : Hp} {o : Option α} {m : M} {Q : β → Hp → Prop} (h : PR K fa ca W σ rel ρ Z H (.of o m) Q) :
    ∃ a, o = some a ∧ PR K fa ca W σ rel ρ Z H (.ok a m) Q := by
  cases o with
  | none => exact h.elim
  | some a => exact ⟨a, rfl, h⟩
/-- what a def promises, by data -/
def spD (K : PySem.W.Frag) (fa ca : Nat → Addr) (F : List D → M → Res D) (n : Nat) : Sp := fun vs H Q E => vs.length = n ∧ ∃ ρ Z m ds, MOk K fa ρ Z H m ∧ RelDs K fa ρ Z H ds vs ∧
  PR K fa ca (fun cls d _ H' => E cls d H') [] (rD K fa) ρ Z H (F ds m) Q
/-- how a call with keywords binds -/
def KwB (K : PySem.W.Frag) (fd : FuncData) (ps : List Str) (n : Nat) (ks : List Str) (pm : List Nat) : Prop :=
  ∀ (s : Shared) (us ws zs : List Value), K.In s.heap → us.length = n → ws.length = ks.length → pickL (us ++ ws) pm = some zs → zs.length = ps.length → BindsTo s fd ⟨us, ks.zip ws⟩ (ps.zip zs)
structure ClsOk (K : PySem.W.Frag) (mg : Str → Option Value) (x : Str) (C : Addr) : Prop where
  g : mg x = some (.ref C)
  kp : PySem.W.keepIn K (.ref C) = true
  ex : PySem.W.excIn K C He.veBase "ValueError.__new__" = true
  sb : PySem.W.subIn K (.ref C) (.type "BaseException") = some true
  ty : PySem.W.typeIn K (.ref C) = some (.type "type")
  ec : ExcC K C
  ve : PySem.W.kitOne K (.ref C) (.type "ValueError") = some true
  db : (x == ("__debug__" : Str)) = false
/-- what the head gives -/
structure Facts (T : Tab) (fa ca : Nat → Addr) (cf : Cfg) (k : Nat) (prog : Program) (w : World) (K : PySem.W.Frag) (mg : Str → Option Value) (base : Heap) : Prop where
  fns : ∀ (i : Nat) (x : Str), T.fns[i]? = some x → mg x = some (.ref (fa i)) ∧ PySem.W.keepIn K (.ref (fa i)) = true ∧ ∃ fd ps, FnOk prog w K mg base (CX prog w) k (fa i) fd ps (spD K fa ca (cf.call i) ps.length) ∧ Binds K fd ps [] ∧ (∀ ds m, ds.length ≠ ps.length → cf.call i ds m = .bad) ∧
    ∀ e ∈ T.kws, e.1 = i → KwB K fd ps e.2.1 e.2.2.1 e.2.2.2
  dom : cf.nf = T.fns.length
  domc : cf.nc = T.cls.length
  glo : ∀ (i : Nat) p, T.glo[i]? = some p → cf.glob i = some p.2 ∧ ∃ v u, mg p.1 = some u ∧ RelV v u ∧ ∀ ρ Z H, RelD K fa ρ Z H p.2 v
  blt : ∀ x ∈ T.blt, mg x = none
  cls : ∀ (i : Nat) (x : Str), T.cls[i]? = some x → ClsOk K mg x (ca i)
  exm : ∀ (i j : Nat) x y, T.cls[i]? = some x → T.cls[j]? = some y → PySem.W.exmOne K (.ref (ca i)) (.ref (ca j)) = some (decide (i = j))
structure Good (T : Tab) (fa ca : Nat → Addr) (cf : Cfg) (k : Nat) (S : SC) (P : L2.St → Prop) (X : Cx) : Prop where
  N : X.N = S.N
  sc : X.env.scope = S.sc
  nd : S.N.Nodup
  fnb : X.fn = S.fnb
  calm : S.calm = true → X.calm = true
  room : S.calm = true → Room k X.A
  exc : ∀ i, S.exc = some i → ∃ a Dc, (∀ σ, P σ → σ[i]? = some (some (.ref a))) ∧ CallR X (.builtin "isinstance") (rIsE X.K Dc a) ∧ PySem.W.kitOne X.K (.ref Dc) (.type "ValueError") = some true
  f : Facts T fa ca cf k X.prog X.w X.K X.mg X.base
section
variable {T : Tab} {fa ca : Nat → Addr} {cf : Cfg} {k : Nat} {S : SC} {P : L2.St → Prop} {X : Cx} {W : WX}
theorem vis_of {x : Str} (G : Good T fa ca cf k S P X) (h : visB S x = true) : Vis X.env.scope x := by
  rw [G.sc]
  unfold visB at h
  unfold Vis
  split at h
  · rename_i e; exact .inl e
  · rename_i e; exact .inr (.inl e)
  · rename_i e; exact .inr (.inr e)
  · cases h
theorem glo_of {x : Str} (G : Good T fa ca cf k S P X) (h : gloB S x = true) : Gl X x ∧ (x == ("__debug__" : Str)) = false := by
  unfold gloB at h
  rw [Bool.and_eq_true] at h
  refine ⟨?_, by simpa using h.2⟩
  show X.env.scope.names.lookup x = some .globalImplicit
  rw [G.sc]
  have h1 := h.1
  split at h1
  · rename_i e; exact e
  · cases h1
theorem name_of {i : Nat} {x : Str} (G : Good T fa ca cf k S P X) (h : nameB S i x = true) : X.N[i]? = some x ∧ Vis X.env.scope x ∧ (x == ("__debug__" : Str)) = false ∧ (x == ("__classdict__" : Str)) = false := by
  unfold nameB at h
  simp only [Bool.and_eq_true] at h
  obtain ⟨⟨⟨h1, h2⟩, h3⟩, h4⟩ := h
  exact ⟨by rw [G.N]; exact of_decide_eq_true h1, vis_of G h2, by simpa using h3, by simpa using h4⟩
theorem blt_of {x : Str} (G : Good T fa ca cf k S P X) (h : bltB T S x = true) : Gl X x ∧ X.mg x = none := by
  unfold bltB at h
  rw [Bool.and_eq_true] at h
  exact ⟨(glo_of G h.1).1, G.f.blt x (by simpa using h.2)⟩
theorem loc_of {i : Nat} {x : Str} (G : Good T fa ca cf k S P X) (h : locB S i x = true) : X.N[i]? = some x ∧ L2.Loc X.env.scope x ∧ (X.fn x = true ∨ X.env.scope.names.lookup x = some .local) := by
  unfold locB at h
  rw [Bool.and_eq_true] at h
  refine ⟨by rw [G.N]; exact of_decide_eq_true h.1, ?_⟩
  have h2 := h.2
  unfold L2.Loc
  rw [G.sc, G.fnb]
  split at h2
  · rename_i e; exact ⟨.inl e, .inr e⟩
  · rename_i e; exact ⟨.inr e, .inl h2⟩
  · cases h2
/-! ### leaves -/
abbrev RE (X : Cx) (fa ca : Nat → Addr) (P : L2.St → Prop) (W : WX) (f : Env' → M → Res D) : TE := tR X.K fa ca P W (rD X.K fa) f
abbrev RT (X : Cx) (fa ca : Nat → Addr) (P : L2.St → Prop) (W : WX) (f : Env' → M → Res Bool) : TT := tR X.K fa ca P W (rEq Bool) f
abbrev RA (X : Cx) (fa ca : Nat → Addr) (P : L2.St → Prop) (W : WX) (f : Env' → M → Res (List D)) : TA := tR X.K fa ca P W (rDs X.K fa) f
theorem s_const {e : Expr} {v : V} {d : D} (h : PE X e (tC v)) (r : ∀ ρ Z H, RelD X.K fa ρ Z H d v) : PE X e (RE X fa ca P W fun _ m => .ok d m) :=
  h.imp fun σ H Q ⟨_, ρ, Z, e, m, Sm, q⟩ => q.out Sm.mok (r ρ Z H)
theorem s_var {i : Nat} {x : Str} {pos : Pos} (G : Good T fa ca cf k S P X) (h : nameB S i x = true) : PE X (.Name x pos) (RE X fa ca P W fun e m => .of (getV e i) m) := by
  obtain ⟨h1, h2, h3, h4⟩ := name_of G h
  refine (pe_var h1 h2 h3 h4).imp fun σ H Q ⟨_, ρ, Z, e, m, Sm, q⟩ => ?_
  obtain ⟨d, hd, q⟩ := PR_of q
  obtain ⟨v, hv, r⟩ := Sm.env i d hd
  exact ⟨v, hv, q.out Sm.mok r⟩
/-! ### two places -/
theorem tOp_bin {f g : Env' → M → Res D} {kk : M → D → D → Option D} {σ : L2.St} {H : Hp} {Q : VK} (h : RE X fa ca P W (fun e m => (f e m).bind fun x m => (g e m).bind fun y m => .of (kk m x y) m) σ H Q) :
    tOp (rBin X.K fa kk) (RE X fa ca P W f) (RE X fa ca P W g) σ H Q := by
  obtain ⟨p, ρ, Z, e, m, Sm, h⟩ := h
  refine ⟨p, ρ, Z, e, m, Sm, (PR.bind Sm.mok.hot h).mono fun x H1 ⟨ρ1, Z1, d1, m1, _, s1, I1, r1, h1⟩ => ?_⟩
  refine ⟨p, ρ1, Z1, e, m1, Sm.step s1 I1, (PR.bind I1.hot h1).mono fun y H2 ⟨ρ2, Z2, d2, m2, _, s2, I2, r2, h2⟩ => ?_⟩
  obtain ⟨d, hd, h3⟩ := PR_of h2
  exact ⟨ρ2, Z2, m2, d1, d2, d, I2, RelD.mono s2 I1.hot _ _ r1, r2, hd, h3⟩
theorem tOp_cmp {f g : Env' → M → Res D} {kk : D → D → Option Bool} {σ : L2.St} {H : Hp} {Q : VK} (h : RE X fa ca P W (fun e m => (f e m).bind fun x m => (g e m).bind fun y m => .of ((kk x y).map .bl) m) σ H Q) :
    tOp (rCmp X.K fa kk) (RE X fa ca P W f) (RE X fa ca P W g) σ H Q := by
  obtain ⟨p, ρ, Z, e, m, Sm, h⟩ := h
  refine ⟨p, ρ, Z, e, m, Sm, (PR.bind Sm.mok.hot h).mono fun x H1 ⟨ρ1, Z1, d1, m1, _, s1, I1, r1, h1⟩ => ?_⟩
  refine ⟨p, ρ1, Z1, e, m1, Sm.step s1 I1, (PR.bind I1.hot h1).mono fun y H2 ⟨ρ2, Z2, d2, m2, _, s2, I2, r2, h2⟩ => ?_⟩
  obtain ⟨d, hd, h3⟩ := PR_of h2
  obtain ⟨b, hb, rfl⟩ := Option.map_eq_some_iff.mp hd
  exact ⟨ρ2, Z2, m2, d1, d2, b, I2, RelD.mono s2 I1.hot _ _ r1, r2, hb, h3.out I2 rfl⟩
theorem tTest_cmp {f g : Env' → M → Res D} {kk : D → D → Option Bool} {σ : L2.St} {H : Hp} {Q : Bool → Hp → Prop} (h : RT X fa ca P W (fun e m => (f e m).bind fun x m => (g e m).bind fun y m => .of (kk x y) m) σ H Q) :
    tTest (tOp (rCmp X.K fa kk) (RE X fa ca P W f) (RE X fa ca P W g)) σ H Q := by
  obtain ⟨p, ρ, Z, e, m, Sm, h⟩ := h
  refine ⟨p, ρ, Z, e, m, Sm, (PR.bind (rel := rD X.K fa) Sm.mok.hot h).mono fun x H1 ⟨ρ1, Z1, d1, m1, _, s1, I1, r1, h1⟩ => ?_⟩
  refine ⟨p, ρ1, Z1, e, m1, Sm.step s1 I1, (PR.bind (rel := rD X.K fa) I1.hot h1).mono fun y H2 ⟨ρ2, Z2, d2, m2, _, s2, I2, r2, h2⟩ => ?_⟩
  obtain ⟨b, hb, h3⟩ := PR_of h2
  exact ⟨ρ2, Z2, m2, d1, d2, b, I2, RelD.mono s2 I1.hot _ _ r1, r2, hb, b, rfl, h3.out I2 rfl⟩
/-- behind an expression: the rest goes on from its value, at the same place -/
theorem RE_then {f : Env' → M → Res D} {g : D → M → Res D} {σ : L2.St} {H : Hp} {Q : VK} (h : RE X fa ca P W (fun e m => (f e m).bind g) σ H Q) (Q' : VK)
    (hk : ∀ ρ Z e m d v H1, Sim X.K fa ρ Z H1 σ e m → RelD X.K fa ρ Z H1 d v → PR X.K fa ca W σ (rD X.K fa) ρ Z H1 (g d m) Q → Q' v H1) : RE X fa ca P W f σ H Q' := by
  obtain ⟨p, ρ, Z, e, m, Sm, h⟩ := h
  exact ⟨p, ρ, Z, e, m, Sm, (PR.bind Sm.mok.hot h).mono fun x H1 ⟨ρ1, Z1, d1, m1, _, s1, I1, r1, h1⟩ => hk ρ1 Z1 e m1 d1 x H1 (Sm.step s1 I1) r1 h1⟩
theorem s_neg {a : Expr} {pos : Pos} {f : Env' → M → Res D} (ha : PE X a (RE X fa ca P W f)) : PE X (.UnaryOp .USub a pos) (RE X fa ca P W fun e m => (f e m).bind fun x m => match x with
    | .int i => .ok (.int (-i)) m
    | _ => .bad) := by
  refine (pe_un un_neg ha).imp fun σ H Q h => RE_then h _ fun ρ Z e m d v H1 Sm r q => ?_
  split at q
  · cases (show v = _ from r)
    exact ⟨_, rfl, q.out Sm.mok rfl⟩
  · exact q.elim
theorem s_not {a : Expr} {pos : Pos} {f : Env' → M → Res D} (ha : PE X a (RE X fa ca P W f)) : PE X (.UnaryOp .Not a pos) (RE X fa ca P W fun e m => (f e m).bind fun x m => match x with
    | .bl b => .ok (.bl (!b)) m
    | _ => .bad) := by
  refine (pe_not ha).imp fun σ H Q h => RE_then h _ fun ρ Z e m d v H1 Sm r q => ?_
  split at q
  · cases (show v = _ from r)
    exact ⟨_, rfl, q.out Sm.mok rfl⟩
  · exact q.elim
/-! ### and, or, if -/
theorem s_ife {t a b : Expr} {pos : Pos} {ft : Env' → M → Res Bool} {f g : Env' → M → Res D} (ht : PT X t (RT X fa ca P W ft)) (ha : PE X a (RE X fa ca P W f)) (hb : PE X b (RE X fa ca P W g)) :
    PE X (.IfExp t a b pos) (RE X fa ca P W fun e m => (ft e m).bind fun k m => if k then f e m else g e m) := by
  refine (pe_ifExp ht ha hb).imp fun σ H Q h => ?_
  obtain ⟨p, ρ, Z, e, m, Sm, h⟩ := h
  refine ⟨p, ρ, Z, e, m, Sm, (PR.bind Sm.mok.hot h).mono fun x H1 ⟨ρ1, Z1, d1, m1, _, s1, I1, r1, h1⟩ => ?_⟩
  have e1 : d1 = x := r1
  subst e1
  cases d1
  · exact iteF ⟨p, ρ1, Z1, e, m1, Sm.step s1 I1, h1⟩
  · exact iteT ⟨p, ρ1, Z1, e, m1, Sm.step s1 I1, h1⟩
theorem s_and1 {a : Expr} {pos : Pos} {op : BoolOp} {f : Env' → M → Res D} (ha : PE X a (RE X fa ca P W f)) : PE X (.BoolOp op [a] pos) (RE X fa ca P W f) := pe_one ha
theorem s_and {a b : Expr} {es : List Expr} {pos : Pos} {f g : Env' → M → Res D} (ha : PE X a (RE X fa ca P W f)) (hb : PE X (.BoolOp .And (b :: es) pos) (RE X fa ca P W g)) :
    PE X (.BoolOp .And (a :: b :: es) pos) (RE X fa ca P W fun e m => (f e m).bind fun x m => match x with
      | .bl true => g e m
      | .bl false => .ok (.bl false) m
      | _ => .bad) := by
  refine (pe_and ha hb).imp fun σ H Q h => ?_
  obtain ⟨p, ρ, Z, e, m, Sm, h⟩ := h
  refine ⟨p, ρ, Z, e, m, Sm, (PR.bind Sm.mok.hot h).mono fun x H1 ⟨ρ1, Z1, d1, m1, _, s1, I1, r1, h1⟩ => ?_⟩
  split at h1
  · cases (show x = _ from r1)
    exact ⟨true, rfl, iteT ⟨p, ρ1, Z1, e, m1, Sm.step s1 I1, h1⟩⟩
  · cases (show x = _ from r1)
    exact ⟨false, rfl, iteF (h1.out I1 rfl)⟩
  · exact h1.elim
theorem s_or {a b : Expr} {es : List Expr} {pos : Pos} {f g : Env' → M → Res D} (ha : PE X a (RE X fa ca P W f)) (hb : PE X (.BoolOp .Or (b :: es) pos) (RE X fa ca P W g)) :
    PE X (.BoolOp .Or (a :: b :: es) pos) (RE X fa ca P W fun e m => (f e m).bind fun x m => match x with
      | .bl true => .ok (.bl true) m
      | .bl false => g e m
      | _ => .bad) := by
  refine (pe_or ha hb).imp fun σ H Q h => ?_
  obtain ⟨p, ρ, Z, e, m, Sm, h⟩ := h
  refine ⟨p, ρ, Z, e, m, Sm, (PR.bind Sm.mok.hot h).mono fun x H1 ⟨ρ1, Z1, d1, m1, _, s1, I1, r1, h1⟩ => ?_⟩
  split at h1
  · cases (show x = _ from r1)
    exact ⟨true, rfl, iteT (h1.out I1 rfl)⟩
  · cases (show x = _ from r1)
    exact ⟨false, rfl, iteF ⟨p, ρ1, Z1, e, m1, Sm.step s1 I1, h1⟩⟩
  · exact h1.elim
theorem s_orT {a b : Expr} {pos : Pos} {f g : Env' → M → Res D} (ha : PE X a (RE X fa ca P W f)) (hb : PE X b (RE X fa ca P W g)) :
    PE X (.BoolOp .Or [a, b] pos) (RE X fa ca P W fun e m => (f e m).bind fun x m => match evTru m x with
      | some true => .ok x m
      | some false => g e m
      | none => .bad) := by
  refine (pe_orT ha (pe_one hb)).imp fun σ H Q h => ?_
  obtain ⟨p, ρ, Z, e, m, Sm, h⟩ := h
  refine ⟨p, ρ, Z, e, m, Sm, (PR.bind Sm.mok.hot h).mono fun x H1 ⟨ρ1, Z1, d1, m1, _, s1, I1, r1, h1⟩ => ?_⟩
  split at h1
  · rename_i q
    exact ⟨true, tru_v I1 r1 q, iteT (h1.out I1 r1)⟩
  · rename_i q
    exact ⟨false, tru_v I1 r1 q, iteF ⟨p, ρ1, Z1, e, m1, Sm.step s1 I1, h1⟩⟩
  · exact h1.elim
/-! ### tests -/
theorem s_val {a : Expr} {f : Env' → M → Res D} (hp : plainT a = true) (ha : PE X a (RE X fa ca P W f)) : PT X a (RT X fa ca P W fun e m => (f e m).bind fun x m => match x with
    | .bl b => .ok b m
    | _ => .bad) := by
  refine (pt_val ha (isTrue_plain' hp)).imp fun σ H Q h => ?_
  obtain ⟨p, ρ, Z, e, m, Sm, h⟩ := h
  refine ⟨p, ρ, Z, e, m, Sm, (PR.bind (rel := rD X.K fa) Sm.mok.hot h).mono fun x H1 ⟨ρ1, Z1, d1, m1, _, s1, I1, r1, h1⟩ => ?_⟩
  split at h1
  · cases (show x = _ from r1)
    exact ⟨_, rfl, h1.out I1 rfl⟩
  · exact h1.elim
theorem s_tru {a : Expr} {f : Env' → M → Res D} (hp : plainT a = true) (ha : PE X a (RE X fa ca P W f)) : PT X a (RT X fa ca P W fun e m => (f e m).bind fun x m => .of (evTru m x) m) := by
  refine (pt_truth ha (isTrue_plain' hp)).imp fun σ H Q h => ?_
  obtain ⟨p, ρ, Z, e, m, Sm, h⟩ := h
  refine ⟨p, ρ, Z, e, m, Sm, (PR.bind (rel := rD X.K fa) Sm.mok.hot h).mono fun x H1 ⟨ρ1, Z1, d1, m1, _, s1, I1, r1, h1⟩ => ?_⟩
  obtain ⟨b, hb, h2⟩ := PR_of h1
  exact ⟨b, tru_v I1 r1 hb, h2.out I1 rfl⟩
theorem s_tnot {a : Expr} {pos : Pos} {f : Env' → M → Res Bool} (ha : PT X a (RT X fa ca P W f)) : PT X (.UnaryOp .Not a pos) (RT X fa ca P W fun e m => (f e m).bind fun k m => .ok (!k) m) := by
  refine (pt_not ha).imp fun σ H Q h => ?_
  obtain ⟨p, ρ, Z, e, m, Sm, h⟩ := h
  refine ⟨p, ρ, Z, e, m, Sm, (PR.bind (rel := rEq Bool) Sm.mok.hot h).mono fun x H1 ⟨ρ1, Z1, d1, m1, _, s1, I1, r1, h1⟩ => ?_⟩
  have e1 : d1 = x := r1
  subst e1
  exact h1.out I1 rfl
theorem s_tand1 {a : Expr} {pos : Pos} {f : Env' → M → Res Bool} (ha : PT X a (RT X fa ca P W f)) : PW X (.BoolOp .And [a] pos) (RT X fa ca P W f) := pw_and1 ha
theorem s_tor1 {a : Expr} {pos : Pos} {f : Env' → M → Res Bool} (ha : PT X a (RT X fa ca P W f)) : PW X (.BoolOp .Or [a] pos) (RT X fa ca P W f) := pw_or1 ha
theorem s_tand {a b : Expr} {es : List Expr} {pos : Pos} {f g : Env' → M → Res Bool} (ha : PT X a (RT X fa ca P W f)) (hb : PW X (.BoolOp .And (b :: es) pos) (RT X fa ca P W g)) :
    PW X (.BoolOp .And (a :: b :: es) pos) (RT X fa ca P W fun e m => (f e m).bind fun k m => if k then g e m else .ok false m) := by
  refine (pw_and ha hb).imp fun σ H Q h => ?_
  obtain ⟨p, ρ, Z, e, m, Sm, h⟩ := h
  refine ⟨p, ρ, Z, e, m, Sm, (PR.bind (rel := rEq Bool) Sm.mok.hot h).mono fun x H1 ⟨ρ1, Z1, d1, m1, _, s1, I1, r1, h1⟩ => ?_⟩
  have e1 : d1 = x := r1
  subst e1
  cases d1
  · exact iteF (PR.out h1 I1 rfl)
  · exact iteT ⟨p, ρ1, Z1, e, m1, Sm.step s1 I1, h1⟩
theorem s_tor {a b : Expr} {es : List Expr} {pos : Pos} {f g : Env' → M → Res Bool} (ha : PT X a (RT X fa ca P W f)) (hb : PW X (.BoolOp .Or (b :: es) pos) (RT X fa ca P W g)) :
    PW X (.BoolOp .Or (a :: b :: es) pos) (RT X fa ca P W fun e m => (f e m).bind fun k m => if k then .ok true m else g e m) := by
  refine (pw_or ha hb).imp fun σ H Q h => ?_
  obtain ⟨p, ρ, Z, e, m, Sm, h⟩ := h
  refine ⟨p, ρ, Z, e, m, Sm, (PR.bind (rel := rEq Bool) Sm.mok.hot h).mono fun x H1 ⟨ρ1, Z1, d1, m1, _, s1, I1, r1, h1⟩ => ?_⟩
  have e1 : d1 = x := r1
  subst e1
  cases d1
  · exact iteF ⟨p, ρ1, Z1, e, m1, Sm.step s1 I1, h1⟩
  · exact iteT (PR.out h1 I1 rfl)
/-! ### chains -/
theorem last_marks {o p : CmpOp} {a b : Expr} (h : p ≠ .In) (h2 : p ≠ .NotIn) : lastMarks [o, p] [a, b] = false := nobehind b h h2
theorem tChain_of {f g q : Env' → M → Res D} {k1 k2 : D → D → Option Bool} {σ : L2.St} {H : Hp} {Q : VK} (h : RE X fa ca P W (fun e m => (f e m).bind fun x m => (g e m).bind fun y m => match k1 x y with
      | some true => (q e m).bind fun z m => .of ((k2 y z).map .bl) m
      | some false => .ok (.bl false) m
      | none => .bad) σ H Q) :
    tChain (rCmp X.K fa k1) (rCmp X.K fa k2) (RE X fa ca P W f) (RE X fa ca P W g) (RE X fa ca P W q) σ H Q := by
  obtain ⟨p, ρ, Z, e, m, Sm, h⟩ := h
  refine ⟨p, ρ, Z, e, m, Sm, (PR.bind Sm.mok.hot h).mono fun x H1 ⟨ρ1, Z1, d1, m1, _, s1, I1, r1, h1⟩ => ?_⟩
  refine ⟨p, ρ1, Z1, e, m1, Sm.step s1 I1, (PR.bind I1.hot h1).mono fun y H2 ⟨ρ2, Z2, d2, m2, _, s2, I2, r2, h2⟩ => ?_⟩
  split at h2
  · rename_i hb
    refine ⟨ρ2, Z2, m2, d1, d2, true, I2, RelD.mono s2 I1.hot _ _ r1, r2, hb, true, rfl, iteT ?_⟩
    refine ⟨p, ρ2, Z2, e, m2, (Sm.step s1 I1).step s2 I2, (PR.bind I2.hot h2).mono fun z H3 ⟨ρ3, Z3, d3, m3, _, s3, I3, r3, h3⟩ => ?_⟩
    obtain ⟨d, hd, h4⟩ := PR_of h3
    obtain ⟨b, hb, rfl⟩ := Option.map_eq_some_iff.mp hd
    exact ⟨ρ3, Z3, m3, d2, d3, b, I3, RelD.mono s3 I2.hot _ _ r2, r3, hb, h4.out I3 rfl⟩
  · rename_i hb
    exact ⟨ρ2, Z2, m2, d1, d2, false, I2, RelD.mono s2 I1.hot _ _ r1, r2, hb, false, rfl, iteF (h2.out I2 rfl)⟩
  · exact h2.elim
theorem tChainT_of {f g q : Env' → M → Res D} {k1 k2 : D → D → Option Bool} {σ : L2.St} {H : Hp} {Q : Bool → Hp → Prop} (h : RT X fa ca P W (fun e m => (f e m).bind fun x m => (g e m).bind fun y m => match k1 x y with
      | some true => (q e m).bind fun z m => .of (k2 y z) m
      | some false => .ok false m
      | none => .bad) σ H Q) :
    tTest (tChain (rCmp X.K fa k1) (rCmp X.K fa k2) (RE X fa ca P W f) (RE X fa ca P W g) (RE X fa ca P W q)) σ H Q := by
  obtain ⟨p, ρ, Z, e, m, Sm, h⟩ := h
  refine ⟨p, ρ, Z, e, m, Sm, (PR.bind (rel := rD X.K fa) Sm.mok.hot h).mono fun x H1 ⟨ρ1, Z1, d1, m1, _, s1, I1, r1, h1⟩ => ?_⟩
  refine ⟨p, ρ1, Z1, e, m1, Sm.step s1 I1, (PR.bind (rel := rD X.K fa) I1.hot h1).mono fun y H2 ⟨ρ2, Z2, d2, m2, _, s2, I2, r2, h2⟩ => ?_⟩
  split at h2
  · rename_i hb
    refine ⟨ρ2, Z2, m2, d1, d2, true, I2, RelD.mono s2 I1.hot _ _ r1, r2, hb, true, rfl, iteT ?_⟩
    refine ⟨p, ρ2, Z2, e, m2, (Sm.step s1 I1).step s2 I2, (PR.bind (rel := rD X.K fa) I2.hot h2).mono fun z H3 ⟨ρ3, Z3, d3, m3, _, s3, I3, r3, h3⟩ => ?_⟩
    obtain ⟨b, hb, h4⟩ := PR_of h3
    exact ⟨ρ3, Z3, m3, d2, d3, b, I3, RelD.mono s3 I2.hot _ _ r2, r3, hb, b, rfl, h4.out I3 rfl⟩
  · rename_i hb
    exact ⟨ρ2, Z2, m2, d1, d2, false, I2, RelD.mono s2 I1.hot _ _ r1, r2, hb, false, rfl, iteF ⟨_, rfl, h2.out I2 rfl⟩⟩
  · exact h2.elim
/-! ### lists of values -/
theorem s_nil : PA X [] (RA X fa ca P W fun _ m => .ok [] m) := pa_nil.imp fun σ H Q ⟨_, ρ, Z, e, m, Sm, q⟩ => q.out Sm.mok rfl
theorem RA_cons {f : Env' → M → Res D} {g : Env' → M → Res (List D)} {σ : L2.St} {H : Hp} {Q : List V → Hp → Prop} (h : RA X fa ca P W (fun e m => (f e m).bind fun d m => (g e m).bind fun ds m => .ok (d :: ds) m) σ H Q) :
    tCons (RE X fa ca P W f) (RA X fa ca P W g) σ H Q := by
  obtain ⟨p, ρ, Z, e, m, Sm, h⟩ := h
  refine ⟨p, ρ, Z, e, m, Sm, (PR.bind (rel := rD X.K fa) Sm.mok.hot h).mono fun x H1 ⟨ρ1, Z1, d1, m1, _, s1, I1, r1, h1⟩ => ?_⟩
  refine ⟨p, ρ1, Z1, e, m1, Sm.step s1 I1, (PR.bind (rel := rDs X.K fa) I1.hot h1).mono fun y H2 ⟨ρ2, Z2, d2, m2, _, s2, I2, r2, h2⟩ => ?_⟩
  exact h2.out I2 ⟨x, y, rfl, RelD.mono s2 I1.hot _ _ r1, r2⟩
theorem s_cons {a : Expr} {es : List Expr} {f : Env' → M → Res D} {g : Env' → M → Res (List D)} (hn : nst a = true) (ha : PE X a (RE X fa ca P W f)) (hs : PA X es (RA X fa ca P W g)) :
    PA X (a :: es) (RA X fa ca P W fun e m => (f e m).bind fun d m => (g e m).bind fun ds m => .ok (d :: ds) m) :=
  (pa_cons ha hs (starEach_ns hn)).imp fun σ H Q h => RA_cons h
theorem s_tup {es : List Expr} {kk : Nat} {pos : Pos} {f : Env' → M → Res (List D)} (h : PA X es (RA X fa ca P W f)) : PE X (.Tuple es kk pos) (RE X fa ca P W fun e m => (f e m).bind fun ds m => if lineOk ds.length then .ok (.tup ds) m else .bad) := by
  refine (pe_tup h).imp fun σ H Q h => ?_
  obtain ⟨p, ρ, Z, e, m, Sm, h⟩ := h
  refine ⟨p, ρ, Z, e, m, Sm, (PR.bind (rel := rDs X.K fa) Sm.mok.hot h).mono fun x H1 ⟨ρ1, Z1, d1, m1, _, s1, I1, r1, h1⟩ => ?_⟩
  split at h1
  · rename_i hl
    refine ⟨by rw [← r1.length]; exact line_le hl, fun t ht => ?_⟩
    exact h1 ρ1 Z1 _ _ (Step.laid ht) (I1.laid ht) ⟨t, x, rfl, SqT.of upd_same, RelDs.mono (Step.laid ht) I1.hot _ _ r1⟩
  · exact h1.elim
/-! ### fresh lists -/
abbrev RF (X : Cx) (fa ca : Nat → Addr) (P : L2.St → Prop) (W : WX) (f : Env' → M → Res (List D)) : TE := tF X.K fa ca P W f
theorem lv_read {f : Env' → M → Res (List D)} {σ : L2.St} {H : Hp} {Q : VK} (h : RE X fa ca P W (fun e m => (f e m).bind fun ds m => .ok (.lst ds) m) σ H Q) : RF X fa ca P W f σ H Q := by
  obtain ⟨p, ρ, Z, e, m, Sm, h⟩ := h
  refine ⟨p, ρ, Z, e, m, Sm, ?_⟩
  dsimp only at h
  cases q : f e m with
  | ok ds m1 =>
    rw [q] at h
    intro ρ' Z' H' t F
    obtain ⟨s, I, r⟩ := F.value Sm.mok.hot
    exact h ρ' _ H' _ s I r
  | err c m1 => rw [q] at h; exact h
  | bad => rw [q] at h; exact h
theorem lm_read {f : Env' → M → Res (List D)} {σ : L2.St} {H : Hp} {Q : VK} (h : RE X fa ca P W (fun e m => (f e m).bind fun ds m => .ok (.ref m.length) (m ++ [.lst ds])) σ H Q) : RF X fa ca P W f σ H Q := by
  obtain ⟨p, ρ, Z, e, m, Sm, h⟩ := h
  refine ⟨p, ρ, Z, e, m, Sm, ?_⟩
  dsimp only at h
  cases q : f e m with
  | ok ds m1 =>
    rw [q] at h
    intro ρ' Z' H' t F
    obtain ⟨s, I, r⟩ := F.mut Sm.mok.hot
    exact h _ Z' H' _ s I r
  | err c m1 => rw [q] at h; exact h
  | bad => rw [q] at h; exact h
theorem s_lv {a : Expr} {f : Env' → M → Res (List D)} (h : PE X a (RF X fa ca P W f)) : PE X a (RE X fa ca P W fun e m => (f e m).bind fun ds m => .ok (.lst ds) m) := h.imp fun σ H Q h => lv_read h
theorem s_lm {a : Expr} {f : Env' → M → Res (List D)} (h : PE X a (RF X fa ca P W f)) : PE X a (RE X fa ca P W fun e m => (f e m).bind fun ds m => .ok (.ref m.length) (m ++ [.lst ds])) := h.imp fun σ H Q h => lm_read h
/-- from «the items, then a new list of them» -/
theorem PF_of {α : Type} {β : Type} {rel : Rl α β} {r : Res α} {kk : α → M → Res (List D)} {σ : L2.St} {ρ : List Addr} {Z : Addr → Prop} {H : Hp} {Q : VK} (hot : Hot Z H)
    (h : PF X.K fa ca W σ ρ Z H (r.bind kk) (fun ρ' Z' H' m ds p => Fresh X.K fa ρ Z H ρ' Z' H' m ds p) Q) :
    PR X.K fa ca W σ rel ρ Z H r fun b H1 => ∃ ρ1 Z1 a m1, Step ρ Z H ρ1 Z1 H1 ∧ MOk X.K fa ρ1 Z1 H1 m1 ∧ rel ρ1 Z1 H1 a b ∧ PF X.K fa ca W σ ρ1 Z1 H1 (kk a m1) (fun ρ' Z' H' m ds p => Fresh X.K fa ρ1 Z1 H1 ρ' Z' H' m ds p) Q := by
  cases r with
  | ok a m =>
    intro ρ1 Z1 H1 b s I rb
    refine ⟨ρ1, Z1, a, m, s, I, rb, ?_⟩
    have h' : PF X.K fa ca W σ ρ Z H (kk a m) (fun ρ' Z' H' m ds p => Fresh X.K fa ρ Z H ρ' Z' H' m ds p) Q := h
    cases q : kk a m with
    | ok ds m2 =>
      rw [q] at h'
      intro ρ' Z' H' p F
      refine h' ρ' Z' H' p ⟨s.trans hot F.step, F.mok, F.hot, F.np, ?_, F.is_⟩
      have np1 : p ∉ ρ1 := fun z => F.np (F.step.old z)
      cases z : H p with
      | none => rfl
      | some o =>
        have e := F.new
        rw [s.keep p o z (.inl fun y => np1 (s.old y))] at e
        cases e
    | err c m2 =>
      rw [q] at h'
      exact fun ρ' Z' H' t I => h' ρ' Z' H' (s.trans hot t) I
    | bad => rw [q] at h'; exact h'
  | err c m => exact h
  | bad => exact h
/-- a list just laid -/
theorem PF_laid {σ : L2.St} {ρ : List Addr} {Z : Addr → Prop} {H : Hp} {m : M} {ds : List D} {vs : List V} {Q : VK} (I : MOk X.K fa ρ Z H m) (r : RelDs X.K fa ρ Z H ds vs)
    (h : PF X.K fa ca W σ ρ Z H (.ok ds m) (fun ρ' Z' H' m ds p => Fresh X.K fa ρ Z H ρ' Z' H' m ds p) Q) : ∀ t, H t = none → Q (.ref t) (upd H t (.lst vs)) := fun t ht =>
  h ρ _ _ t (Fresh.of_laid I.hot Step.refl I r ht)
theorem s_disp {es : List Expr} {pos : Pos} {f : Env' → M → Res (List D)} (h : PA X es (RA X fa ca P W f)) : PE X (.List es pos) (RF X fa ca P W fun e m => (f e m).bind fun ds m => if lineOk ds.length then .ok ds m else .bad) := by
  refine (pe_lst h).imp fun σ H Q h => ?_
  obtain ⟨p, ρ, Z, e, m, Sm, h⟩ := h
  refine ⟨p, ρ, Z, e, m, Sm, (PF_of (rel := rDs X.K fa) Sm.mok.hot h).mono fun x H1 ⟨ρ1, Z1, d1, m1, s1, I1, r1, h1⟩ => ?_⟩
  split at h1
  · rename_i hl
    exact ⟨by rw [← r1.length]; exact line_le hl, PF_laid I1 r1 h1⟩
  · exact h1.elim
theorem s_cat {a b : Expr} {pos : Pos} {f g : Env' → M → Res D} (ha : PE X a (RE X fa ca P W f)) (hb : PE X b (RE X fa ca P W g)) :
    PE X (.BinOp a .Add b pos) (RF X fa ca P W fun e m => (f e m).bind fun x m => (g e m).bind fun y m => .of (evCatL m x y) m) := by
  refine (pe_op op_cat ha hb).imp fun σ H Q h => ?_
  obtain ⟨p, ρ, Z, e, m, Sm, h⟩ := h
  refine ⟨p, ρ, Z, e, m, Sm, (PF_of (rel := rD X.K fa) Sm.mok.hot h).mono fun x H1 ⟨ρ1, Z1, d1, m1, s1, I1, r1, h1⟩ => ?_⟩
  refine ⟨p, ρ1, Z1, e, m1, Sm.step s1 I1, (PF_of (rel := rD X.K fa) I1.hot h1).mono fun y H2 ⟨ρ2, Z2, d2, m2, s2, I2, r2, h2⟩ => ?_⟩
  cases hz : evCatL m2 d1 d2 with
  | none => rw [hz] at h2; exact h2.elim
  | some zs =>
    rw [hz] at h2
    obtain ⟨xs, ys, h3, h4, hl, rfl⟩ := catL_shape hz
    obtain ⟨p1, vs, rfl, hp, q⟩ := lst_seq I2 (RelD.mono s2 I1.hot _ _ r1) h3
    obtain ⟨p2, ws, rfl, hp2, q2⟩ := lst_seq I2 r2 h4
    have l1 := q.length
    have l2 := q2.length
    have := line_le hl
    exact ⟨p1, p2, vs, ws, rfl, rfl, hp, hp2, by omega, PF_laid I2 (q.append q2) h2⟩
theorem s_rep {a b : Expr} {pos : Pos} {f g : Env' → M → Res D} (ha : PE X a (RE X fa ca P W f)) (hb : PE X b (RE X fa ca P W g)) :
    PE X (.BinOp a .Mult b pos) (RF X fa ca P W fun e m => (f e m).bind fun x m => (g e m).bind fun y m => .of (evRepL m x y) m) := by
  refine (pe_op op_rep ha hb).imp fun σ H Q h => ?_
  obtain ⟨p, ρ, Z, e, m, Sm, h⟩ := h
  refine ⟨p, ρ, Z, e, m, Sm, (PF_of (rel := rD X.K fa) Sm.mok.hot h).mono fun x H1 ⟨ρ1, Z1, d1, m1, s1, I1, r1, h1⟩ => ?_⟩
  refine ⟨p, ρ1, Z1, e, m1, Sm.step s1 I1, (PF_of (rel := rD X.K fa) I1.hot h1).mono fun y H2 ⟨ρ2, Z2, d2, m2, s2, I2, r2, h2⟩ => ?_⟩
  cases hz : evRepL m2 d1 d2 with
  | none => rw [hz] at h2; exact h2.elim
  | some zs =>
    rw [hz] at h2
    obtain ⟨xs, i, h1, rfl, h3, hl, h5, rfl⟩ := repL_shape hz
    obtain ⟨p1, vs, rfl, hp, q⟩ := lst_seq I2 (RelD.mono s2 I1.hot _ _ r1) h1
    cases (show y = _ from r2)
    have := line_le hl
    exact ⟨p1, i, vs, rfl, rfl, hp, h5, by omega, by rw [← q.length]; exact this, PF_laid I2 (RelDs.rep _ q) h2⟩
theorem s_list {a : Expr} {n : Str} {p pos : Pos} {f : Env' → M → Res D} (G : Good T fa ca cf k S P X) (hn : n = ("list" : Str)) (hb : bltB T S n = true) (hs : nst a = true) (ha : PE X a (RE X fa ca P W f)) :
    PE X (.Call (.Name n p) [a] [] pos) (RF X fa ca P W fun e m => (f e m).bind fun x m => .of (itemsOf m x) m) := by
  subst hn
  obtain ⟨hg, hm⟩ := blt_of G hb
  refine (pe_callTy call_list_of hg hm PyProof.Rows.boot_list (pa_cons ha pa_nil (starEach_ns hs)) (by decide) (by decide) (starEach_ns hs) rfl).imp fun σ H Q h => ?_
  obtain ⟨p, ρ, Z, e, m, Sm, h⟩ := h
  refine ⟨p, ρ, Z, e, m, Sm, (PF_of (rel := rD X.K fa) Sm.mok.hot h).mono fun x H1 ⟨ρ1, Z1, d1, m1, s1, I1, r1, h1⟩ => ?_⟩
  cases hz : itemsOf m1 d1 with
  | none => rw [hz] at h1; exact h1.elim
  | some zs =>
    rw [hz] at h1
    obtain ⟨p1, vs, rfl, hp, q⟩ := items_seq I1 r1 hz
    exact ⟨p1, vs, rfl, hp, PF_laid I1 q h1⟩
end
end Dx
/-! Dx, part 10: subscripts, calls, isinstance, walks, comprehensions. -/
namespace Dx
open PySem PySem.Spec PyProof.Rows L2
section
variable {T : Tab} {fa ca : Nat → Addr} {cf : Cfg} {k : Nat} {S : SC} {P : L2.St → Prop} {X : Cx} {W : WX}
abbrev RO (X : Cx) (fa ca : Nat → Addr) (P : L2.St → Prop) (W : WX) (f : Env' → M → Res (Option Int)) : L2.TO := tR X.K fa ca P W (rEq (Option Int)) f
theorem s_idx {a b : Expr} {pos : Pos} {f g : Env' → M → Res D} (hs : notSlice b = true) (ha : PE X a (RE X fa ca P W f)) (hb : PE X b (RE X fa ca P W g)) :
    PE X (.Subscript a b pos) (RE X fa ca P W fun e m => (f e m).bind fun x m => (g e m).bind fun y m => .of (evIdx m x y) m) :=
  (pe_ix ixD_rule ha hb (notSlice_ix hs)).imp fun σ H Q h => tOp_bin (kk := fun m => evIdx m) h
theorem s_onone : PO X none (RO X fa ca P W fun _ m => .ok none m) := by
  refine ⟨fun pins s σ H Q I h => po_none.run pins s σ H Q I ?_⟩
  obtain ⟨_, ρ, Z, e, m, Sm, q⟩ := h
  exact q.out Sm.mok rfl
theorem s_osome {a : Expr} {f : Env' → M → Res D} (ha : PE X a (RE X fa ca P W f)) : PO X (some a) (RO X fa ca P W fun e m => (f e m).bind fun d m => match d with
    | .int i => .ok (some i) m
    | _ => .bad) := by
  refine ⟨fun pins s σ H Q I h => (po_some ha).run pins s σ H Q I ?_⟩
  obtain ⟨p, ρ, Z, e, m, Sm, h⟩ := h
  refine ⟨p, ρ, Z, e, m, Sm, (PR.bind (rel := rD X.K fa) Sm.mok.hot h).mono fun x H1 ⟨ρ1, Z1, d1, m1, _, s1, I1, r1, h1⟩ => ?_⟩
  split at h1
  · cases (show x = _ from r1)
    exact ⟨_, rfl, h1.out I1 rfl⟩
  · exact h1.elim
theorem s_slc {a : Expr} {lo hi : Option Expr} {p2 pos : Pos} {f : Env' → M → Res D} {g q : Env' → M → Res (Option Int)} (ha : PE X a (RE X fa ca P W f)) (hl : PO X lo (RO X fa ca P W g)) (hh : PO X hi (RO X fa ca P W q)) :
    PE X (.Subscript a (.Slice lo hi none p2) pos) (RE X fa ca P W fun e m => (f e m).bind fun x m => (g e m).bind fun l m => (q e m).bind fun h m => .of (evSlc m x l h) m) := by
  refine (pe_slice (slcR (fa := fa)) ha hl hh).imp fun σ H Q h => ?_
  obtain ⟨p, ρ, Z, e, m, Sm, h⟩ := h
  refine ⟨p, ρ, Z, e, m, Sm, (PR.bind (rel := rD X.K fa) Sm.mok.hot h).mono fun x H1 ⟨ρ1, Z1, d1, m1, _, s1, I1, r1, h1⟩ => ?_⟩
  refine ⟨p, ρ1, Z1, e, m1, Sm.step s1 I1, (PR.bind (rel := rEq (Option Int)) I1.hot h1).mono fun y H2 ⟨ρ2, Z2, d2, m2, _, s2, I2, r2, h2⟩ => ?_⟩
  refine ⟨p, ρ2, Z2, e, m2, (Sm.step s1 I1).step s2 I2, (PR.bind (rel := rEq (Option Int)) I2.hot h2).mono fun z H3 ⟨ρ3, Z3, d3, m3, _, s3, I3, r3, h3⟩ => ?_⟩
  obtain ⟨d, hd, h4⟩ := PR_of h3
  have e2 : d2 = y := r2
  have e3 : d3 = z := r3
  subst e2 e3
  exact ⟨ρ3, Z3, m3, d1, d, I3, RelD.mono s3 I2.hot _ _ (RelD.mono s2 I1.hot _ _ r1), hd, h4⟩
theorem s_slcL {a : Expr} {lo hi : Option Expr} {p2 pos : Pos} {f : Env' → M → Res D} {g q : Env' → M → Res (Option Int)} (ha : PE X a (RE X fa ca P W f)) (hl : PO X lo (RO X fa ca P W g)) (hh : PO X hi (RO X fa ca P W q)) :
    PE X (.Subscript a (.Slice lo hi none p2) pos) (RF X fa ca P W fun e m => (f e m).bind fun x m => (g e m).bind fun l m => (q e m).bind fun h m => .of ((lstOfS m x).map fun xs => cutD xs l h) m) := by
  refine (pe_slice sl_list ha hl hh).imp fun σ H Q h => ?_
  obtain ⟨p, ρ, Z, e, m, Sm, h⟩ := h
  refine ⟨p, ρ, Z, e, m, Sm, (PF_of (rel := rD X.K fa) Sm.mok.hot h).mono fun x H1 ⟨ρ1, Z1, d1, m1, s1, I1, r1, h1⟩ => ?_⟩
  refine ⟨p, ρ1, Z1, e, m1, Sm.step s1 I1, (PF_of (rel := rEq (Option Int)) I1.hot h1).mono fun y H2 ⟨ρ2, Z2, d2, m2, s2, I2, r2, h2⟩ => ?_⟩
  refine ⟨p, ρ2, Z2, e, m2, (Sm.step s1 I1).step s2 I2, (PF_of (rel := rEq (Option Int)) I2.hot h2).mono fun z H3 ⟨ρ3, Z3, d3, m3, s3, I3, r3, h3⟩ => ?_⟩
  have e2 : d2 = y := r2
  have e3 : d3 = z := r3
  subst e2 e3
  cases hz : lstOfS m3 d1 with
  | none => rw [hz] at h3; exact h3.elim
  | some zs =>
    rw [hz] at h3
    obtain ⟨p1, vs, rfl, hp, qq⟩ := lstS_seq I3 (RelD.mono s3 I2.hot _ _ (RelD.mono s2 I1.hot _ _ r1)) hz
    exact ⟨p1, vs, rfl, hp, PF_laid I3 (cut_rel qq d2 d3) h3⟩
theorem s_frz {a : Expr} {f : Env' → M → Res D} (ha : PE X a (RE X fa ca P W f)) : PE X a (RE X fa ca P W fun e m => (f e m).bind fun x m => match x with
    | .ref r => (match m[r]? with
      | some (.lst xs) => if cf.base ≤ r then .ok (.lst xs) (m.set r .gone) else .bad
      | _ => .bad)
    | x => .ok x m) := by
  refine ha.imp fun σ H Q h => RE_then h _ fun ρ Z e m d v H1 Sm r q => ?_
  split at q
  · rename_i i
    split at q
    · rename_i xs hx
      split at q
      · obtain ⟨p, rfl, hp⟩ := r
        obtain ⟨p', vs, hp', zp, hv, t⟩ := Sm.mok.get hx
        rw [hp] at hp'
        cases hp'
        obtain ⟨I', s'⟩ := Sm.mok.freeze hp
        exact q ρ _ H1 _ s' I' ⟨p, vs, rfl, hv, fun z => z.2 rfl, RelDs.mono s' Sm.mok.hot _ _ t⟩
      · exact q.elim
    · exact q.elim
  · exact q.out Sm.mok r
/-! ### calls -/
/-- a call's promise from the evaluator's result. The number of values is what the def asks: else it gives nothing -/
theorem sp_of {fn : Nat} {n : Nat} {σ : L2.St} {ρ : List Addr} {Z : Addr → Prop} {H : Hp} {m : M} {ds : List D} {vs : List V} {Q : VK} (I : MOk X.K fa ρ Z H m) (r : RelDs X.K fa ρ Z H ds vs) (hl : ∀ ds m, ds.length ≠ n → cf.call fn ds m = .bad)
    (h : PR X.K fa ca W σ (rD X.K fa) ρ Z H (cf.call fn ds m) Q) : spD X.K fa ca (cf.call fn) n vs H Q (WE W σ) := by
  refine ⟨?_, ρ, Z, m, ds, I, r, ?_⟩
  · rw [← r.length]
    by_cases q : ds.length = n
    · exact q
    · rw [hl ds m q] at h; exact h.elim
  · cases q : cf.call fn ds m with
    | ok d m1 => rw [q] at h; exact h
    | err c m1 => rw [q] at h; exact h
    | bad => rw [q] at h; exact h
theorem s_call {n : Str} {fn : Nat} {y : Expr} {ys : List Expr} {p pos : Pos} {f : Env' → M → Res (List D)} (G : Good T fa ca cf k S P X) (tk : Takes X W) (hc : S.calm = true) (hn : T.fns[fn]? = some n) (hg : gloB S n = true) (hs : ∀ e ∈ y :: ys, nst e = true)
    (ha : PA X (y :: ys) (RA X fa ca P W f)) : PE X (.Call (.Name n p) (y :: ys) [] pos) (RE X fa ca P W fun e m => (f e m).bind fun ds m => cf.call fn ds m) := by
  obtain ⟨h1, h2, fd, ps, F, b, hl, _⟩ := G.f.fns fn n hn
  obtain ⟨g1, g2⟩ := glo_of G hg
  refine (pe_callS F (G.room hc) g1 h1 h2 b (fun σ => passAt tk σ) ha g2 (starEach_ns (hs y List.mem_cons_self)) (plain_any fun e he => hs e (List.mem_cons_of_mem _ he))).imp fun σ H Q h => ?_
  obtain ⟨p, ρ, Z, e, m, Sm, h⟩ := h
  exact ⟨p, ρ, Z, e, m, Sm, (PR.bind (rel := rDs X.K fa) Sm.mok.hot h).mono fun x H1 ⟨ρ1, Z1, d1, m1, _, s1, I1, r1, h1⟩ => sp_of I1 r1 hl h1⟩
theorem s_call0 {n : Str} {fn : Nat} {p pos : Pos} (G : Good T fa ca cf k S P X) (tk : Takes X W) (hc : S.calm = true) (hn : T.fns[fn]? = some n) (hg : gloB S n = true) : PE X (.Call (.Name n p) [] [] pos) (RE X fa ca P W fun e m => cf.call fn [] m) := by
  obtain ⟨h1, h2, fd, ps, F, b, hl, _⟩ := G.f.fns fn n hn
  obtain ⟨g1, g2⟩ := glo_of G hg
  refine ⟨fun pins s σ H Q I h => ?_⟩
  obtain ⟨p, ρ, Z, e, m, Sm, h⟩ := h
  refine wpAny_Call_Name_kw (ld_glob I g1 h1 ?_ g2)
  exact PySem.W.callWith_K0 I.kIn h2 (run_fnS (us := []) F (G.room hc) b (passAt tk σ) I .nil (sp_of Sm.mok (ds := []) rfl hl h))
theorem fzs_ok {K : PySem.W.Frag} {fa : Nat → Addr} {ρ : List Addr} {Z : Addr → Prop} {H : Hp} {m : M} (I : MOk K fa ρ Z H m) : ∀ {ds es : List D} {vs : List V}, RelDs K fa ρ Z H ds vs → fzs m ds = some es → RelDs K fa [] (fun _ => False) H es vs
  | [], es, vs, r, h => by cases (show some ([] : List D) = some es from h); exact r
  | d :: ds, es, vs, r, h => by
    obtain ⟨v, ws, rfl, r1, r2⟩ := r
    have h' : ((fz m 0 4 d).bind fun e => (fzs m ds).map fun es => e :: es) = some es := h
    obtain ⟨e, q1, q2⟩ := Option.bind_eq_some_iff.mp h'
    obtain ⟨es', q3, rfl⟩ := Option.map_eq_some_iff.mp q2
    exact ⟨v, ws, rfl, fz_ok (n := 0) (fun i h => absurd h (Nat.not_lt_zero i)) (fun a h => h.elim) (fun i p _ _ z => z) I 4 d e v r1 q1, fzs_ok I r2 q3⟩
theorem atom_rel {K : PySem.W.Frag} {fa : Nat → Addr} {ρ ρ' : List Addr} {Z Z' : Addr → Prop} {H H' : Hp} {d : D} {v : V} (ha : atomD d = true) (r : RelD K fa ρ Z H d v) : RelD K fa ρ' Z' H' d v := by
  cases d <;> first | exact r | cases ha
/-- nothing of ours changed -/
theorem pure_step {K : PySem.W.Frag} {fa : Nat → Addr} {ρ ρ' : List Addr} {Z Z' : Addr → Prop} {H H' : Hp} {m : M} (I : MOk K fa ρ Z H m) (s : Step [] (fun _ => False) H ρ' Z' H') : Step ρ Z H ρ Z H' ∧ MOk K fa ρ Z H' m := by
  have kp : ∀ a o, H a = some o → H' a = some o := fun a o h => s.keep a o h (.inl List.not_mem_nil)
  have s1 : Step ρ Z H ρ Z H' := ⟨⟨[], by simp⟩, fun _ h n => absurd h n, fun _ h n => absurd h n, fun a o h _ => kp a o h, fun _ h _ => h⟩
  have same : ∀ a, H a ≠ none → H' a = H a := fun a h => by
    cases q : H a with
    | none => exact absurd q h
    | some o => exact kp a o q
  refine ⟨s1, I.same s1 (fun a z => ?_) fun a ha z => ⟨z, same a (I.there a ha)⟩⟩
  have q := I.hot a z
  rw [same a (fun e => by rw [e] at q; exact q)]
  exact q
/-- a call that may change nothing -/
theorem s_callP {n : Str} {fn : Nat} {y : Expr} {ys : List Expr} {p pos : Pos} {f : Env' → M → Res (List D)} (G : Good T fa ca cf k S P X) (tk : Takes X W) (hc : S.calm = true) (hn : T.fns[fn]? = some n) (hg : gloB S n = true) (hs : ∀ e ∈ y :: ys, nst e = true)
    (ha : PA X (y :: ys) (RA X fa ca P W f)) : PE X (.Call (.Name n p) (y :: ys) [] pos) (RE X fa ca P W fun e m => (f e m).bind fun ds m => match fzs m ds with
      | some ds => pureR m (cf.call fn ds [])
      | none => .bad) := by
  obtain ⟨h1, h2, fd, ps, F, b, hl, _⟩ := G.f.fns fn n hn
  obtain ⟨g1, g2⟩ := glo_of G hg
  refine (pe_callS F (G.room hc) g1 h1 h2 b (fun σ => passAt tk σ) ha g2 (starEach_ns (hs y List.mem_cons_self)) (plain_any fun e he => hs e (List.mem_cons_of_mem _ he))).imp fun σ H Q h => ?_
  obtain ⟨p, ρ, Z, e, m, Sm, h⟩ := h
  refine ⟨p, ρ, Z, e, m, Sm, (PR.bind (rel := rDs X.K fa) Sm.mok.hot h).mono fun x H1 ⟨ρ1, Z1, d1, m1, _, s1, I1, r1, h1⟩ => ?_⟩
  split at h1
  rotate_left
  · exact h1.elim
  rename_i es he
  refine sp_of (ρ := []) (Z := fun _ => False) (m := []) (ds := es) ⟨rfl, List.nodup_nil, fun a h => (by cases h), fun a h => h.elim, fun i o h => (by cases h)⟩ (fzs_ok I1 r1 he) hl ?_
  unfold pureR at h1
  split at h1
  · rename_i d hd
    rw [hd]
    split at h1
    · rename_i hat
      intro ρ' Z' H' v s I' r
      obtain ⟨t1, t2⟩ := pure_step I1 s
      exact h1 ρ1 Z1 H' v t1 t2 (atom_rel hat r)
    · exact h1.elim
  · rename_i c hd
    rw [hd]
    intro ρ' Z' H' s I'
    obtain ⟨t1, t2⟩ := pure_step I1 s
    exact h1 ρ1 Z1 H' t1 t2
  · exact h1.elim
/-- a def that a slot holds, called -/
theorem s_callL {n : Str} {i : Nat} {y : Expr} {ys : List Expr} {p pos : Pos} {f : Env' → M → Res (List D)} (G : Good T fa ca cf k S P X) (tk : Takes X W) (hc : S.calm = true) (hn : nameB S i n = true) (hs : ∀ e ∈ y :: ys, nst e = true)
    (ha : PA X (y :: ys) (RA X fa ca P W f)) : PE X (.Call (.Name n p) (y :: ys) [] pos) (RE X fa ca P W fun e m => match getV e i with
      | some (.fn f') => if f' < cf.nf then (f e m).bind fun ds m => cf.call f' ds m else .bad
      | _ => .bad) := by
  obtain ⟨n1, n2, n3, n4⟩ := name_of G hn
  refine ⟨fun pins s σ H Q I h => ?_⟩
  obtain ⟨p', ρ, Z, e, m, Sm, h⟩ := h
  dsimp only at h
  split at h
  · rename_i fn hf
    obtain ⟨v, hv, rv⟩ := Sm.env i _ hf
    cases (show v = _ from rv)
    split at h
    rotate_left
    · exact h.elim
    rename_i hlt
    have hdom : ∃ x, T.fns[fn]? = some x := ⟨_, List.getElem?_eq_getElem (by rw [← G.f.dom]; exact hlt)⟩
    obtain ⟨x, hx⟩ := hdom
    obtain ⟨h1, h2, fd, ps, F, b, hl, _⟩ := G.f.fns fn x hx
    refine wpAny_Call_Name_kw (thn ((pe_var (pos := p) n1 n2 n3 n4).run pins s σ H (fun v H1 => v = .ref (fa fn) ∧ H1 = H) I ⟨_, hv, rfl, rfl⟩) fun u s1 w => ?_)
    obtain ⟨v, H1, I1, r1, rfl, rfl⟩ := w
    cases r1
    refine PySem.W.callWith_K (h₀ := X.base) I.ok.mod.kin h2 (thn (ha.run pos pins s1 σ _ _ I1 ⟨p', ρ, Z, e, m, Sm, PR.bind (rel := rDs X.K fa) Sm.mok.hot h⟩) fun us s2 w => ?_) (starEach_ns (hs y List.mem_cons_self)) (plain_any fun e he => hs e (List.mem_cons_of_mem _ he))
    obtain ⟨vs, H2, I2, r, ρ1, Z1, d1, m1, _, s1, I1', r1, h1⟩ := w
    exact ⟨I2.kIn, run_fnS F (G.room hc) b (passAt tk σ) I2 r (sp_of I1' r1 hl h1)⟩
  · exact h.elim
theorem pickL_rel {K : PySem.W.Frag} {ρ : List Addr} {Z : Addr → Prop} {H : Hp} {ds : List D} {vs : List V} (r : RelDs K fa ρ Z H ds vs) : ∀ {pm : List Nat} {zs : List D}, pickL ds pm = some zs → ∃ ws, pickL vs pm = some ws ∧ RelDs K fa ρ Z H zs ws
  | [], zs, h => by cases (show some ([] : List D) = some zs from h); exact ⟨[], rfl, rfl⟩
  | i :: pm, zs, h => by
    obtain ⟨d, h1, h2⟩ := Option.bind_eq_some_iff.mp h
    obtain ⟨zs', h3, rfl⟩ := Option.map_eq_some_iff.mp h2
    obtain ⟨v, hv, rv⟩ := r.get h1
    obtain ⟨ws, hw, rw_⟩ := pickL_rel r (pm := pm) h3
    exact ⟨v :: ws, by show (vs[i]?).bind _ = _; rw [hv]; show (pickL vs pm).map _ = _; rw [hw]; rfl, v, ws, rfl, rv, rw_⟩
theorem pickL_vals {vs : List V} {us : List Value} (r : Vals vs us) : ∀ {pm : List Nat} {zs : List V}, pickL vs pm = some zs → ∃ ws, pickL us pm = some ws ∧ Vals zs ws
  | [], zs, h => by cases (show some ([] : List V) = some zs from h); exact ⟨[], rfl, .nil⟩
  | i :: pm, zs, h => by
    obtain ⟨d, h1, h2⟩ := Option.bind_eq_some_iff.mp h
    obtain ⟨zs', h3, rfl⟩ := Option.map_eq_some_iff.mp h2
    obtain ⟨v, hv, rv⟩ := r.get h1
    obtain ⟨ws, hw, rw_⟩ := pickL_vals r (pm := pm) h3
    exact ⟨v :: ws, by show (us[i]?).bind _ = _; rw [hv]; show (pickL us pm).map _ = _; rw [hw]; rfl, .cons rv rw_⟩
theorem kw_all : ∀ {kws : List Keyword} {pos : Pos} {env : Env}, (∀ q ∈ kws, q.arg.isSome = true) → (backToKw pos (keywordEach kws env)).all (·.1.isSome) = true ∧ (backToKw pos (keywordEach kws env)).any (·.1.isNone) = false ∧ (backToKw pos (keywordEach kws env)).filterMap (·.1) = kws.filterMap (·.arg)
  | [], _, _, _ => ⟨rfl, rfl, rfl⟩
  | ⟨nm, v, p⟩ :: kws, pos, env, h => by
    obtain ⟨h1, h2, h3⟩ := kw_all (kws := kws) (pos := pos) (env := env) fun q hq => h q (List.mem_cons_of_mem _ hq)
    have h0 : nm.isSome = true := h _ List.mem_cons_self
    obtain ⟨x, rfl⟩ := Option.isSome_iff_exists.mp h0
    unfold backToKw at h1 h2 h3 ⊢
    simp only [keywordEach, List.map_cons, List.all_cons, List.any_cons, List.filterMap_cons]
    exact ⟨by rw [h1]; rfl, by rw [h2]; rfl, by rw [h3]⟩
theorem s_knil : PK X [] (RA X fa ca P W fun _ m => .ok [] m) := by
  refine ⟨fun pos pins s σ H Q I h => pk_nil.run pos pins s σ H Q I ?_⟩
  obtain ⟨_, ρ, Z, e, m, Sm, q⟩ := h
  exact q.out Sm.mok rfl
theorem s_kcons {nm : Option Str} {a : Expr} {kpos : Pos} {es : List Keyword} {f : Env' → M → Res D} {g : Env' → M → Res (List D)} (ha : PE X a (RE X fa ca P W f)) (hs : PK X es (RA X fa ca P W g)) :
    PK X (⟨nm, a, kpos⟩ :: es) (RA X fa ca P W fun e m => (f e m).bind fun d m => (g e m).bind fun ds m => .ok (d :: ds) m) :=
  ⟨fun pos pins s σ H Q I h => (pk_cons ha hs).run pos pins s σ H Q I (RA_cons h)⟩
/-- a call by keywords, places too -/
theorem s_callK {n : Str} {fn : Nat} {ys : List Expr} {kws : List Keyword} {pm : List Nat} {p pos : Pos} {f g : Env' → M → Res (List D)} (G : Good T fa ca cf k S P X) (tk : Takes X W) (hc : S.calm = true) (hn : T.fns[fn]? = some n) (hg : gloB S n = true)
    (hs : ∀ e ∈ ys, nst e = true) (hk : ∀ q ∈ kws, q.arg.isSome = true) (hm : (fn, ys.length, kws.filterMap (·.arg), pm) ∈ T.kws)
    (h0 : ys = [] → ∀ e m, f e m = .ok [] m) (hlen : ∀ e m ds m1, f e m = .ok ds m1 → ds.length = ys.length) (hlen2 : ∀ e m ds m1, g e m = .ok ds m1 → ds.length = (kws.filterMap (·.arg)).length) (ha : PA X ys (RA X fa ca P W f)) (hb : PK X kws (RA X fa ca P W g)) :
    PE X (.Call (.Name n p) ys kws pos) (RE X fa ca P W fun e m => (f e m).bind fun ds m => (g e m).bind fun zs m => match pickL (ds ++ zs) pm with
      | some vs => cf.call fn vs m
      | none => .bad) := by
  obtain ⟨h1, h2, fd, ps, F, b, hl, hkw⟩ := G.f.fns fn n hn
  obtain ⟨g1, g2⟩ := glo_of G hg
  have kb := hkw _ hm rfl
  obtain ⟨k1, k2, k3⟩ := kw_all (pos := pos) (env := X.env) hk
  refine ⟨fun pins s σ H Q I h => ?_⟩
  obtain ⟨p', ρ, Z, e, m, Sm, h⟩ := h
  refine wpAny_Call_Name_kw (ld_glob I g1 h1 ?_ g2)
  have body : ∀ (us : List Value) (s1 : Shared) (vs : List V) (H1 : Hp), Inv X pins σ H1 s1 → Vals vs us → (∃ ρ1 Z1 d1 m1, f e m = .ok d1 m1 ∧ Step ρ Z H ρ1 Z1 H1 ∧ MOk X.K fa ρ1 Z1 H1 m1 ∧ RelDs X.K fa ρ1 Z1 H1 d1 vs ∧
      PR X.K fa ca W σ (rD X.K fa) ρ1 Z1 H1 ((g e m1).bind fun zs m => match pickL (d1 ++ zs) pm with
      | some vs => cf.call fn vs m
      | none => .bad) Q) →
      wpAny (model X.prog X.w) X.A (evalAll ((backToKw pos (keywordEach kws X.env)).map (·.2))) (fun ws s2 => X.K.In s2.heap ∧ wpAny (model X.prog X.w) X.A (call (.ref (fa fn)) us (((backToKw pos (keywordEach kws X.env)).filterMap (·.1)).zip ws)) (EP X pins σ Q) X.xe s2) X.xe s1 := by
    intro us s1 vs H1 I1 rv w
    obtain ⟨ρ1, Z1, d1, m1, q1, s1', I1', r1, h1'⟩ := w
    refine thn (hb.run pos pins s1 σ H1 _ I1 ⟨p', ρ1, Z1, e, m1, Sm.step s1' I1', PR.bind (rel := rDs X.K fa) I1'.hot h1'⟩) fun ws s2 w => ⟨?_, ?_⟩
    · obtain ⟨_, _, I2, _⟩ := w; exact I2.kIn
    · obtain ⟨zs, H2, I2, rz, ρ2, Z2, d2, m2, q2, s2', I2', r2, h2'⟩ := w
      split at h2'
      · rename_i ds3 hp3
        obtain ⟨vs3, hv3, rv3⟩ := pickL_rel (fa := fa) (ds := d1 ++ d2) ((RelDs.mono s2' I1'.hot _ _ r1).append r2) hp3
        obtain ⟨us3, hu3, ru3⟩ := pickL_vals (rv.append rz) hv3
        rw [k3]
        have l3 : us3.length = ps.length := by
          rw [← ru3.length, ← rv3.length]
          by_cases q : ds3.length = ps.length
          · exact q
          · rw [hl ds3 m2 q] at h2'; exact h2'.elim
        have bt := kb s2 us ws us3 I2.kIn (by rw [← rv.length, ← r1.length]; exact hlen e m d1 m1 q1) (by rw [← rz.length, ← r2.length]; exact hlen2 e m1 d2 m2 q2) hu3 l3
        refine wpAny_call (codeAny_mono (F.run X.A X.stack s2 H2 ⟨us, (kws.filterMap (·.arg)).zip ws⟩ us3 vs3 Q (WE W σ) (G.room hc) I2.env0 bt ru3 (sp_of I2' rv3 hl h2')) fun r s' hq => ?_)
        cases r with
        | error e => exact passAt tk σ pins H2 s2 e s' I2 hq
        | ok fl =>
          cases fl with
          | ret u => exact I2.after hq
          | next => exact False.elim hq
          | brk => exact False.elim hq
          | cont => exact False.elim hq
      · exact h2'.elim
  cases ys with
  | nil =>
    refine PySem.W.callWith_KW0 (h₀ := X.base) I.ok.mod.kin h2 k1 ?_ (by rw [k2]; rfl)
    have e0 := h0 rfl e m
    have h' : PR X.K fa ca W σ (rD X.K fa) ρ Z H ((f e m).bind fun ds m => (g e m).bind fun zs m => match pickL (ds ++ zs) pm with
      | some vs => cf.call fn vs m
      | none => .bad) Q := h
    rw [e0] at h'
    exact body [] s [] H I .nil ⟨ρ, Z, [], m, e0, Step.refl, Sm.mok, rfl, h'⟩
  | cons y ys =>
    refine PySem.W.callWith_KW (h₀ := X.base) I.ok.mod.kin h2 k1 (thn (ha.run pos pins s σ H _ I ⟨p', ρ, Z, e, m, Sm, PR.bind (rel := rDs X.K fa) Sm.mok.hot h⟩) fun us s1 w => ?_) ?_ (starEach_ns (hs y List.mem_cons_self))
    · obtain ⟨vs, H1, I1, rv, w⟩ := w
      exact body us s1 vs H1 I1 rv w
    · rw [k2, Bool.or_false]
      exact plain_any hs
end
end Dx
/-! Dx, part 11: built-ins, isinstance, walks, targets, comprehensions. -/
namespace Dx
open PySem PySem.Spec PyProof.Rows L2
section
variable {T : Tab} {fa ca : Nat → Addr} {cf : Cfg} {k : Nat} {S : SC} {P : L2.St → Prop} {X : Cx} {W : WX}
theorem blt_boot (b : Blt) : bootBuiltins (bltName b) = some (bltV b) ∧ bltName b ≠ ("__name__" : Str) ∧ (bltName b == ("__debug__" : Str)) = false := by
  cases b <;> exact ⟨by decide +kernel, by decide +kernel, by decide +kernel⟩
theorem tCB_of {kk : M → List D → Option D} {f : Env' → M → Res (List D)} {σ : L2.St} {H : Hp} {Q : VK} (h : RE X fa ca P W (fun e m => (f e m).bind fun ds m => .of (kk m ds) m) σ H Q) : tCB (rBlt X.K fa kk) (RA X fa ca P W f) σ H Q := by
  obtain ⟨p, ρ, Z, e, m, Sm, h⟩ := h
  refine ⟨p, ρ, Z, e, m, Sm, (PR.bind (rel := rDs X.K fa) Sm.mok.hot h).mono fun x H1 ⟨ρ1, Z1, d1, m1, _, s1, I1, r1, h1⟩ => ?_⟩
  obtain ⟨d, hd, h2⟩ := PR_of h1
  exact ⟨ρ1, Z1, m1, d1, d, I1, r1, hd, h2⟩
theorem s_blt {b : Blt} {n : Str} {y : Expr} {ys : List Expr} {p pos : Pos} {f : Env' → M → Res (List D)} (G : Good T fa ca cf k S P X) (hc : S.calm = true) (hn : n = bltName b) (hb : bltB T S n = true) (hs : ∀ e ∈ y :: ys, nst e = true)
    (ha : PA X (y :: ys) (RA X fa ca P W f)) : PE X (.Call (.Name n p) (y :: ys) [] pos) (RE X fa ca P W fun e m => (f e m).bind fun ds m => .of (evBlt m b ds) m) := by
  obtain ⟨hg, hm⟩ := blt_of G hb
  subst hn
  obtain ⟨b1, b2, b3⟩ := blt_boot b
  have c := bltR (fa := fa) (G.calm hc) b
  have st := starEach_ns (es := ys) (env := X.env) (hs y List.mem_cons_self)
  have pl := plain_any (pos := pos) (env := X.env) fun e he => hs e (List.mem_cons_of_mem _ he)
  have fin : ∀ {t : TE}, PE X (.Call (.Name (bltName b) p) (y :: ys) [] pos) t → (∀ σ H Q, tCB (rBlt X.K fa fun m => evBlt m b) (RA X fa ca P W f) σ H Q → t σ H Q) →
      PE X (.Call (.Name (bltName b) p) (y :: ys) [] pos) (RE X fa ca P W fun e m => (f e m).bind fun ds m => .of (evBlt m b ds) m) := fun {t} h hk => h.imp fun σ H Q q => hk σ H Q (tCB_of q)
  cases b with
  | toInt => exact fin (pe_callTy (T := "int") c hg hm b1 ha b2 b3 st pl) fun _ _ _ h => h
  | toTuple => exact fin (pe_callTy (T := "tuple") c hg hm b1 ha b2 b3 st pl) fun _ _ _ h => h
  | len => exact fin (pe_callB (id := "len") c hg hm b1 ha b2 b3 st pl) fun _ _ _ h => h
  | abs => exact fin (pe_callB (id := "abs") c hg hm b1 ha b2 b3 st pl) fun _ _ _ h => h
  | all => exact fin (pe_callB (id := "all") c hg hm b1 ha b2 b3 st pl) fun _ _ _ h => h
  | any => exact fin (pe_callB (id := "any") c hg hm b1 ha b2 b3 st pl) fun _ _ _ h => h
  | sum => exact fin (pe_callB (id := "sum") c hg hm b1 ha b2 b3 st pl) fun _ _ _ h => h
  | max2 => exact fin (pe_callB (id := "max") c hg hm b1 ha b2 b3 st pl) fun _ _ _ h => h
  | min2 => exact fin (pe_callB (id := "min") c hg hm b1 ha b2 b3 st pl) fun _ _ _ h => h
/-! ### isinstance -/
theorem ty_boot (t : Ty) : bootBuiltins (tyS t) = some (.type (tyN t)) ∧ tyS t ≠ ("__name__" : Str) ∧ (tyS t == ("__debug__" : Str)) = false := by
  cases t <;> exact ⟨by decide +kernel, by decide +kernel, by decide +kernel⟩
/-- the classes' names, as values -/
def tTys (ts : List Ty) : TA := fun _ H Q => Q (ts.map fun t => V.ty (tyN t)) H
theorem s_ty {t : Ty} {n : Str} {p : Pos} (G : Good T fa ca cf k S P X) (hn : n = tyS t) (hb : bltB T S n = true) : PE X (.Name n p) (tC (.ty (tyN t))) := by
  subst hn
  obtain ⟨hg, hm⟩ := blt_of G hb
  obtain ⟨b1, b2, b3⟩ := ty_boot t
  exact pe_bltn hg hm b1 rfl b2 b3
theorem s_tys (G : Good T fa ca cf k S P X) : ∀ {ts : List Ty} {xs : List Expr}, chkTys T S ts xs = true → (∀ x ∈ xs, nst x = true) → PA X xs (tTys ts)
  | [], [], _, _ => pa_nil
  | [], _ :: _, h, _ => by cases h
  | _ :: _, [], h, _ => by cases h
  | t :: ts, x :: xs, h, hs => by
    unfold chkTys at h
    rw [Bool.and_eq_true] at h
    obtain ⟨h1, h2⟩ := h
    split at h1
    · rename_i n p
      rw [Bool.and_eq_true] at h1
      exact (pa_cons (s_ty G (of_decide_eq_true h1.1) h1.2) (s_tys G h2 fun y hy => hs y (List.mem_cons_of_mem _ hy)) (starEach_ns rfl)).imp fun σ H Q h => h
    · cases h1
theorem tys_cls : ∀ ts : List Ty, Paired ClsV (ts.map fun t => V.ty (tyN t)) (ts.map fun t => Value.type (tyN t))
  | [] => .nil
  | t :: ts => .cons (.ty _) (tys_cls ts)
theorem isi_boot : bootBuiltins ("isinstance" : Str) = some (.builtin "isinstance") := by decide +kernel
theorem s_isI1 {n : Str} {a z : Expr} {t : Ty} {p pos : Pos} {f : Env' → M → Res D} (G : Good T fa ca cf k S P X) (hn : n = ("isinstance" : Str)) (hb : bltB T S n = true) (hs : nst a = true) (hz : nst z = true) (ht : chkTys T S [t] [z] = true)
    (ha : PE X a (RE X fa ca P W f)) : PE X (.Call (.Name n p) [a, z] [] pos) (RE X fa ca P W fun e m => (f e m).bind fun x m => .of ((evIsI m x [t]).map .bl) m) := by
  subst hn
  obtain ⟨hg, hm⟩ := blt_of G hb
  have hz' := s_tys G ht (fun x hx => by rw [List.mem_singleton.mp hx]; exact hz)
  have pa : PA X [a, z] (tCons (RE X fa ca P W f) (tTys [t])) := pa_cons ha hz' (starEach_ns hs)
  refine (pe_callB (call_isi) hg hm isi_boot pa (by decide) (by decide) (starEach_ns hs) (plain_any fun e he => by rw [List.mem_singleton.mp he]; exact hz)).imp fun σ H Q h => ?_
  refine RE_then h _ fun ρ Z e m d v H1 Sm r q => ?_
  obtain ⟨d', hd, h2⟩ := PR_of q
  obtain ⟨b, hb, rfl⟩ := Option.map_eq_some_iff.mp hd
  obtain ⟨ty, h3, h4⟩ := isi_ty Sm.mok r hb
  refine ⟨v, _, ty, _, b, rfl, .ty (tyN t), h3, ?_, h2.out Sm.mok rfl⟩
  have h5 : PySem.W.kitAny X.K ty [.type (tyN t)] = some b := h4
  unfold PySem.W.kitAny at h5
  split at h5
  · rename_i e; rw [e]; exact h5
  · rename_i e
    have h6 : some false = some b := h5
    rw [e]; exact h6
  · cases h5
theorem s_isIT {n : Str} {a : Expr} {zs : List Expr} {ts : List Ty} {kk : Nat} {p p2 pos : Pos} {f : Env' → M → Res D} (G : Good T fa ca cf k S P X) (hn : n = ("isinstance" : Str)) (hb : bltB T S n = true) (hs : nst a = true) (hz : ∀ z ∈ zs, nst z = true) (hl : ts.length ≤ 1000) (ht : chkTys T S ts zs = true)
    (ha : PE X a (RE X fa ca P W f)) : PE X (.Call (.Name n p) [a, .Tuple zs kk p2] [] pos) (RE X fa ca P W fun e m => (f e m).bind fun x m => .of ((evIsI m x ts).map .bl) m) := by
  subst hn
  obtain ⟨hg, hm⟩ := blt_of G hb
  have pa : PA X [a, .Tuple zs kk p2] (tCons (RE X fa ca P W f) (tCons (tTup (tTys ts)) tNil)) := pa_cons ha (pa_cons (pe_tup (s_tys G ht hz)) pa_nil (starEach_ns rfl)) (starEach_ns hs)
  refine (pe_callB (call_isiT) hg hm isi_boot pa (by decide) (by decide) (starEach_ns hs) (plain_any fun e he => by rw [List.mem_singleton.mp he]; rfl)).imp fun σ H Q h => ?_
  refine RE_then h _ fun ρ Z e m d v H1 Sm r q => ?_
  obtain ⟨d', hd, h2⟩ := PR_of q
  obtain ⟨b, hb, rfl⟩ := Option.map_eq_some_iff.mp hd
  refine ⟨by rw [List.length_map, sizeLine_eq]; omega, fun t htn => ?_⟩
  have I2 := Sm.mok.laid (o := .tup (ts.map fun t => V.ty (tyN t))) htn
  obtain ⟨ty, h3, h4⟩ := isi_ty I2 (RelD.mono (Step.laid htn) Sm.mok.hot _ _ r) hb
  exact ⟨v, t, _, ty, _, b, rfl, upd_same, tys_cls ts, h3, h4, h2 ρ Z _ _ (Step.laid htn) I2 rfl⟩
theorem s_excIs {n y z : Str} {i : Nat} {p p2 p3 pos : Pos} (G : Good T fa ca cf k S P X) (hn : n = ("isinstance" : Str)) (hb : bltB T S n = true) (hi : S.exc = some i) (hy : nameB S i y = true) (hz : z = ("ValueError" : Str)) (hbz : bltB T S z = true) :
    PE X (.Call (.Name n p) [.Name y p2, .Name z p3] [] pos) (RE X fa ca P W fun _ m => .ok (.bl true) m) := by
  subst hn hz
  obtain ⟨hg, hm⟩ := blt_of G hb
  obtain ⟨hgz, hmz⟩ := blt_of G hbz
  obtain ⟨n1, n2, n3, n4⟩ := name_of G hy
  obtain ⟨a, Dc, h1, h2, h3⟩ := G.exc i hi
  have pz : PE X (.Name ("ValueError" : Str) p3) (tC (.ty "ValueError")) := pe_bltn hgz hmz (u := .type "ValueError") (by decide +kernel) rfl (by decide) (by decide)
  refine (pe_callB h2 hg hm isi_boot (pa_cons (pe_var n1 n2 n3 n4) (pa_cons pz pa_nil (starEach_ns rfl)) (starEach_ns rfl)) (by decide) (by decide) (starEach_ns rfl) rfl).imp fun σ H Q h => ?_
  obtain ⟨hp, ρ, Z, e, m, Sm, q⟩ := h
  exact ⟨_, h1 σ hp, .ty "ValueError", .type "ValueError", true, rfl, fun u hu => hu, h3, q.out Sm.mok rfl⟩
/-! ### walks -/
theorem PI_bind {α β : Type} {rel : Rl α β} {r : Res α} {g : α → M → Res Src} {σ : L2.St} {ρ : List Addr} {Z : Addr → Prop} {H : Hp} {R : It → Hp → Prop} (hot : Hot Z H) (h : PI' X.K fa ca W σ ρ Z H (r.bind g) R) :
    PR X.K fa ca W σ rel ρ Z H r fun b H1 => ∃ ρ1 Z1 a m1, Step ρ Z H ρ1 Z1 H1 ∧ MOk X.K fa ρ1 Z1 H1 m1 ∧ rel ρ1 Z1 H1 a b ∧ PI' X.K fa ca W σ ρ1 Z1 H1 (g a m1) R := by
  cases r with
  | ok d m1 =>
    intro ρ1 Z1 H1 v s I r
    refine ⟨ρ1, Z1, d, m1, s, I, r, ?_⟩
    have h' : PI' X.K fa ca W σ ρ Z H (g d m1) R := h
    cases q2 : g d m1 with
    | ok s2 m2 =>
      rw [q2] at h'
      cases s2 with
      | seq xs => exact fun ρ' Z' H' J t I' gs => h' ρ' Z' H' J (s.trans hot t) I' gs
      | rf r n => exact fun ρ' Z' H' J t I' gs => h' ρ' Z' H' J (s.trans hot t) I' gs
    | err c m2 => rw [q2] at h'; exact fun ρ' Z' H' t I' => h' ρ' Z' H' (s.trans hot t) I'
    | bad => rw [q2] at h'; exact h'
  | err c m1 => exact h
  | bad => exact h
theorem PI_then {f : Env' → M → Res D} {g : D → M → Res Src} {σ : L2.St} {H : Hp} {R : It → Hp → Prop} (h : tI X.K fa ca P W (fun e m => (f e m).bind g) σ H R) (Q' : VK)
    (hk : ∀ ρ Z e m d v H1, Sim X.K fa ρ Z H1 σ e m → RelD X.K fa ρ Z H1 d v → PI' X.K fa ca W σ ρ Z H1 (g d m) R → Q' v H1) : RE X fa ca P W f σ H Q' := by
  obtain ⟨p, ρ, Z, e, m, Sm, h⟩ := h
  exact ⟨p, ρ, Z, e, m, Sm, (PI_bind (rel := rD X.K fa) Sm.mok.hot h).mono fun v H1 ⟨ρ1, Z1, d1, m1, s1, I1, r1, h1⟩ => hk ρ1 Z1 e m1 d1 v H1 (Sm.step s1 I1) r1 h1⟩
theorem lst_stays {ρ : List Addr} {Z : Addr → Prop} {H : Hp} {p : Addr} {vs : List V} (h : H p = some (.lst vs)) (n : ¬ Z p) : ∀ ρ' Z' H', Step ρ Z H ρ' Z' H' → SqL X.K H' p vs := fun _ _ _ s => SqL.of (lst_mono s h n).1
theorem s_seq {tg a : Expr} {f : Env' → M → Res D} (ha : PE X a (RE X fa ca P W f)) : PI X tg a (tI X.K fa ca P W fun e m => (f e m).bind fun x m => match x with
    | .tup xs => .ok (.seq xs) m
    | .lst xs => .ok (.seq xs) m
    | .ref r => (match m[r]? with
      | some (.lst xs) => .ok (.rf r xs.length) m
      | _ => .bad)
    | _ => .bad) := by
  refine ⟨fun pins s σ H R I h => (pi_dyn ha).run pins s σ H R I (PI_then h _ fun ρ Z e m d v H1 Sm r q => ?_)⟩
  split at q
  · obtain ⟨p, vs, rfl, hp, t⟩ := r
    exact ⟨p, rfl, .inr ⟨vs, hp, q ρ Z H1 _ Step.refl Sm.mok (goes_tup hp Sm.mok.hot t)⟩⟩
  · obtain ⟨p, vs, rfl, hp, n, t⟩ := r
    exact ⟨p, rfl, .inl ⟨vs, SqL.of hp, q ρ Z H1 _ Step.refl Sm.mok (goes_list (lst_stays hp n) Sm.mok.hot t)⟩⟩
  · split at q
    · rename_i hx
      obtain ⟨p, rfl, hp⟩ := r
      obtain ⟨p', vs, hp', zp, hv, t⟩ := Sm.mok.get hx
      rw [hp] at hp'
      cases hp'
      exact ⟨p, rfl, .inl ⟨vs, SqL.of hv, q ρ Z H1 p Step.refl Sm.mok hp⟩⟩
    · exact q.elim
  · exact q.elim
theorem s_rng1 {tg a : Expr} {n : Str} {p pos : Pos} {f : Env' → M → Res D} (G : Good T fa ca cf k S P X) (hn : n = ("range" : Str)) (hb : bltB T S n = true) (hs : nst a = true) (ha : PE X a (RE X fa ca P W f)) :
    PI X tg (.Call (.Name n p) [a] [] pos) (tI X.K fa ca P W fun e m => (f e m).bind fun x m => match x with
    | .int j => if decide (-(2 ^ 62) ≤ j) && decide (j < 2 ^ 62) then .ok (.seq ((List.range j.toNat).map fun (i : Nat) => .int i)) m else .bad
    | _ => .bad) := by
  subst hn
  obtain ⟨hg, hm⟩ := blt_of G hb
  refine ⟨fun pins s σ H R I h => (pi_range1 hg hm (pa_cons ha pa_nil (starEach_ns hs)) (starEach_ns hs)).run pins s σ H R I (PI_then h _ fun ρ Z e m d v H1 Sm r q => ?_)⟩
  split at q
  · rename_i j
    split at q
    · rename_i hj
      simp only [Bool.and_eq_true, decide_eq_true_eq] at hj
      cases (show v = _ from r)
      refine ⟨j, rfl, hj.1, hj.2, q ρ Z H1 _ Step.refl Sm.mok ?_⟩
      have g := goes_range (K := X.K) (fa := fa) (ρ := ρ) (Z := Z) (H := H1) (lo := 0) (n := j.toNat)
      simpa using g
    · exact q.elim
  · exact q.elim
theorem s_rng2 {tg a b : Expr} {n : Str} {p pos : Pos} {f g : Env' → M → Res D} (G : Good T fa ca cf k S P X) (hn : n = ("range" : Str)) (hb : bltB T S n = true) (hs : nst a = true) (hs2 : nst b = true) (ha : PE X a (RE X fa ca P W f)) (hbb : PE X b (RE X fa ca P W g)) :
    PI X tg (.Call (.Name n p) [a, b] [] pos) (tI X.K fa ca P W fun e m => (f e m).bind fun x m => (g e m).bind fun y m => match x, y with
    | .int i, .int j => if decide (-(2 ^ 62) ≤ i) && decide (i < 2 ^ 62) && decide (-(2 ^ 62) ≤ j) && decide (j < 2 ^ 62) then .ok (.seq ((List.range (j - i).toNat).map fun (k : Nat) => .int (i + k))) m else .bad
    | _, _ => .bad) := by
  subst hn
  obtain ⟨hg, hm⟩ := blt_of G hb
  have st : starEach [a, b] X.env = [(false, eval a X.env), (false, eval b X.env)] := by rw [starEach_ns hs, starEach_ns hs2]; rfl
  refine ⟨fun pins s σ H R I h => (pi_range2 hg hm (pa_cons ha (pa_cons hbb pa_nil (starEach_ns hs2)) (starEach_ns hs)) st (starEach_ns hs2)).run pins s σ H R I ?_⟩
  obtain ⟨p, ρ, Z, e, m, Sm, h⟩ := h
  refine ⟨p, ρ, Z, e, m, Sm, (PI_bind (rel := rD X.K fa) Sm.mok.hot h).mono fun v H1 ⟨ρ1, Z1, d1, m1, s1, I1, r1, h1⟩ => ?_⟩
  refine ⟨p, ρ1, Z1, e, m1, Sm.step s1 I1, (PI_bind (rel := rD X.K fa) I1.hot h1).mono fun w H2 ⟨ρ2, Z2, d2, m2, s2, I2, r2, q⟩ => ?_⟩
  split at q
  · rename_i i j _
    split at q
    · rename_i hj
      simp only [Bool.and_eq_true, decide_eq_true_eq] at hj
      cases (show v = _ from r1)
      cases (show w = _ from r2)
      exact ⟨i, j, rfl, ⟨hj.1.1.1, hj.1.1.2, hj.1.2, hj.2⟩, q ρ2 Z2 H2 _ Step.refl I2 goes_range⟩
    · exact q.elim
  · exact q.elim
theorem s_rngD {tg a b c : Expr} {n : Str} {p pos : Pos} {f g q : Env' → M → Res D} (G : Good T fa ca cf k S P X) (hn : n = ("range" : Str)) (hb : bltB T S n = true) (hs : nst a = true) (hs2 : nst b = true) (hs3 : nst c = true) (ha : PE X a (RE X fa ca P W f)) (hbb : PE X b (RE X fa ca P W g)) (hcc : PE X c (RE X fa ca P W q)) :
    PI X tg (.Call (.Name n p) [a, b, c] [] pos) (tI X.K fa ca P W fun e m => (f e m).bind fun x m => (g e m).bind fun y m => (q e m).bind fun z m => match x, y, z with
    | .int i, .int j, .int k => if decide (k = -1) && decide (-(2 ^ 62) ≤ i) && decide (i < 2 ^ 62) && decide (-(2 ^ 62) ≤ j) && decide (j < 2 ^ 62) then .ok (.seq ((List.range (i - j).toNat).map fun (k : Nat) => .int (i + k * (-1)))) m else .bad
    | _, _, _ => .bad) := by
  subst hn
  obtain ⟨hg, hm⟩ := blt_of G hb
  have st : starEach [a, b, c] X.env = (false, eval a X.env) :: starEach [b, c] X.env := starEach_ns hs
  refine ⟨fun pins s σ H R I h => (pi_range3 hg hm (pa_cons ha (pa_cons hbb (pa_cons hcc pa_nil (starEach_ns hs3)) (starEach_ns hs2)) (starEach_ns hs)) st (plain_any fun e he => by
    rcases List.mem_cons.mp he with z | z
    · rw [z]; exact hs2
    · rw [List.mem_singleton.mp z]; exact hs3)).run pins s σ H R I ?_⟩
  obtain ⟨p, ρ, Z, e, m, Sm, h⟩ := h
  refine ⟨p, ρ, Z, e, m, Sm, (PI_bind (rel := rD X.K fa) Sm.mok.hot h).mono fun v H1 ⟨ρ1, Z1, d1, m1, s1, I1, r1, h1⟩ => ?_⟩
  refine ⟨p, ρ1, Z1, e, m1, Sm.step s1 I1, (PI_bind (rel := rD X.K fa) I1.hot h1).mono fun w H2 ⟨ρ2, Z2, d2, m2, s2, I2, r2, h2⟩ => ?_⟩
  refine ⟨p, ρ2, Z2, e, m2, (Sm.step s1 I1).step s2 I2, (PI_bind (rel := rD X.K fa) I2.hot h2).mono fun u H3 ⟨ρ3, Z3, d3, m3, s3, I3, r3, q⟩ => ?_⟩
  split at q
  · rename_i i j l _ _
    split at q
    · rename_i hj
      simp only [Bool.and_eq_true, decide_eq_true_eq] at hj
      cases (show v = _ from r1)
      cases (show w = _ from r2)
      cases (show u = _ from r3)
      obtain ⟨⟨⟨⟨hk, h5⟩, h6⟩, h7⟩, h8⟩ := hj
      subst hk
      exact ⟨i, j, -1, _, rfl, RgC.neg h5 h6 h7 h8, q ρ3 Z3 H3 _ Step.refl I3 goes_down⟩
    · exact q.elim
  · exact q.elim
theorem s_enum {a : Expr} {elts : List Expr} {kk : Nat} {tpos : Pos} {n : Str} {p pos : Pos} {f : Env' → M → Res D} (G : Good T fa ca cf k S P X) (hn : n = ("enumerate" : Str)) (hb : bltB T S n = true) (hs : nst a = true) (ha : PE X a (RE X fa ca P W f)) :
    PI X (.Tuple elts kk tpos) (.Call (.Name n p) [a] [] pos) (tI X.K fa ca P W fun e m => (f e m).bind fun x m => match x with
    | .lst xs => .ok (.seq ((xs.zipIdx).map fun p => .tup [.int p.2, p.1])) m
    | _ => .bad) := by
  subst hn
  obtain ⟨hg, hm⟩ := blt_of G hb
  refine ⟨fun pins s σ H R I h => (pi_enum hg hm (pa_cons ha pa_nil (starEach_ns hs)) (starEach_ns hs)).run pins s σ H R I (PI_then h _ fun ρ Z e m d v H1 Sm r q => ?_)⟩
  split at q
  · obtain ⟨p, vs, rfl, hp, n, t⟩ := r
    exact ⟨p, vs, rfl, SqL.of hp, q ρ Z H1 _ Step.refl Sm.mok (goes_enum (lst_stays hp n) Sm.mok.hot t)⟩
  · exact q.elim
theorem s_zip {a b : Expr} {elts : List Expr} {kk : Nat} {tpos : Pos} {n : Str} {p pos : Pos} {f g : Env' → M → Res D} (G : Good T fa ca cf k S P X) (hn : n = ("zip" : Str)) (hb : bltB T S n = true) (hs : nst a = true) (hs2 : nst b = true) (ha : PE X a (RE X fa ca P W f)) (hbb : PE X b (RE X fa ca P W g)) :
    PI X (.Tuple elts kk tpos) (.Call (.Name n p) [a, b] [] pos) (tI X.K fa ca P W fun e m => (f e m).bind fun x m => (g e m).bind fun y m => match seqOf x, seqOf y with
    | some xs, some ys => .ok (.seq (List.zipWith (fun p q => .tup [p, q]) xs ys)) m
    | _, _ => .bad) := by
  subst hn
  obtain ⟨hg, hm⟩ := blt_of G hb
  refine ⟨fun pins s σ H R I h => (pi_zipK hg hm (pa_cons ha (pa_cons hbb pa_nil (starEach_ns hs2)) (starEach_ns hs)) (starEach_ns hs) (plain_any fun e he => by rw [List.mem_singleton.mp he]; exact hs2)).run pins s σ H R I ?_⟩
  obtain ⟨p, ρ, Z, e, m, Sm, h⟩ := h
  refine ⟨p, ρ, Z, e, m, Sm, (PI_bind (rel := rD X.K fa) Sm.mok.hot h).mono fun v H1 ⟨ρ1, Z1, d1, m1, s1, I1, r1, h1⟩ => ?_⟩
  refine ⟨p, ρ1, Z1, e, m1, Sm.step s1 I1, (PI_bind (rel := rD X.K fa) I1.hot h1).mono fun w H2 ⟨ρ2, Z2, d2, m2, s2, I2, r2, q⟩ => ?_⟩
  have r1 := RelD.mono s2 I1.hot _ _ r1
  split at q
  · rename_i xs ys ex ey
    obtain ⟨k1, p1, vs, rfl, q1, n1, t1⟩ := seq_lies ex r1
    obtain ⟨k2, p2, ws, rfl, q2, n2, t2⟩ := seq_lies ey r2
    exact ⟨p1, p2, vs, ws, k1, k2, rfl, q1, q2, q ρ2 Z2 H2 _ Step.refl I2 (goes_zipK (fun ρ' Z' H' s => n1 ρ' Z' H' s I2.hot) (fun ρ' Z' H' s => n2 ρ' Z' H' s I2.hot) I2.hot t1 t2)⟩
  · exact q.elim
/-! ### targets -/
/-- a target: the slots of it alone change -/
def gD (K : PySem.W.Frag) (fa : Nat → Addr) (t : Tg) : TG := fun v σ H Q => ∃ ρ Z e m d e', Sim K fa ρ Z H σ e m ∧ RelD K fa ρ Z H d v ∧ assignTg t d e = some e' ∧
  ∀ σ', Sim K fa ρ Z H σ' e' m → (∀ i, i ∉ tgIx t → σ'[i]? = σ[i]?) → σ'.length = σ.length → Q σ' H
def gDs (K : PySem.W.Frag) (fa : Nat → Addr) (ts : List Tg) : TGs := fun vs σ H Q => ∃ ρ Z e m ds e', Sim K fa ρ Z H σ e m ∧ RelDs K fa ρ Z H ds vs ∧ assignTgs ts ds e = some e' ∧
  ∀ σ', Sim K fa ρ Z H σ' e' m → (∀ i, i ∉ tgIxs ts → σ'[i]? = σ[i]?) → σ'.length = σ.length → Q σ' H
theorem PG_imp {e : Expr} {t t' : TG} (h : PG X e t) (kk : ∀ v σ H Q, t' v σ H Q → t v σ H Q) : PG X e t' := ⟨fun pins s σ H v u Q I r q => h.run pins s σ H v u Q I r (kk v σ H Q q)⟩
theorem PGs_imp {e : List Expr} {t t' : TGs} (h : PGs X e t) (kk : ∀ v σ H Q, t' v σ H Q → t v σ H Q) : PGs X e t' := ⟨fun pins s σ H v u Q I r q => h.run pins s σ H v u Q I r (kk v σ H Q q)⟩
theorem assignEach_len : ∀ {es : List Expr} {env : Env}, (∀ e ∈ es, nst e = true) → (assignEach es env).length = es.length ∧ (assignEach es env).findIdx? (·.1) = none
  | [], _, _ => ⟨rfl, rfl⟩
  | e :: es, env, h => by
    obtain ⟨h1, h2⟩ := assignEach_len (es := es) (env := env) fun x hx => h x (List.mem_cons_of_mem _ hx)
    rw [assignEach_ns (h e List.mem_cons_self)]
    refine ⟨by simp [h1], ?_⟩
    rw [List.findIdx?_cons]
    simp [h2]
theorem chkTgs_ns : ∀ {ts : List Tg} {xs : List Expr}, chkTgs S ts xs = true → (∀ x ∈ xs, nst x = true) ∧ ts.length = xs.length
  | [], [], _ => ⟨fun x hx => (by cases hx), rfl⟩
  | [], _ :: _, h => by cases h
  | _ :: _, [], h => by cases h
  | t :: ts, x :: xs, h => by
    unfold chkTgs at h
    simp only [Bool.and_eq_true] at h
    obtain ⟨h1, h2⟩ := chkTgs_ns h.2
    refine ⟨fun y hy => ?_, by simp [h2]⟩
    rcases List.mem_cons.mp hy with q | q
    · rw [q]; exact h.1.1
    · exact h1 y q
theorem assignTgs_len : ∀ {ts : List Tg} {ds : List D} {e e' : Env'}, assignTgs ts ds e = some e' → ts.length = ds.length
  | [], [], _, _, _ => rfl
  | [], _ :: _, _, _, h => by simp [assignTgs] at h
  | _ :: _, [], _, _, h => by simp [assignTgs] at h
  | t :: ts, d :: ds, e, e', h => by
    have h' : ((assignTg t d e).bind fun e' => assignTgs ts ds e') = some e' := by simpa [assignTgs] using h
    obtain ⟨e1, _, h2⟩ := Option.bind_eq_some_iff.mp h'
    simp [assignTgs_len h2]
mutual
theorem s_tg (G : Good T fa ca cf k S P X) : ∀ {t : Tg} {x : Expr}, chkTg S t x = true → PG X x (gD X.K fa t)
  | .name i, x, h => by
    unfold chkTg at h
    split at h
    · rename_i n p
      obtain ⟨h1, h2, h3⟩ := loc_of G h
      refine PG_imp (pg_name (by rw [G.N]; exact G.nd) h1 h2 h3) fun v σ H Q w => ?_
      obtain ⟨ρ, Z, e, m, d, e', Sm, r, ha, kk⟩ := w
      have ea : e.set i (some d) = e' := Option.some.inj ha
      subst ea
      refine kk _ (Sm.set r) (fun j hj => ?_) (by rw [List.length_set])
      have : i ≠ j := fun q => hj (by rw [q]; exact List.mem_singleton_self _)
      rw [List.getElem?_set_ne this]
    · cases h
  | .tup ts, x, h => by
    unfold chkTg at h
    split at h
    · rename_i xs kk p
      rw [Bool.and_eq_true] at h
      obtain ⟨h1, h2⟩ := h
      obtain ⟨ns, hl⟩ := chkTgs_ns h2
      obtain ⟨l1, l2⟩ := assignEach_len (env := X.env) ns
      refine PG_imp (pg_tup (n := xs.length) (G.calm h1) (s_tgs G h2) l1 l2) fun v σ H Q w => ?_
      obtain ⟨ρ, Z, e, m, d, e', Sm, r, ha, kk⟩ := w
      cases d with
      | tup ds =>
        obtain ⟨p, vs, rfl, hp, t⟩ := r
        have ha' : assignTgs ts ds e = some e' := ha
        exact ⟨p, vs, rfl, hp, by rw [← t.length, ← assignTgs_len ha', hl], ρ, Z, e, m, ds, e', Sm, t, ha', kk⟩
      | _ => cases ha
    · cases h
theorem s_tgs (G : Good T fa ca cf k S P X) : ∀ {ts : List Tg} {xs : List Expr}, chkTgs S ts xs = true → PGs X xs (gDs X.K fa ts)
  | [], [], h => by
    refine PGs_imp pgs_nil fun v σ H Q w => ?_
    obtain ⟨ρ, Z, e, m, ds, e', Sm, r, ha, kk⟩ := w
    cases ds with
    | nil =>
      have ea : e = e' := Option.some.inj ha
      subst ea
      exact ⟨r, kk σ Sm (fun _ _ => rfl) rfl⟩
    | cons _ _ => cases ha
  | [], _ :: _, h => by cases h
  | _ :: _, [], h => by cases h
  | t :: ts, x :: xs, h => by
    unfold chkTgs at h
    simp only [Bool.and_eq_true] at h
    refine PGs_imp (pgs_cons (s_tg G h.1.2) (s_tgs G h.2) (by rw [assignEach_ns h.1.1]; rfl)) fun v σ H Q w => ?_
    obtain ⟨ρ, Z, e, m, ds, e', Sm, r, ha, kk⟩ := w
    cases ds with
    | nil => cases ha
    | cons d ds =>
      obtain ⟨v1, vs, rfl, r1, r2⟩ := r
      have ha' : ((assignTg t d e).bind fun e' => assignTgs ts ds e') = some e' := ha
      obtain ⟨e1, q1, q2⟩ := Option.bind_eq_some_iff.mp ha'
      refine ⟨v1, vs, rfl, ρ, Z, e, m, d, e1, Sm, r1, q1, fun σ1 S1 k1 l1 => ⟨ρ, Z, e1, m, ds, e', S1, r2, q2, fun σ2 S2 k2 l2 => kk σ2 S2 (fun i hi => ?_) (l2.trans l1)⟩⟩
      have hi' : i ∉ tgIx t ∧ i ∉ tgIxs ts := by
        have q : i ∉ tgIx t ++ tgIxs ts := hi
        rw [List.mem_append] at q
        exact ⟨fun z => q (.inl z), fun z => q (.inr z)⟩
      rw [k2 i hi'.2, k1 i hi'.1]
end
end
end Dx
/-! Dx, part 12: comprehensions; every expression. -/
namespace Dx
open PySem PySem.Spec PyProof.Rows L2
section
variable {K : PySem.W.Frag} {fa : Nat → Addr} {ρ ρ' ρ'' : List Addr} {Z Z' Z'' : Addr → Prop} {H H' H'' : Hp} {m m' : M} {ds : List D} {p : Addr}
mutual
theorem RelD.agree (hot : Hot Z H) (k : ∀ a, ¬ Z a → H' a = H a) : ∀ (d : D) (v : V), RelD K fa ρ Z H d v → RelD K fa ρ Z H' d v
  | .non, _, h => h
  | .bl _, _, h => h
  | .int _, _, h => h
  | .str _, _, h => h
  | .fn _, _, h => h
  | .ref i, _, h => h
  | .tup ds, _, h => by
    obtain ⟨p, vs, e, q, r⟩ := h
    refine ⟨p, vs, e, ?_, RelDs.agree hot k ds vs r⟩
    rcases q with (q | ⟨o, q⟩) | q
    · exact .inl (.inl (by rw [k p fun z => by have w := hot p z; rw [q] at w; exact w]; exact q))
    · exact .inl (.inr ⟨o, by rw [k p fun z => by have w := hot p z; rw [q] at w; exact w]; exact q⟩)
    · exact .inr q
  | .lst ds, _, h => by
    obtain ⟨p, vs, e, q, n, r⟩ := h
    exact ⟨p, vs, e, by rw [k p n]; exact q, n, RelDs.agree hot k ds vs r⟩
  | .scr ds, _, h => by
    obtain ⟨p, vs, e, q, r⟩ := h
    refine ⟨p, vs, e, ?_, RelDs.agree hot k ds vs r⟩
    rcases q with ⟨o, q⟩ | q
    · exact .inl ⟨o, by rw [k p fun z => by have w := hot p z; rw [q] at w; exact w]; exact q⟩
    · exact .inr q
theorem RelDs.agree (hot : Hot Z H) (k : ∀ a, ¬ Z a → H' a = H a) : ∀ (ds : List D) (vs : List V), RelDs K fa ρ Z H ds vs → RelDs K fa ρ Z H' ds vs
  | [], _, h => h
  | d :: ds, _, h => by
    obtain ⟨v, r, e, q, t⟩ := h
    exact ⟨v, r, e, RelD.agree hot k d v q, RelDs.agree hot k ds r t⟩
end
/-- a list in the making stays through steps -/
theorem Fresh.later (hot : Hot Z H) (f : Fresh K fa ρ Z H ρ' Z' H' m ds p) (s : Step ρ' Z' H' ρ'' Z'' H'') (I : MOk K fa ρ'' Z'' H'' m') : Fresh K fa ρ Z H ρ'' Z'' H'' m' ds p := by
  obtain ⟨vs, hv, r⟩ := f.is_
  refine ⟨f.step.trans hot s, I, s.hotk p f.hot f.np, fun h => ?_, f.new, vs, s.keep p _ hv (.inl f.np), RelDs.mono s f.mok.hot ds vs r⟩
  have e := s.newr p h f.np
  rw [hv] at e
  cases e
/-- .. and grows -/
theorem Fresh.app {d : D} {v : V} {vs : List V} (f : Fresh K fa ρ Z H ρ' Z' H' m ds p) (hv : H' p = some (.lst vs)) (r : RelD K fa ρ' Z' H' d v) : Fresh K fa ρ Z H ρ' Z' (upd H' p (.lst (vs ++ [v]))) m (ds ++ [d]) p := by
  obtain ⟨vs', hv', rs⟩ := f.is_
  rw [hv] at hv'
  cases hv'
  have I := f.mok
  have ag : ∀ a, ¬ Z' a → (upd H' p (.lst (vs ++ [v]))) a = H' a := fun a h => upd_ne fun e => h (by rw [e]; exact f.hot)
  refine ⟨⟨f.step.pre, f.step.newr, f.step.newz, fun a o e n => ?_, f.step.hotk⟩, ⟨I.len, I.nd, fun a h => ?_, fun a h => ?_, fun i o e ne a ha => ?_⟩, f.hot, f.np, f.new, vs ++ [v], upd_same, RelDs.agree I.hot ag _ _ (rs.append (RelDs.one r))⟩
  · rw [upd_ne (ne_of_none e f.new)]
    exact f.step.keep a o e n
  · by_cases e : a = p
    · rw [e, upd_same]; intro z; cases z
    · rw [upd_ne e]; exact I.there a h
  · by_cases e : a = p
    · rw [e, upd_same]; trivial
    · rw [upd_ne e]; exact I.hot a h
  · obtain ⟨z, ro⟩ := I.live i o e ne a ha
    refine ⟨z, ?_⟩
    have nap : a ≠ p := fun z => f.np (z ▸ List.mem_of_getElem? ha)
    cases o with
    | gone => trivial
    | lst zs =>
      obtain ⟨ws, hw, rr⟩ := ro
      exact ⟨ws, by rw [upd_ne nap]; exact hw, RelDs.agree I.hot ag zs ws rr⟩
end
theorem wipe_in {σ : L2.St} {i : Nat} : ∀ {vs : List Nat}, i ∈ vs → i < σ.length → (wipe σ vs)[i]? = some none
  | v :: vs, h, hl => by
    unfold wipe
    by_cases e : v = i
    · subst e
      rw [List.getElem?_set_self (by rw [wipe_length]; exact hl)]
    · rw [List.getElem?_set_ne e]
      rcases List.mem_cons.mp h with q | q
      · exact absurd q.symm e
      · exact wipe_in q hl
theorem wipe_eq {σ σ2 : L2.St} {vs : List Nat} (h : ∀ i, i ∉ vs → σ2[i]? = (wipe σ vs)[i]?) (hl : σ2.length = (wipe σ vs).length) : wipe σ2 vs = wipe σ vs := by
  rw [wipe_length] at hl
  refine List.ext_getElem? fun i => ?_
  by_cases q : i ∈ vs
  · by_cases l : i < σ.length
    · rw [wipe_in q l, wipe_in q (by rw [hl]; exact l)]
    · rw [List.getElem?_eq_none (by rw [wipe_length]; omega), List.getElem?_eq_none (by rw [wipe_length]; omega)]
  · rw [wipe_out q, h i q]
theorem compL_noerr {f : D → M → Res (Option D)} : ∀ (xs : List D) (m : M) (c : Nat) (m' : M), compL f xs m ≠ .err c m'
  | [], m, c, m', h => by cases h
  | x :: xs, m, c, m', h => by
    unfold compL at h
    cases q : f x m with
    | ok o m1 =>
      rw [q] at h
      have h' : ((compL f xs m1).bind fun r m => Res.ok (consO o r) m) = .err c m' := h
      cases q2 : compL f xs m1 with
      | ok r m2 => rw [q2] at h'; cases h'
      | err c2 m2 => exact compL_noerr xs m1 c2 m2 q2
      | bad => rw [q2] at h'; cases h'
    | err c1 m1 => rw [q] at h; cases h
    | bad => rw [q] at h; cases h
theorem compL_cons {f : D → M → Res (Option D)} {x : D} {xs : List D} {m m' : M} {rs : List D} (h : compL f (x :: xs) m = .ok rs m') :
    ∃ o m1 r, f x m = .ok o m1 ∧ compL f xs m1 = .ok r m' ∧ rs = consO o r := by
  unfold compL at h
  cases q : f x m with
  | ok o m1 =>
    rw [q] at h
    have h' : ((compL f xs m1).bind fun r m => Res.ok (consO o r) m) = .ok rs m' := h
    cases q2 : compL f xs m1 with
    | ok r m2 =>
      rw [q2] at h'
      have h'' : Res.ok (consO o r) m2 = Res.ok rs m' := h'
      injection h'' with e1 e2
      exact ⟨o, m1, r, rfl, by rw [q2, e2], e1.symm⟩
    | err c2 m2 => rw [q2] at h'; cases h'
    | bad => rw [q2] at h'; cases h'
  | err c1 m1 => rw [q] at h; cases h
  | bad => rw [q] at h; cases h
section
variable {T : Tab} {fa ca : Nat → Addr} {cf : Cfg} {k : Nat} {S : SC} {P : L2.St → Prop} {X : Cx} {W : WX}
abbrev W0 : WX := fun _ _ _ _ => False
abbrev P1 : L2.St → Prop := fun _ => True
theorem Good.blk (G : Good T fa ca cf k S P X) (scope : Scope) (s : Shared) (H : Hp) (C : Addr) (cl : List (Str × Addr)) (fp : List Addr) : Good T fa ca cf k (S.blk scope) P1 (X.blk s H scope (compEnvC scope cl C X.env) fp) where
  N := G.N
  sc := by
    show relS scope X.env.scope = relS scope S.sc
    rw [G.sc]
  nd := G.nd
  fnb := rfl
  calm := G.calm
  room := G.room
  exc := fun i h => by cases h
  f := G.f
theorem s_tyes : PTs X [] (RT X fa ca P W fun _ m => .ok true m) := by
  refine ⟨fun pins s σ H Q I h => pts_nil.run pins s σ H Q I ?_⟩
  obtain ⟨_, ρ, Z, e, m, Sm, q⟩ := h
  exact q.out Sm.mok rfl
theorem s_tone {c : Expr} {f : Env' → M → Res Bool} (h : PT X c (RT X fa ca P W f)) : PTs X [c] (RT X fa ca P W f) := pts_one h
/-- one turn of a comprehension, by data -/
def turnC (tg : Tg) (e0 : Env') (fc : Env' → M → Res Bool) (fe : Env' → M → Res D) (x : D) (m : M) : Res (Option D) := match assignTg tg x e0 with
  | some e' => (fc e' m).bind fun k m => if k then (fe e' m).bind fun d m => .ok (some d) m else .ok none m
  | none => .bad
theorem own_snd {N : List Str} : ∀ own : List Nat, (own.map fun i => (N.getD i Str.empty, i)).map (·.2) = own
  | [] => rfl
  | i :: own => by rw [List.map_cons, List.map_cons, own_snd own]
/-- a comprehension's reading, by data -/
theorem comp_read {tg : Tg} {own : List Nat} {fi : Env' → M → Res Src} {fc : Env' → M → Res Bool} {fe : Env' → M → Res D} (hix : (tgIx tg).all own.contains = true) {σ : L2.St} {H : Hp} {Q : VK}
    (h : RF X fa ca P W (fun e m => (fi e m).bind fun s m => match s with
      | .seq xs => if lineOk xs.length then compL (turnC tg (wipeE e own) fc fe) xs m else .bad
      | .rf _ _ => .bad) σ H Q) :
    tLc (tI X.K fa ca P W fi) (gD X.K fa tg) (tR X.K fa ca P1 W0 (rEq Bool) fc) (tR X.K fa ca P1 W0 (rD X.K fa) fe) own σ H Q := by
  obtain ⟨p, ρ, Z, e, m, Sm, h⟩ := h
  refine ⟨p, ρ, Z, e, m, Sm, ?_⟩
  dsimp only at h
  cases q : fi e m with
  | err c m1 => rw [q] at h; exact h
  | bad => rw [q] at h; exact h
  | ok s m1 =>
    rw [q] at h
    cases s with
    | rf r n => exact (show False from h).elim
    | seq xs =>
      intro ρ1 Z1 H1 J s1 I1 go D hD
      by_cases hl : lineOk xs.length = true
      rotate_left
      · have h' : PF X.K fa ca W σ ρ Z H (if lineOk xs.length then compL (turnC tg (wipeE e own) fc fe) xs m1 else .bad) (fun ρ' Z' H' m ds p => Fresh X.K fa ρ Z H ρ' Z' H' m ds p) Q := h
        rw [if_neg hl] at h'
        exact h'.elim
      have h' : PF X.K fa ca W σ ρ Z H (if lineOk xs.length then compL (turnC tg (wipeE e own) fc fe) xs m1 else .bad) (fun ρ' Z' H' m ds p => Fresh X.K fa ρ Z H ρ' Z' H' m ds p) Q := h
      rw [if_pos hl] at h'
      cases q2 : compL (turnC tg (wipeE e own) fc fe) xs m1 with
      | err c m2 => exact absurd q2 (compL_noerr xs m1 c m2)
      | bad => rw [q2] at h'; exact h'.elim
      | ok ds m2 =>
        rw [q2] at h'
        have hot := Sm.mok.hot
        have hot1 := I1.hot
        -- from the state at the walk's start to the end
        have fin : ∀ ρ' Z' H', Fresh X.K fa ρ1 Z1 H1 ρ' Z' H' m2 ds D → Q (.ref D) H' := fun ρ' Z' H' F => by
          refine h' ρ' Z' H' D ⟨s1.trans hot F.step, F.mok, F.hot, F.np, ?_, F.is_⟩
          cases z : H D with
          | none => rfl
          | some o =>
            have np1 : D ∉ ρ1 := fun y => F.np (F.step.old y)
            have e := F.new
            rw [s1.keep D o z (.inl fun y => np1 (s1.old y))] at e
            cases e
        have F0 : Fresh X.K fa ρ1 Z1 H1 ρ1 (fun a => Z1 a ∨ a = D) (upd H1 D (.lst [])) m1 [] D := Fresh.of_laid hot1 Step.refl I1 rfl hD
        refine ⟨fun i n H' => n = xs.length - i ∧ i ≤ xs.length ∧ ∃ ρi Zi mi acc rest, Fresh X.K fa ρ1 Z1 H1 ρi Zi H' mi acc D ∧ compL (turnC tg (wipeE e own) fc fe) (xs.drop i) mi = .ok rest m2 ∧ acc ++ rest = ds ∧ acc.length ≤ i,
          ⟨xs.length, rfl, Nat.zero_le _, ρ1, _, m1, [], ds, F0, q2, rfl, Nat.le_refl _⟩, ?_⟩
        rintro i n H' ⟨rfl, hi, ρi, Zi, mi, acc, rest, F, hr, ha, hal⟩
        obtain ⟨g1, g2⟩ := go ρi Zi H' F.step F.mok.hot
        by_cases hlt : i < xs.length
        · right
          have ex : xs[i]? = some xs[i] := List.getElem?_eq_getElem hlt
          obtain ⟨g3, g4⟩ := g1 i _ ex
          refine ⟨g3, fun H'' => (fun i n H' => n = xs.length - i ∧ i ≤ xs.length ∧ ∃ ρi Zi mi acc rest, Fresh X.K fa ρ1 Z1 H1 ρi Zi H' mi acc D ∧ compL (turnC tg (wipeE e own) fc fe) (xs.drop i) mi = .ok rest m2 ∧ acc ++ rest = ds ∧ acc.length ≤ i) (i + 1) (xs.length - (i + 1)) H'',
            fun H'' w => ⟨xs.length - (i + 1), by omega, w⟩, fun x H2 yl => ?_⟩
          obtain ⟨s2, I2, r2⟩ := g4 x H2 yl
          have I2 := I2 mi F.mok
          have F2 := F.later hot1 s2 I2
          rw [List.drop_eq_getElem_cons hlt] at hr
          obtain ⟨o, mo, r, h3, h4, h5⟩ := compL_cons hr
          unfold turnC at h3
          split at h3
          · rename_i e' he'
            have Sb : Sim X.K fa ρi Zi H2 (wipe σ own) (wipeE e own) mi := ((Sm.step s1 I1).wipe own).step F2.step I2
            refine ⟨ρi, Zi, _, mi, _, e', Sb, r2, he', fun σ2 S2 kx lx => ⟨?_, ?_⟩⟩
            · refine wipe_eq (fun j hj => ?_) lx
              refine kx j fun hjx => hj ?_
              have := List.all_eq_true.mp hix j hjx
              simpa using this
            · refine ⟨trivial, ρi, Zi, e', mi, S2, ?_⟩
              cases q3 : fc e' mi with
              | err c m3 => rw [q3] at h3; cases h3
              | bad => rw [q3] at h3; cases h3
              | ok b m3 =>
                rw [q3] at h3
                intro ρ3 Z3 H3 b' s3 I3 eb
                have eb' : b = b' := eb
                subst eb'
                have F3 := F2.later hot1 s3 I3
                cases b with
                | false =>
                  have h3' : (Res.ok none m3 : Res (Option Dx.D)) = .ok o mo := h3
                  injection h3' with e1 e2
                  subst e1 e2
                  refine iteF ⟨rfl, by omega, ρ3, Z3, m3, acc, r, F3, h4, ?_, by omega⟩
                  rw [← ha, h5]
                  rfl
                | true =>
                  have h3' : ((fe e' m3).bind fun d m => Res.ok (some d) m) = .ok o mo := h3
                  refine iteT ⟨trivial, ρ3, Z3, e', m3, S2.step s3 I3, ?_⟩
                  cases q4 : fe e' m3 with
                  | err c m4 => rw [q4] at h3'; cases h3'
                  | bad => rw [q4] at h3'; cases h3'
                  | ok d m4 =>
                    rw [q4] at h3'
                    have h3'' : (Res.ok (some d) m4 : Res (Option Dx.D)) = .ok o mo := h3'
                    injection h3'' with e1 e2
                    subst e1 e2
                    intro ρ4 Z4 H4 v s4 I4 rv
                    have F4 := F3.later hot1 s4 I4
                    obtain ⟨vs, hv, rr⟩ := F4.is_
                    have lvs := rr.length
                    have hx := of_decide_eq_true hl
                    refine ⟨vs, hv, by rw [sizeLine_eq]; omega, rfl, by omega, ρ4, Z4, m4, acc ++ [d], r, F4.app hv rv, h4, ?_, ?_⟩
                    · rw [List.append_assoc, ← ha, h5]; rfl
                    · rw [List.length_append]; simp only [List.length_singleton]; omega
          · cases h3
        · have ei : i = xs.length := by omega
          subst ei
          rw [List.drop_length] at hr
          have hr' : (Res.ok [] mi : Res (List Dx.D)) = .ok rest m2 := hr
          injection hr' with e1 e2
          subst e1 e2
          rw [List.append_nil] at ha
          subst ha
          exact .inl ⟨g2, fin ρi Zi H' F⟩
theorem s_comp {y tg' it' : Expr} {ifs : List Expr} {scope : Scope} {pos : Pos} {tg : Tg} {own : List Nat} {fi : Env' → M → Res Src} {fc : Env' → M → Res Bool} {fe : Env' → M → Res D} (G : Good T fa ca cf k S P X) (hc : S.calm = true) (hs : notSet it' = true)
    (hb : blkC S.N S.sc scope (own.map fun i => (S.N.getD i Str.empty, i)) = true) (hix : (tgIx tg).all own.contains = true)
    (hi : PI X tg' it' (tI X.K fa ca P W fi)) (hg : chkTg (S.blk scope) tg tg' = true)
    (ht : ∀ Xb, Xb.K = X.K → Good T fa ca cf k (S.blk scope) P1 Xb → PTs Xb ifs (RT Xb fa ca P1 W0 fc)) (he : ∀ Xb, Xb.K = X.K → Good T fa ca cf k (S.blk scope) P1 Xb → PE Xb y (RE Xb fa ca P1 W0 fe)) :
    PE X (.ListComp y [⟨tg', it', ifs, 0⟩] scope pos) (RF X fa ca P W fun e m => (fi e m).bind fun s m => match s with
      | .seq xs => if lineOk xs.length then compL (turnC tg (wipeE e own) fc fe) xs m else .bad
      | .rf _ _ => .bad) := by
  have hm : (own.map fun i => (S.N.getD i Str.empty, i)).map (·.2) = own := own_snd own
  have ok : BlkOk X.N X.env.scope scope (own.map fun i => (S.N.getD i Str.empty, i)) := by
    rw [G.N, G.sc]
    exact blkOk_by hb
  have main := pe_lc (pos := pos) (elt := y) (ifs := ifs) (G.calm hc) (by rw [G.N]; exact G.nd) hi ok (g := gD X.K fa tg) (tt := tR X.K fa ca P1 W0 (rEq Bool) fc) (te := tR X.K fa ca P1 W0 (rD X.K fa) fe)
    (fun s H C cl fp => s_tg (G.blk scope s H C cl fp) hg) (fun s H C cl fp => ht _ rfl (G.blk scope s H C cl fp)) (fun s H C cl fp => he _ rfl (G.blk scope s H C cl fp)) (notSet_iter hs)
  rw [hm] at main
  exact main.imp fun σ H Q h => comp_read hix h
end
end Dx
/-! Dx, part 13: every expression runs as the evaluator says. -/
namespace Dx
open PySem PySem.Spec PyProof.Rows L2
theorem evEs_len {c : Cfg} : ∀ {es : CEs} {xs : List Expr} {T : Tab} {S : SC} {e : Env'} {m : M} {ds : List D} {m1 : M}, chkEs T S es xs = true → evEs c es e m = .ok ds m1 → ds.length = xs.length
  | .nil, [], _, _, _, _, _, _, _, h => by
    unfold evEs at h
    injection h with h1 h2
    rw [← h1]; rfl
  | .nil, _ :: _, _, _, _, _, _, _, hc, _ => by cases hc
  | .cons _ _, [], _, _, _, _, _, _, hc, _ => by cases hc
  | .cons a es, x :: xs, T, S, e, m, ds, m1, hc, h => by
    unfold chkEs at hc
    simp only [Bool.and_eq_true] at hc
    unfold evEs at h
    cases q : evE c a e m with
    | ok d m2 =>
      rw [q] at h
      have h' : ((evEs c es e m2).bind fun ds m => Res.ok (d :: ds) m) = .ok ds m1 := h
      cases q2 : evEs c es e m2 with
      | ok r m3 =>
        rw [q2] at h'
        have h'' : Res.ok (d :: r) m3 = Res.ok ds m1 := h'
        injection h'' with e1 e2
        rw [← e1, List.length_cons, List.length_cons, evEs_len hc.2 q2]
      | err c2 m3 => rw [q2] at h'; cases h'
      | bad => rw [q2] at h'; cases h'
    | err c2 m3 => rw [q] at h; cases h
    | bad => rw [q] at h; cases h
theorem chkKs_some {T : Tab} {S : SC} : ∀ {es : CEs} {xs : List Keyword}, chkKs T S es xs = true → (∀ q ∈ xs, q.arg.isSome = true) ∧ (xs.filterMap (·.arg)).length = xs.length
  | .nil, [], _ => ⟨fun q h => (by cases h), rfl⟩
  | .nil, _ :: _, h => by cases h
  | .cons _ _, [], h => by cases h
  | .cons e es, x :: xs, h => by
    unfold chkKs at h
    simp only [Bool.and_eq_true] at h
    obtain ⟨h1, h2⟩ := chkKs_some h.2
    refine ⟨fun q hq => ?_, ?_⟩
    · rcases List.mem_cons.mp hq with z | z
      · rw [z]; exact h.1.1
      · exact h1 q z
    · obtain ⟨y, hy⟩ := Option.isSome_iff_exists.mp h.1.1
      rw [List.filterMap_cons, hy]
      simp [h2]
theorem evKs_len {c : Cfg} : ∀ {es : CEs} {xs : List Keyword} {T : Tab} {S : SC} {e : Env'} {m : M} {ds : List D} {m1 : M}, chkKs T S es xs = true → evEs c es e m = .ok ds m1 → ds.length = xs.length
  | .nil, [], _, _, _, _, _, _, _, h => by
    unfold evEs at h
    injection h with h1 h2
    rw [← h1]; rfl
  | .nil, _ :: _, _, _, _, _, _, _, hc, _ => by cases hc
  | .cons _ _, [], _, _, _, _, _, _, hc, _ => by cases hc
  | .cons a es, x :: xs, T, S, e, m, ds, m1, hc, h => by
    unfold chkKs at hc
    simp only [Bool.and_eq_true] at hc
    unfold evEs at h
    cases q : evE c a e m with
    | ok d m2 =>
      rw [q] at h
      have h' : ((evEs c es e m2).bind fun ds m => Res.ok (d :: ds) m) = .ok ds m1 := h
      cases q2 : evEs c es e m2 with
      | ok r m3 =>
        rw [q2] at h'
        have h'' : Res.ok (d :: r) m3 = Res.ok ds m1 := h'
        injection h'' with e1 e2
        rw [← e1, List.length_cons, List.length_cons, evKs_len hc.2 q2]
      | err c2 m3 => rw [q2] at h'; cases h'
      | bad => rw [q2] at h'; cases h'
    | err c2 m3 => rw [q] at h; cases h
    | bad => rw [q] at h; cases h
section
variable {T : Tab} {fa ca : Nat → Addr} {cf : Cfg} {k : Nat}
theorem hu_room {A : Around} (r : Room k A) : A.units + 65 < cLine := by have := r.un; omega
mutual
theorem sE : ∀ (c : CE) {S : SC} {P : L2.St → Prop} {X : Cx} {W : WX} {x : Expr}, Good T fa ca cf k S P X → Takes X W → chkE T S c x = true → PE X x (RE X fa ca P W (evE cf c))
  | .var i, S, P, X, W, x, G, tk, h => by
    unfold chkE at h
    split at h
    · exact s_var G h
    · cases h
  | .int i, S, P, X, W, x, G, tk, h => by
    unfold chkE at h
    split at h
    · have e := of_decide_eq_true h
      subst e
      exact s_const pe_int fun _ _ _ => rfl
    · cases h
  | .bl b, S, P, X, W, x, G, tk, h => by
    unfold chkE at h
    split at h
    · have e := of_decide_eq_true h
      subst e
      exact s_const pe_bl fun _ _ _ => rfl
    · cases h
  | .non, S, P, X, W, x, G, tk, h => by
    unfold chkE at h
    split at h
    · exact s_const pe_non fun _ _ _ => rfl
    · cases h
  | .str z, S, P, X, W, x, G, tk, h => by
    unfold chkE at h
    split at h
    · have e := of_decide_eq_true h
      subst e
      exact s_const pe_str fun _ _ _ => rfl
    · cases h
  | .glob i, S, P, X, W, x, G, tk, h => by
    unfold chkE at h
    split at h
    · split at h
      · rename_i n p q hq
        rw [Bool.and_eq_true] at h
        have e := of_decide_eq_true h.1
        subst e
        obtain ⟨h1, v, u, h2, h3, h4⟩ := G.f.glo i _ hq
        obtain ⟨g1, g2⟩ := glo_of G h.2
        have e0 : evE cf (.glob i) = fun _ m => .ok q.2 m := by
          funext e m
          show Res.of (cf.glob i) m = _
          rw [h1]; rfl
        rw [e0]
        exact s_const (pe_glob g1 h2 h3 g2) h4
      · cases h
    · cases h
  | .fn i, S, P, X, W, x, G, tk, h => by
    unfold chkE at h
    split at h
    · rw [Bool.and_eq_true] at h
      obtain ⟨h1, _⟩ := G.f.fns i _ (of_decide_eq_true h.1)
      obtain ⟨g1, g2⟩ := glo_of G h.2
      exact s_const (pe_glob g1 h1 (v := .ref (fa i)) rfl g2) fun _ _ _ => rfl
    · cases h
  | .bin o a b, S, P, X, W, x, G, tk, h => by
    unfold chkE at h
    split at h
    · simp only [Bool.and_eq_true] at h
      have e := of_decide_eq_true h.1.1
      subst e
      exact (pe_op (opB (fa := fa) o) (sE a G tk h.1.2) (sE b G tk h.2)).imp fun σ H Q q => tOp_bin (kk := fun m => evBin m o) q
    · cases h
  | .neg a, S, P, X, W, x, G, tk, h => by
    unfold chkE at h
    split at h
    · exact s_neg (sE a G tk h)
    · cases h
  | .cmp o a b, S, P, X, W, x, G, tk, h => by
    unfold chkE at h
    split at h
    · simp only [Bool.and_eq_true] at h
      obtain ⟨⟨⟨⟨⟨h1, h2⟩, h3⟩, h4⟩, h5⟩, h6⟩ := h
      have e := of_decide_eq_true h2
      subst e
      exact (pe_cmpR (opC (fa := fa) (hu_room (G.room h1)) o) (sE a G tk h5) (sE b G tk h6) (by simpa using h3)).imp fun σ H Q q => tOp_cmp (kk := evCmp o) q
    · cases h
  | .chain o p a b c, S, P, X, W, x, G, tk, h => by
    unfold chkE at h
    split at h
    · simp only [Bool.and_eq_true] at h
      obtain ⟨⟨⟨⟨⟨⟨⟨⟨⟨h1, h2⟩, h3⟩, h4⟩, h5⟩, h6⟩, h7⟩, h8⟩, h9⟩, h10⟩ := h
      have e := of_decide_eq_true h2
      subst e
      have e := of_decide_eq_true h5
      subst e
      exact (pe_chain (opC (fa := fa) (hu_room (G.room h1)) o) (opC (fa := fa) (hu_room (G.room h1)) p) (sE a G tk h8) (sE b G tk h9) (sE c G tk h10) (last_marks (of_decide_eq_true h6) (of_decide_eq_true h7))).imp fun σ H Q q => tChain_of (k1 := evCmp o) (k2 := evCmp p) q
    · cases h
  | .andV es, S, P, X, W, x, G, tk, h => by
    unfold chkE at h
    split at h
    · exact sAnds es G tk h
    · cases h
  | .orV es, S, P, X, W, x, G, tk, h => by
    unfold chkE at h
    split at h
    · exact sOrs es G tk h
    · cases h
  | .notV a, S, P, X, W, x, G, tk, h => by
    unfold chkE at h
    split at h
    · exact s_not (sE a G tk h)
    · cases h
  | .orT a b, S, P, X, W, x, G, tk, h => by
    unfold chkE at h
    split at h
    · rw [Bool.and_eq_true] at h
      exact s_orT (sE a G tk h.1) (sE b G tk h.2)
    · cases h
  | .ife t a b, S, P, X, W, x, G, tk, h => by
    unfold chkE at h
    split at h
    · simp only [Bool.and_eq_true] at h
      exact s_ife (sT t G tk h.1.1) (sE a G tk h.1.2) (sE b G tk h.2)
    · cases h
  | .tup es, S, P, X, W, x, G, tk, h => by
    unfold chkE at h
    split at h
    · exact s_tup (sEs es G tk h)
    · cases h
  | .lv l, S, P, X, W, x, G, tk, h => s_lv (sL l G tk h)
  | .lm l, S, P, X, W, x, G, tk, h => s_lm (sL l G tk h)
  | .frz a, S, P, X, W, x, G, tk, h => s_frz (sE a G tk h)
  | .idx a b, S, P, X, W, x, G, tk, h => by
    unfold chkE at h
    split at h
    · simp only [Bool.and_eq_true] at h
      exact s_idx h.1.1 (sE a G tk h.1.2) (sE b G tk h.2)
    · cases h
  | .slc a lo hi, S, P, X, W, x, G, tk, h => by
    unfold chkE at h
    split at h
    · simp only [Bool.and_eq_true] at h
      exact s_slc (sE a G tk h.1.1) (sO lo G tk h.1.2) (sO hi G tk h.2)
    · cases h
  | .call f es, S, P, X, W, x, G, tk, h => by
    unfold chkE at h
    split at h
    · simp only [Bool.and_eq_true] at h
      exact s_call G tk h.1.1.1 (of_decide_eq_true h.1.1.2) h.1.2 (chkEs_ns h.2) (sEs es G tk h.2)
    · simp only [Bool.and_eq_true] at h
      cases es with
      | nil => exact s_call0 G tk h.1.1.1 (of_decide_eq_true h.1.1.2) h.1.2
      | cons _ _ => cases h.2
    · cases h
  | .callL i es, S, P, X, W, x, G, tk, h => by
    unfold chkE at h
    split at h
    · simp only [Bool.and_eq_true] at h
      exact s_callL G tk h.1.1 h.1.2 (chkEs_ns h.2) (sEs es G tk h.2)
    · cases h
  | .callK f es ks pm, S, P, X, W, x, G, tk, h => by
    unfold chkE at h
    split at h
    · simp only [Bool.and_eq_true] at h
      obtain ⟨⟨⟨⟨⟨h1, h2⟩, h3⟩, h4⟩, h5⟩, h6⟩ := h
      obtain ⟨k1, k2⟩ := chkKs_some h5
      refine s_callK G tk h1 (of_decide_eq_true h2) h3 (chkEs_ns h4) k1 (of_decide_eq_true h6) (fun hy e m => ?_) (fun e m ds m1 q => evEs_len h4 q) (fun e m ds m1 q => by rw [k2]; exact evKs_len h5 q) (sEs es G tk h4) (sKs ks G tk h5)
      rw [hy] at h4
      cases es with
      | nil => rfl
      | cons _ _ => cases h4
    · cases h
  | .blt b es, S, P, X, W, x, G, tk, h => by
    unfold chkE at h
    split at h
    · simp only [Bool.and_eq_true] at h
      exact s_blt G h.1.1.1 (of_decide_eq_true h.1.1.2) h.1.2 (chkEs_ns h.2) (sEs es G tk h.2)
    · cases h
  | .isI a ts, S, P, X, W, x, G, tk, h => by
    unfold chkE at h
    split at h
    · rename_i n p y z p2
      simp only [Bool.and_eq_true] at h
      obtain ⟨⟨⟨⟨⟨⟨h1, h2⟩, h3⟩, h4⟩, h5⟩, h6⟩, h7⟩ := h
      split at h7
      · rename_i zs kk p3
        simp only [Bool.and_eq_true] at h7
        exact s_isIT G (of_decide_eq_true h2) h3 h4 (fun z hz => List.all_eq_true.mp h7.1.2 z hz) (of_decide_eq_true h7.1.1) h7.2 (sE a G tk h6)
      · rw [Bool.and_eq_true] at h7
        obtain ⟨t, rfl⟩ := List.length_eq_one_iff.mp (of_decide_eq_true h7.1)
        exact s_isI1 G (of_decide_eq_true h2) h3 h4 h5 h7.2 (sE a G tk h6)
    · cases h
  | .excIs i, S, P, X, W, x, G, tk, h => by
    unfold chkE at h
    split at h
    · simp only [Bool.and_eq_true] at h
      obtain ⟨⟨⟨⟨⟨⟨h1, h2⟩, h3⟩, h4⟩, h5⟩, h6⟩, h7⟩ := h
      exact s_excIs G (of_decide_eq_true h2) h3 (of_decide_eq_true h4) h5 (of_decide_eq_true h6) h7
    · cases h
  | .callP f es, S, P, X, W, x, G, tk, h => by
    unfold chkE at h
    split at h
    · simp only [Bool.and_eq_true] at h
      exact s_callP G tk h.1.1.1 (of_decide_eq_true h.1.1.2) h.1.2 (chkEs_ns h.2) (sEs es G tk h.2)
    · cases h
  | .stuck, S, P, X, W, x, G, tk, h => ⟨fun pins s σ H Q I q => by
      obtain ⟨_, ρ, Z, e, m, _, q⟩ := q
      exact (show False from q).elim⟩
theorem sAnds : ∀ (es : CEs) {S : SC} {P : L2.St → Prop} {X : Cx} {W : WX} {xs : List Expr} {pos : Pos}, Good T fa ca cf k S P X → Takes X W → chkEs T S es xs = true → PE X (.BoolOp .And xs pos) (RE X fa ca P W (evAnds cf es))
  | .nil, S, P, X, W, xs, pos, G, tk, h => ⟨fun pins s σ H Q I q => by
      obtain ⟨_, ρ, Z, e, m, _, q⟩ := q
      exact (show False from q).elim⟩
  | .cons a .nil, S, P, X, W, xs, pos, G, tk, h => by
    unfold chkEs at h
    split at h
    · rename_i x xs
      simp only [Bool.and_eq_true] at h
      cases xs with
      | nil => exact s_and1 (sE a G tk h.1.2)
      | cons _ _ => cases h.2
    · cases h
  | .cons a (.cons b es), S, P, X, W, xs, pos, G, tk, h => by
    unfold chkEs at h
    split at h
    · rename_i x xs
      simp only [Bool.and_eq_true] at h
      cases xs with
      | nil => cases h.2
      | cons y ys => exact s_and (sE a G tk h.1.2) (sAnds (.cons b es) G tk h.2)
    · cases h
theorem sOrs : ∀ (es : CEs) {S : SC} {P : L2.St → Prop} {X : Cx} {W : WX} {xs : List Expr} {pos : Pos}, Good T fa ca cf k S P X → Takes X W → chkEs T S es xs = true → PE X (.BoolOp .Or xs pos) (RE X fa ca P W (evOrs cf es))
  | .nil, S, P, X, W, xs, pos, G, tk, h => ⟨fun pins s σ H Q I q => by
      obtain ⟨_, ρ, Z, e, m, _, q⟩ := q
      exact (show False from q).elim⟩
  | .cons a .nil, S, P, X, W, xs, pos, G, tk, h => by
    unfold chkEs at h
    split at h
    · rename_i x xs
      simp only [Bool.and_eq_true] at h
      cases xs with
      | nil => exact s_and1 (sE a G tk h.1.2)
      | cons _ _ => cases h.2
    · cases h
  | .cons a (.cons b es), S, P, X, W, xs, pos, G, tk, h => by
    unfold chkEs at h
    split at h
    · rename_i x xs
      simp only [Bool.and_eq_true] at h
      cases xs with
      | nil => cases h.2
      | cons y ys => exact s_or (sE a G tk h.1.2) (sOrs (.cons b es) G tk h.2)
    · cases h
theorem sEs : ∀ (es : CEs) {S : SC} {P : L2.St → Prop} {X : Cx} {W : WX} {xs : List Expr}, Good T fa ca cf k S P X → Takes X W → chkEs T S es xs = true → PA X xs (RA X fa ca P W (evEs cf es))
  | .nil, S, P, X, W, xs, G, tk, h => by
    unfold chkEs at h
    split at h
    · exact s_nil
    · cases h
  | .cons a es, S, P, X, W, xs, G, tk, h => by
    unfold chkEs at h
    split at h
    · simp only [Bool.and_eq_true] at h
      exact s_cons h.1.1 (sE a G tk h.1.2) (sEs es G tk h.2)
    · cases h
theorem sKs : ∀ (es : CEs) {S : SC} {P : L2.St → Prop} {X : Cx} {W : WX} {xs : List Keyword}, Good T fa ca cf k S P X → Takes X W → chkKs T S es xs = true → PK X xs (RA X fa ca P W (evEs cf es))
  | .nil, S, P, X, W, xs, G, tk, h => by
    unfold chkKs at h
    split at h
    · exact s_knil
    · cases h
  | .cons a es, S, P, X, W, xs, G, tk, h => by
    unfold chkKs at h
    split at h
    · rename_i x xs
      simp only [Bool.and_eq_true] at h
      obtain ⟨nm, v, kp⟩ := x
      exact s_kcons (sE a G tk h.1.2) (sKs es G tk h.2)
    · cases h
theorem sO : ∀ (o : CO) {S : SC} {P : L2.St → Prop} {X : Cx} {W : WX} {x : Option Expr}, Good T fa ca cf k S P X → Takes X W → chkO T S o x = true → PO X x (RO X fa ca P W (evO cf o))
  | .none, S, P, X, W, x, G, tk, h => by
    unfold chkO at h
    split at h
    · exact s_onone
    · cases h
  | .some a, S, P, X, W, x, G, tk, h => by
    unfold chkO at h
    split at h
    · exact s_osome (sE a G tk h)
    · cases h
theorem sL : ∀ (l : CL) {S : SC} {P : L2.St → Prop} {X : Cx} {W : WX} {x : Expr}, Good T fa ca cf k S P X → Takes X W → chkL T S l x = true → PE X x (RF X fa ca P W (evL cf l))
  | .disp es, S, P, X, W, x, G, tk, h => by
    unfold chkL at h
    split at h
    · exact s_disp (sEs es G tk h)
    · cases h
  | .comp elt tg it cond own, S, P, X, W, x, G, tk, h => by
    unfold chkL at h
    split at h
    · rename_i y g scope pos
      obtain ⟨tg', it', ifs, ia⟩ := g
      simp only [Bool.and_eq_true] at h
      obtain ⟨⟨⟨⟨⟨⟨⟨⟨h1, h2⟩, h3⟩, h4⟩, h5⟩, h6⟩, h7⟩, h8⟩, h9⟩ := h
      have e : ia = 0 := of_decide_eq_true h2
      subst e
      exact s_comp G h1 h3 h5 h6 (sI it G tk h4) h7 (fun Xb hK Gb => sTo cond Gb takes0 h8) (fun Xb hK Gb => sE elt Gb takes0 h9)
    · cases h
  | .cat a b, S, P, X, W, x, G, tk, h => by
    unfold chkL at h
    split at h
    · rw [Bool.and_eq_true] at h
      exact s_cat (sE a G tk h.1) (sE b G tk h.2)
    · cases h
  | .rep a b, S, P, X, W, x, G, tk, h => by
    unfold chkL at h
    split at h
    · rw [Bool.and_eq_true] at h
      exact s_rep (sE a G tk h.1) (sE b G tk h.2)
    · cases h
  | .lst a, S, P, X, W, x, G, tk, h => by
    unfold chkL at h
    split at h
    · simp only [Bool.and_eq_true] at h
      exact s_list G (of_decide_eq_true h.1.1.1) h.1.1.2 h.1.2 (sE a G tk h.2)
    · cases h
  | .slc a lo hi, S, P, X, W, x, G, tk, h => by
    unfold chkL at h
    split at h
    · simp only [Bool.and_eq_true] at h
      exact s_slcL (sE a G tk h.1.1) (sO lo G tk h.1.2) (sO hi G tk h.2)
    · cases h
theorem sI : ∀ (it : CI) {S : SC} {P : L2.St → Prop} {X : Cx} {W : WX} {tg x : Expr}, Good T fa ca cf k S P X → Takes X W → chkI T S it tg x = true → PI X tg x (tI X.K fa ca P W (evI cf it))
  | .seq a, S, P, X, W, tg, x, G, tk, h => s_seq (sE a G tk h)
  | .rng1 a, S, P, X, W, tg, x, G, tk, h => by
    unfold chkI at h
    split at h
    · simp only [Bool.and_eq_true] at h
      exact s_rng1 G (of_decide_eq_true h.1.1.1) h.1.1.2 h.1.2 (sE a G tk h.2)
    · cases h
  | .rng2 a b, S, P, X, W, tg, x, G, tk, h => by
    unfold chkI at h
    split at h
    · simp only [Bool.and_eq_true] at h
      obtain ⟨⟨⟨⟨⟨h1, h2⟩, h3⟩, h4⟩, h5⟩, h6⟩ := h
      exact s_rng2 G (of_decide_eq_true h1) h2 h3 h4 (sE a G tk h5) (sE b G tk h6)
    · cases h
  | .rngD a b c, S, P, X, W, tg, x, G, tk, h => by
    unfold chkI at h
    split at h
    · simp only [Bool.and_eq_true] at h
      obtain ⟨⟨⟨⟨⟨⟨⟨h1, h2⟩, h3⟩, h4⟩, h4'⟩, h5⟩, h6⟩, h7⟩ := h
      exact s_rngD G (of_decide_eq_true h1) h2 h3 h4 h4' (sE a G tk h5) (sE b G tk h6) (sE c G tk h7)
    · cases h
  | .enum a, S, P, X, W, tg, x, G, tk, h => by
    unfold chkI at h
    split at h
    · simp only [Bool.and_eq_true] at h
      obtain ⟨⟨⟨⟨h1, h2⟩, h3⟩, h4⟩, h5⟩ := h
      cases tg <;> first | exact s_enum G (of_decide_eq_true h2) h3 h4 (sE a G tk h5) | cases h1
    · cases h
  | .zip a b, S, P, X, W, tg, x, G, tk, h => by
    unfold chkI at h
    split at h
    · simp only [Bool.and_eq_true] at h
      obtain ⟨⟨⟨⟨⟨⟨h1, h2⟩, h3⟩, h4⟩, h5⟩, h6⟩, h7⟩ := h
      cases tg <;> first | exact s_zip G (of_decide_eq_true h2) h3 h4 h5 (sE a G tk h6) (sE b G tk h7) | cases h1
    · cases h
theorem sT : ∀ (t : CT) {S : SC} {P : L2.St → Prop} {X : Cx} {W : WX} {x : Expr}, Good T fa ca cf k S P X → Takes X W → chkT T S t x = true → PT X x (RT X fa ca P W (evT cf t))
  | .val a, S, P, X, W, x, G, tk, h => by
    unfold chkT at h
    rw [Bool.and_eq_true] at h
    exact s_val h.1 (sE a G tk h.2)
  | .tru a, S, P, X, W, x, G, tk, h => by
    unfold chkT at h
    rw [Bool.and_eq_true] at h
    exact s_tru h.1 (sE a G tk h.2)
  | .cmp o a b, S, P, X, W, x, G, tk, h => by
    unfold chkT at h
    split at h
    · simp only [Bool.and_eq_true] at h
      obtain ⟨⟨⟨⟨⟨h1, h2⟩, h3⟩, h4⟩, h5⟩, h6⟩ := h
      have e := of_decide_eq_true h2
      subst e
      exact (pt_cmpR (opC (fa := fa) (hu_room (G.room h1)) o) (sE a G tk h5) (sE b G tk h6) (by simpa using h3)).imp fun σ H Q q => tTest_cmp (kk := evCmp o) q
    · cases h
  | .chain o p a b c, S, P, X, W, x, G, tk, h => by
    unfold chkT at h
    split at h
    · simp only [Bool.and_eq_true] at h
      obtain ⟨⟨⟨⟨⟨⟨⟨⟨⟨h1, h2⟩, h3⟩, h4⟩, h5⟩, h6⟩, h7⟩, h8⟩, h9⟩, h10⟩ := h
      have e := of_decide_eq_true h2
      subst e
      have e := of_decide_eq_true h5
      subst e
      exact (pt_chain (opC (fa := fa) (hu_room (G.room h1)) o) (opC (fa := fa) (hu_room (G.room h1)) p) (sE a G tk h8) (sE b G tk h9) (sE c G tk h10) (last_marks (of_decide_eq_true h6) (of_decide_eq_true h7))).imp fun σ H Q q => tChainT_of (k1 := evCmp o) (k2 := evCmp p) q
    · cases h
  | .and ts, S, P, X, W, x, G, tk, h => by
    unfold chkT at h
    split at h
    · exact (sTAnd ts G tk h).pt
    · cases h
  | .or ts, S, P, X, W, x, G, tk, h => by
    unfold chkT at h
    split at h
    · exact (sTOr ts G tk h).pt
    · cases h
  | .not t, S, P, X, W, x, G, tk, h => by
    unfold chkT at h
    split at h
    · exact s_tnot (sT t G tk h)
    · cases h
theorem sTAnd : ∀ (ts : CTs) {S : SC} {P : L2.St → Prop} {X : Cx} {W : WX} {xs : List Expr} {pos : Pos}, Good T fa ca cf k S P X → Takes X W → chkTs T S ts xs = true → PW X (.BoolOp .And xs pos) (RT X fa ca P W (evTAnd cf ts))
  | .nil, S, P, X, W, xs, pos, G, tk, h => ⟨fun wh pins s σ H Q I q => by
      obtain ⟨_, ρ, Z, e, m, _, q⟩ := q
      exact (show False from q).elim⟩
  | .cons a .nil, S, P, X, W, xs, pos, G, tk, h => by
    unfold chkTs at h
    split at h
    · rename_i x xs
      rw [Bool.and_eq_true] at h
      cases xs with
      | nil => exact s_tand1 (sT a G tk h.1)
      | cons _ _ => cases h.2
    · cases h
  | .cons a (.cons b es), S, P, X, W, xs, pos, G, tk, h => by
    unfold chkTs at h
    split at h
    · rename_i x xs
      rw [Bool.and_eq_true] at h
      cases xs with
      | nil => cases h.2
      | cons y ys => exact s_tand (sT a G tk h.1) (sTAnd (.cons b es) G tk h.2)
    · cases h
theorem sTOr : ∀ (ts : CTs) {S : SC} {P : L2.St → Prop} {X : Cx} {W : WX} {xs : List Expr} {pos : Pos}, Good T fa ca cf k S P X → Takes X W → chkTs T S ts xs = true → PW X (.BoolOp .Or xs pos) (RT X fa ca P W (evTOr cf ts))
  | .nil, S, P, X, W, xs, pos, G, tk, h => ⟨fun wh pins s σ H Q I q => by
      obtain ⟨_, ρ, Z, e, m, _, q⟩ := q
      exact (show False from q).elim⟩
  | .cons a .nil, S, P, X, W, xs, pos, G, tk, h => by
    unfold chkTs at h
    split at h
    · rename_i x xs
      rw [Bool.and_eq_true] at h
      cases xs with
      | nil => exact s_tor1 (sT a G tk h.1)
      | cons _ _ => cases h.2
    · cases h
  | .cons a (.cons b es), S, P, X, W, xs, pos, G, tk, h => by
    unfold chkTs at h
    split at h
    · rename_i x xs
      rw [Bool.and_eq_true] at h
      cases xs with
      | nil => cases h.2
      | cons y ys => exact s_tor (sT a G tk h.1) (sTOr (.cons b es) G tk h.2)
    · cases h
theorem sTo : ∀ (t : CTo) {S : SC} {P : L2.St → Prop} {X : Cx} {W : WX} {xs : List Expr}, Good T fa ca cf k S P X → Takes X W → chkTo T S t xs = true → PTs X xs (RT X fa ca P W (evTo cf t))
  | .none, S, P, X, W, xs, G, tk, h => by
    unfold chkTo at h
    split at h
    · exact s_tyes
    · cases h
  | .some t, S, P, X, W, xs, G, tk, h => by
    unfold chkTo at h
    split at h
    · exact s_tone (sT t G tk h)
    · cases h
end
end
end Dx
/-! Dx, part 14: the tie for statements; statements from their parts. -/
namespace Dx
open PySem PySem.Spec PyProof.Rows L2
/-! ### the tie -/
def lineOf (ts : List Expr) : Nat := (ts.head?.map (·.pos.line)).getD 0
def plainNames (S : SC) (ts : List Expr) : List Str := ts.filterMap fun
  | .Name id pos => if S.sc.names.lookup id == some .local && pos.line == lineOf ts then some id else none
  | _ => none
/-- a tuple of targets, a tuple of values: the tuple is made, then taken apart from the left -/
def swN (S : SC) (ts vs : List Expr) : Bool := (!(ts.length == 2 || ts.length == 3) || vs.length != ts.length) || ((plainNames S ts).length != ts.length || (plainNames S ts).eraseDups.length != (plainNames S ts).length) || vs.all (foldedForSure 8)
/-- .. no tuple is made; stored from the right -/
def swY (S : SC) (ts vs : List Expr) : Bool := !(!(ts.length == 2 || ts.length == 3) || vs.length != ts.length) && !((plainNames S ts).length != ts.length || (plainNames S ts).eraseDups.length != (plainNames S ts).length) && !vs.all (foldedForSure 8) && !vs.all (constantsAlone 8)
/-- name = [..]: stored within the comprehension's frame -/
def swC (S : SC) (n : Str) (np : Pos) (vp : Pos) (scope : Scope) : Bool := S.sc.names.lookup n == some .local && np.line == vp.line && !(scope.names.any fun (x, k) => x == n && (k == .local || k == .cell))
def isTupOrLst : Expr → Bool
  | .Tuple _ _ _ => true
  | .List _ _ => true
  | _ => false
def nocall0 : Expr → Bool
  | .Call _ [] [] _ => false
  | _ => true
def chkAct (T : Tab) (S : SC) : HAct → List Stmt → Bool
  | .asg j e, b => (match b with
    | [.Assign [.Name n _] v _] => S.exc != some j && notComp v && locB S j n && chkE T S e v
    | _ => false)
  | .ret e, b => (match b with
    | [.Return (some v) _] => chkE T S e v
    | _ => false)
def chkH (T : Tab) (S : SC) : CHs → List ExceptHandler → Bool
  | .nil, hs => (match hs with
    | [] => true
    | _ => false)
  | .cons c i a hs, l => (match l with
    | .ExceptHandler (some (.Name x _)) n body _ :: l => decide (T.cls[c]? = some x) && gloB S x && (match i, n with
      | none, none => true
      | some i, some n => decide (S.N[i]? = some n) && S.sc.names.lookup n == some .local
      | _, _ => false) && chkAct T { S with calm := false, exc := i } a body && chkH T S hs l
    | _ => false)
mutual
def chkS (T : Tab) (S : SC) : CS → Stmt → Bool
  | .expr e, s => (match s with
    | .Expr v _ => notComp v && chkE T S e v
    | _ => false)
  | .ret e, s => (match s with
    | .Return (some v) _ => chkE T S e v
    | _ => false)
  | .retN, s => (match s with
    | .Return none _ => true
    | _ => false)
  | .asg t e, s => (match s with
    | .Assign [tg] v _ => chkTg S t tg && chkE T S e v && (match tg, v with
      | .Name n np, .ListComp _ _ scope vp => (match e with
        | .lv (.comp _ _ _ _ _) => true
        | .lm (.comp _ _ _ _ _) => true
        | _ => false)
      | .Name _ _, v => notComp v
      | .Tuple ts _ _, .Tuple vs _ _ => S.calm && swN S ts vs && vs.all nst
      | .Tuple _ _ _, v => S.calm && !isTupOrLst v
      | _, _ => false)
    | _ => false)
  | .par2 i j a b, s => (match s with
    | .Assign [.Tuple [.Name x px, .Name y py] _ _] (.Tuple [v, w] _ _) _ => S.calm && decide (i ≠ j) && decide (S.N[i]? = some x) && decide (S.N[j]? = some y) && S.sc.names.lookup x == some .local && S.sc.names.lookup y == some .local &&
      swY S [.Name x px, .Name y py] [v, w] && nst v && nst w && chkE T S a v && chkE T S b w
    | _ => false)
  | .par3 i j l a b c, s => (match s with
    | .Assign [.Tuple [.Name x px, .Name y py, .Name z pz] _ _] (.Tuple [u, v, w] _ _) _ => S.calm && decide (i ≠ j) && decide (i ≠ l) && decide (j ≠ l) && decide (S.N[i]? = some x) && decide (S.N[j]? = some y) && decide (S.N[l]? = some z) &&
      S.sc.names.lookup x == some .local && S.sc.names.lookup y == some .local && S.sc.names.lookup z == some .local && decide (plainNames S [.Name x px, .Name y py, .Name z pz] = [x, y, z]) &&
      swY S [.Name x px, .Name y py, .Name z pz] [u, v, w] && nst u && nst v && nst w && chkE T S a u && chkE T S b v && chkE T S c w
    | _ => false)
  | .stuck, s => true
  | .setI o i e, s => (match s with
    | .Assign [.Subscript p q _] v _ => notSlice q && notComp v && chkE T S o p && chkE T S i q && chkE T S e v
    | _ => false)
  | .swap o1 i1 o2 i2 a b, s => (match s with
    | .Assign [.Tuple [.Subscript p q t1, .Subscript p2 q2 t2] _ _] (.Tuple [v, w] k2 p3) _ => S.calm && notSlice q && notSlice q2 && nst v && nst w && swN S [.Subscript p q t1, .Subscript p2 q2 t2] [v, w] && chkE T S o1 p && chkE T S i1 q && chkE T S o2 p2 && chkE T S i2 q2 && chkE T S (.tup (.cons a (.cons b .nil))) (.Tuple [v, w] k2 p3)
    | _ => false)
  | .app o e, s => (match s with
    | .Expr (.Call (.Attribute p n ap) [v] [] cp) _ => decide (n = ("append" : Str)) && nocall0 p && (ap.endLine == cp.line) && nst v && chkE T S o p && chkE T S e v
    | _ => false)
  | .ext o e, s => (match s with
    | .Expr (.Call (.Attribute p n ap) [v] [] cp) _ => decide (n = ("extend" : Str)) && nocall0 p && (ap.endLine == cp.line) && nst v && chkE T S o p && chkE T S e v
    | _ => false)
  | .ife t a b, s => (match s with
    | .If c x y _ => chkT T S t c && chkSs T S a x && chkSs T S b y
    | _ => false)
  | .for_ tg it body, s => (match s with
    | .For x i b [] _ => S.calm && notSet i && chkTg S tg x && chkI T S it x i && chkSs T S body b
    | _ => false)
  | .while_ t body, s => (match s with
    | .While c b [] _ => chkT T S t c && chkSs T S body b
    | _ => false)
  | .brk, s => (match s with
    | .Break _ => true
    | _ => false)
  | .cnt, s => (match s with
    | .Continue _ => true
    | _ => false)
  | .pass, s => (match s with
    | .Pass _ => true
    | _ => false)
  | .raise c, s => (match s with
    | .Raise (some (.Call (.Name x _) [] [] _)) none _ => S.calm && decide (T.cls[c]? = some x) && gloB S x
    | _ => false)
  | .try_ body hs, s => (match s with
    | .Try b (h :: l) [] [] _ => chkSs T S body b && chkH T S hs (h :: l)
    | _ => false)
def chkSs (T : Tab) (S : SC) : CSs → List Stmt → Bool
  | .nil, l => (match l with
    | [] => true
    | _ => false)
  | .cons s ss, l => (match l with
    | x :: l => chkS T S s x && chkSs T S ss l
    | _ => false)
end
theorem swapsWith_no {e : Expr} {t : Option Expr} {l : Nat} {env : Env} (h : notComp e = true) : swapsWith e t l env = pure false := by
  cases e <;> first | rfl | cases h
section
variable {S : SC} {env : Env}
theorem block_kind (hk : env.scope.kind = .function) : env.blockKind = .function := by
  unfold Env.blockKind
  rw [hk]; rfl
def starB (vs : List Expr) : Bool := vs.any fun
  | .Starred .. => true
  | _ => false
def nmsE (env : Env) (ts : List Expr) : List Str := ts.filterMap fun
  | .Name id pos => if env.kindOf id == some .local && pos.line == (ts.head?.map (·.pos.line)).getD 0 then some id else none
  | _ => none
theorem nms_eq (hs : env.scope = S.sc) (ts : List Expr) : nmsE env ts = plainNames S ts := by
  unfold plainNames lineOf nmsE
  have e : env.kindOf = fun id => S.sc.names.lookup id := by
    funext id
    show env.scope.names.lookup id = _
    rw [hs]
  rw [e]
theorem star_none {vs : List Expr} (hn : vs.all nst = true) : starB vs = false := by
  unfold starB
  rw [List.any_eq_false]
  intro x hx
  have := List.all_eq_true.mp hn x hx
  cases x <;> first | exact Bool.false_ne_true | cases this
/-- the model's decision, once more -/
def swM (env : Env) (ts vs : List Expr) : Sem (Option (List Str)) :=
  if (!(ts.length == 2 || ts.length == 3) || vs.length != ts.length || env.blockKind != ScopeKind.function) = true then pure none
  else if starB vs = true then pure none
  else if ((nmsE env ts).length != ts.length || (nmsE env ts).eraseDups.length != (nmsE env ts).length) = true then pure none
  else if vs.all (foldedForSure 8) = true then pure none
  else if vs.all (constantsAlone 8) = true then (do unsupported "assign.tuple-of-constant-expressions:order-of-the-stores"; return some (nmsE env ts))
  else pure (some (nmsE env ts))
theorem sw_eq {ts vs : List Expr} {k1 k2 : Nat} {p1 p2 : Pos} : swappedStores [.Tuple ts k1 p1] (.Tuple vs k2 p2) env = swM env ts vs := rfl
theorem sw_no (hs : env.scope = S.sc) (hk : env.scope.kind = .function) {ts vs : List Expr} {k1 k2 : Nat} {p1 p2 : Pos} (hn : vs.all nst = true) (h : swN S ts vs = true) : swappedStores [.Tuple ts k1 p1] (.Tuple vs k2 p2) env = pure none := by
  rw [sw_eq]
  unfold swM
  rw [star_none hn, nms_eq hs ts, block_kind hk]
  unfold swN at h
  by_cases c1 : (!(ts.length == 2 || ts.length == 3) || vs.length != ts.length) = true
  · rw [if_pos (by rw [c1]; rfl)]
  · rw [Bool.not_eq_true] at c1
    rw [c1, Bool.false_or] at h
    rw [if_neg (by rw [c1]; simp), if_neg Bool.false_ne_true]
    by_cases c2 : ((plainNames S ts).length != ts.length || (plainNames S ts).eraseDups.length != (plainNames S ts).length) = true
    · rw [if_pos c2]
    · rw [if_neg c2]
      rw [Bool.not_eq_true] at c2
      rw [c2, Bool.false_or] at h
      rw [if_pos h]
theorem sw_yes (hs : env.scope = S.sc) (hk : env.scope.kind = .function) {ts vs : List Expr} {k1 k2 : Nat} {p1 p2 : Pos} (hn : vs.all nst = true) (h : swY S ts vs = true) : swappedStores [.Tuple ts k1 p1] (.Tuple vs k2 p2) env = pure (some (plainNames S ts)) := by
  unfold swY at h
  simp only [Bool.and_eq_true, Bool.not_eq_true'] at h
  obtain ⟨⟨⟨c1, c2⟩, c3⟩, c4⟩ := h
  rw [sw_eq]
  unfold swM
  rw [star_none hn, nms_eq hs ts, block_kind hk]
  rw [if_neg (by rw [c1]; simp), if_neg Bool.false_ne_true, if_neg (by rw [c2]; exact Bool.false_ne_true), if_neg (by rw [c3]; exact Bool.false_ne_true), if_neg (by rw [c4]; exact Bool.false_ne_true)]
theorem sw_nontup {t v : Expr} (h : isTupOrLst v = false ∨ isTupOrLst t = false) : swappedStores [t] v env = pure none := by
  unfold swappedStores
  cases t <;> cases v <;> first | rfl | (rcases h with h | h <;> cases h)
theorem sw_sole {t v : Expr} {l : Nat} (h : notComp v = true ∨ isTup t = true) : swapsWithSole [t] v l env = pure false := by
  show swapsWith v (some t) l env = pure false
  rcases h with h | h
  · exact swapsWith_no h
  · cases t <;> first | cases h | skip
    cases v <;> rfl
theorem sw_comp (hs : env.scope = S.sc) (hk : env.scope.kind = .function) {elt : Expr} {gs : List Comprehension} {scope : Scope} {vp np : Pos} {n : Str} {l : Nat} : swapsWith (.ListComp elt gs scope vp) (some (.Name n np)) l env = pure (swC S n np vp scope) := by
  have hb := block_kind hk
  have e : env.kindOf n = S.sc.names.lookup n := by
    show env.scope.names.lookup n = _
    rw [hs]
  unfold swapsWith swC
  simp only [hb, e, Expr.pos]
  rfl
end
end Dx
/-! Dx, part 15: statements from their parts. -/
namespace Dx
open PySem PySem.Spec PyProof.Rows L2
/-- what is wanted behind a statement, by data -/
def PSR (K : PySem.W.Frag) (fa ca : Nat → Addr) (W : WX) (ρ : List Addr) (Z : Addr → Prop) (H : Hp) (r : SRes) (D : Ends) : Prop := match r with
  | .nx e m => ∀ ρ' Z' H' σ', Step ρ Z H ρ' Z' H' → Sim K fa ρ' Z' H' σ' e m → D.nx σ' H'
  | .brk e m => ∀ ρ' Z' H' σ', Step ρ Z H ρ' Z' H' → Sim K fa ρ' Z' H' σ' e m → D.bk σ' H'
  | .cnt e m => ∀ ρ' Z' H' σ', Step ρ Z H ρ' Z' H' → Sim K fa ρ' Z' H' σ' e m → D.ct σ' H'
  | .ret d m => ∀ ρ' Z' H' v, Step ρ Z H ρ' Z' H' → MOk K fa ρ' Z' H' m → RelD K fa ρ' Z' H' d v → D.rt v H'
  | .err c e m => ∀ ρ' Z' H' σ', Step ρ Z H ρ' Z' H' → Sim K fa ρ' Z' H' σ' e m → W (.ref (ca c)) none σ' H'
  | .bad => False
def tS (K : PySem.W.Frag) (fa ca : Nat → Addr) (W : WX) (f : Env' → M → SRes) : TS := fun D σ H => ∃ ρ Z e m, Sim K fa ρ Z H σ e m ∧ PSR K fa ca W ρ Z H (f e m) D
structure GoodS (T : Tab) (fa ca : Nat → Addr) (cf : Cfg) (k : Nat) (S : SC) (X : Cx) : Prop where
  g : Good T fa ca cf k S P1 X
  hp : PassesOwn (model X.prog X.w) X.A X.env X.xe
  hs : X.stack = X.env :: X.outer
  hf : X.env.frame = some X.env.locals
  kind : S.sc.kind = .function
  ex : S.exc = none
section
variable {K : PySem.W.Frag} {fa ca : Nat → Addr} {W : WX} {ρ ρ1 : List Addr} {Z Z1 : Addr → Prop} {H H1 : Hp} {σ : L2.St} {e : Env'} {m : M} {En : Ends}
theorem PSR.step {r : SRes} (hot : Hot Z H) (s : Step ρ Z H ρ1 Z1 H1) (h : PSR K fa ca W ρ Z H r En) : PSR K fa ca W ρ1 Z1 H1 r En := by
  cases r with
  | nx e m => exact fun ρ' Z' H' σ' t S => h ρ' Z' H' σ' (s.trans hot t) S
  | brk e m => exact fun ρ' Z' H' σ' t S => h ρ' Z' H' σ' (s.trans hot t) S
  | cnt e m => exact fun ρ' Z' H' σ' t S => h ρ' Z' H' σ' (s.trans hot t) S
  | err c e m => exact fun ρ' Z' H' σ' t S => h ρ' Z' H' σ' (s.trans hot t) S
  | ret d m => exact fun ρ' Z' H' v t S => h ρ' Z' H' v (s.trans hot t) S
  | bad => exact h
/-- behind an expression -/
theorem PSR.ofE {r : Res D} {kk : D → M → SRes} (Sm : Sim K fa ρ Z H σ e m) (h : PSR K fa ca W ρ Z H (r.toS e kk) En) :
    PR K fa ca W σ (rD K fa) ρ Z H r fun v H1 => ∃ ρ1 Z1 d m1, Step ρ Z H ρ1 Z1 H1 ∧ MOk K fa ρ1 Z1 H1 m1 ∧ RelD K fa ρ1 Z1 H1 d v ∧ PSR K fa ca W ρ1 Z1 H1 (kk d m1) En := by
  cases r with
  | ok d m1 => exact fun ρ1 Z1 H1 v s I r => ⟨ρ1, Z1, d, m1, s, I, r, PSR.step Sm.mok.hot s h⟩
  | err c m1 => exact fun ρ1 Z1 H1 s I => h ρ1 Z1 H1 σ s (Sm.step s I)
  | bad => exact h
end
section
variable {T : Tab} {fa ca : Nat → Addr} {cf : Cfg} {k : Nat} {S : SC} {X : Cx} {W : WX}
abbrev RS (X : Cx) (fa ca : Nat → Addr) (W : WX) (f : Env' → M → SRes) : TS := tS X.K fa ca W f
/-- the parts of a statement that begins by an expression -/
theorem RS_E {f : Env' → M → Res D} {kk : Env' → D → M → SRes} {En : Ends} {σ : L2.St} {H : Hp} (h : RS X fa ca W (fun e m => (f e m).toS e (kk e)) En σ H) (Q : VK)
    (hk : ∀ ρ Z e m d v H1, Sim X.K fa ρ Z H1 σ e m → RelD X.K fa ρ Z H1 d v → PSR X.K fa ca W ρ Z H1 (kk e d m) En → Q v H1) : RE X fa ca P1 W f σ H Q := by
  obtain ⟨ρ, Z, e, m, Sm, h⟩ := h
  exact ⟨trivial, ρ, Z, e, m, Sm, (PSR.ofE Sm h).mono fun v H1 ⟨ρ1, Z1, d, m1, s1, I1, r1, h1⟩ => hk ρ1 Z1 e m1 d v H1 (Sm.step s1 I1) r1 h1⟩
theorem s_expr {a : Expr} {pos : Pos} {f : Env' → M → Res D} (hn : notComp a = true) (ha : PE X a (RE X fa ca P1 W f)) : PS X (.Expr a pos) (RS X fa ca W fun e m => (f e m).toS e fun _ m => .nx e m) :=
  (ps_expr ha (swapsWith_no hn)).imp fun D σ H h => RS_E h _ fun ρ Z e m d v H1 Sm r q => q ρ Z H1 σ Step.refl Sm
theorem s_ret {a : Expr} {pos : Pos} {f : Env' → M → Res D} (ha : PE X a (RE X fa ca P1 W f)) : PS X (.Return (some a) pos) (RS X fa ca W fun e m => (f e m).toS e fun d m => .ret d m) :=
  (ps_ret ha).imp fun D σ H h => RS_E h _ fun ρ Z e m d v H1 Sm r q => q ρ Z H1 v Step.refl Sm.mok r
theorem s_retN {pos : Pos} : PS X (.Return none pos) (RS X fa ca W fun _ m => .ret .non m) :=
  ps_retN.imp fun D σ H ⟨ρ, Z, e, m, Sm, q⟩ => q ρ Z H .non Step.refl Sm.mok rfl
theorem s_pass {pos : Pos} : PS X (.Pass pos) (RS X fa ca W fun e m => .nx e m) := ps_pass.imp fun D σ H ⟨ρ, Z, e, m, Sm, q⟩ => q ρ Z H σ Step.refl Sm
theorem s_brk {pos : Pos} : PS X (.Break pos) (RS X fa ca W fun e m => .brk e m) := ps_break.imp fun D σ H ⟨ρ, Z, e, m, Sm, q⟩ => q ρ Z H σ Step.refl Sm
theorem s_cnt {pos : Pos} : PS X (.Continue pos) (RS X fa ca W fun e m => .cnt e m) := ps_continue.imp fun D σ H ⟨ρ, Z, e, m, Sm, q⟩ => q ρ Z H σ Step.refl Sm
/-- a value into a target -/
theorem into {t : Tg} {En : Ends} {σ : L2.St} {ρ : List Addr} {Z : Addr → Prop} {H : Hp} {e : Env'} {m : M} {d : D} {v : V} (Sm : Sim X.K fa ρ Z H σ e m) (r : RelD X.K fa ρ Z H d v)
    (q : PSR X.K fa ca W ρ Z H (match assignTg t d e with
      | some e' => .nx e' m
      | none => .bad) En) : gD X.K fa t v σ H En.nx := by
  split at q
  · rename_i e' he
    exact ⟨ρ, Z, e, m, d, e', Sm, r, he, fun σ' S' _ _ => q ρ Z H σ' Step.refl S'⟩
  · exact q.elim
theorem s_asg {tg a : Expr} {t : Tg} {pos : Pos} {f : Env' → M → Res D} (G : Good T fa ca cf k S P1 X) (hg : chkTg S t tg = true) (hs : swapsWithSole [tg] a pos.line X.env = pure false) (hw : swappedStores [tg] a X.env = pure none) (hn : nst tg = true)
    (ha : PE X a (RE X fa ca P1 W f)) : PS X (.Assign [tg] a pos) (RS X fa ca W fun e m => (f e m).toS e fun d m => match assignTg t d e with
      | some e' => .nx e' m
      | none => .bad) :=
  (ps_asg ha (s_tg G hg) hs hw (by rw [assignEach_ns hn]; rfl)).imp fun D σ H h => RS_E h _ fun ρ Z e m d v H1 Sm r q => into Sm r q
theorem s_par2 {x y : Str} {a b : Expr} {i j : Nat} {px py pt : Pos} {kt k2 : Nat} {pt2 pos : Pos} {f g : Env' → M → Res D} (G : GoodS T fa ca cf k S X) (hc : S.calm = true) (hij : i ≠ j) (hi : S.N[i]? = some x) (hj : S.N[j]? = some y)
    (hx : S.sc.names.lookup x = some .local) (hy : S.sc.names.lookup y = some .local) (hw : swY S [.Name x px, .Name y py] [a, b] = true) (na : nst a = true) (nb : nst b = true) (ha : PE X a (RE X fa ca P1 W f)) (hb : PE X b (RE X fa ca P1 W g)) :
    PS X (.Assign [.Tuple [.Name x px, .Name y py] kt pt] (.Tuple [a, b] k2 pt2) pos) (RS X fa ca W fun e m => (f e m).toS e fun x m => (g e m).toS e fun y m => .nx ((e.set i (some x)).set j (some y)) m) := by
  have hw' : swappedStores [.Tuple [.Name x px, .Name y py] kt pt] (.Tuple [a, b] k2 pt2) X.env = pure (some [x, y]) := by
    rw [sw_yes (S := S) G.g.sc (by rw [G.g.sc]; exact G.kind) (by simp [na, nb]) hw]
    have e : plainNames S [.Name x px, .Name y py] = [x, y] := by
      have hl : (plainNames S [.Name x px, .Name y py]).length = 2 := by
        unfold swY at hw
        simp only [Bool.and_eq_true, Bool.not_eq_true', Bool.or_eq_false_iff, bne_eq_false_iff_eq] at hw
        exact hw.1.1.2.1
      unfold plainNames at hl ⊢
      simp only [List.filterMap_cons, List.filterMap_nil, hx, hy] at hl ⊢
      split at hl <;> split at hl <;> simp_all
    rw [e]
  refine (ps_par (G.g.calm hc) (by rw [G.g.N]; exact G.g.nd) (by rw [G.g.N]; exact hi) (by rw [G.g.N]; exact hj) hij (by rw [G.g.sc]; exact hx) (by rw [G.g.sc]; exact hy) (pa_cons ha (pa_cons hb pa_nil (starEach_ns nb)) (starEach_ns na)) hw' (sw_sole (.inr rfl))).imp fun D σ H h => ?_
  refine RS_E (kk := fun e x m => (g e m).toS e fun y m => .nx ((e.set i (some x)).set j (some y)) m) h _ fun ρ Z e m d v H1 Sm r q => ?_
  refine ⟨trivial, ρ, Z, e, m, Sm, (PSR.ofE Sm q).mono fun w H2 ⟨ρ2, Z2, d2, m2, s2, I2, r2, q2⟩ => ?_⟩
  have Sm2 := Sm.step s2 I2
  exact ⟨v, w, rfl, q2 ρ2 Z2 H2 _ Step.refl ((Sm2.set (RelD.mono s2 Sm.mok.hot _ _ r)).set r2)⟩
theorem s_par3 {x y z : Str} {a b c : Expr} {i j l : Nat} {px py pz pt : Pos} {kt k2 : Nat} {pt2 pos : Pos} {f g q : Env' → M → Res D} (G : GoodS T fa ca cf k S X) (hc : S.calm = true) (hij : i ≠ j) (hil : i ≠ l) (hjl : j ≠ l) (hi : S.N[i]? = some x) (hj : S.N[j]? = some y) (hl : S.N[l]? = some z)
    (hx : S.sc.names.lookup x = some .local) (hy : S.sc.names.lookup y = some .local) (hz : S.sc.names.lookup z = some .local) (hp : plainNames S [.Name x px, .Name y py, .Name z pz] = [x, y, z]) (hw : swY S [.Name x px, .Name y py, .Name z pz] [a, b, c] = true) (na : nst a = true) (nb : nst b = true) (nc : nst c = true)
    (ha : PE X a (RE X fa ca P1 W f)) (hb : PE X b (RE X fa ca P1 W g)) (hcc : PE X c (RE X fa ca P1 W q)) :
    PS X (.Assign [.Tuple [.Name x px, .Name y py, .Name z pz] kt pt] (.Tuple [a, b, c] k2 pt2) pos) (RS X fa ca W fun e m => (f e m).toS e fun x m => (g e m).toS e fun y m => (q e m).toS e fun z m => .nx (((e.set i (some x)).set j (some y)).set l (some z)) m) := by
  have hw' : swappedStores [.Tuple [.Name x px, .Name y py, .Name z pz] kt pt] (.Tuple [a, b, c] k2 pt2) X.env = pure (some [x, y, z]) := by
    rw [sw_yes (S := S) G.g.sc (by rw [G.g.sc]; exact G.kind) (by simp [na, nb, nc]) hw, hp]
  refine (ps_par3 (G.g.calm hc) (by rw [G.g.N]; exact G.g.nd) (by rw [G.g.N]; exact hi) (by rw [G.g.N]; exact hj) (by rw [G.g.N]; exact hl) hij hil hjl (by rw [G.g.sc]; exact hx) (by rw [G.g.sc]; exact hy) (by rw [G.g.sc]; exact hz) (pa_cons ha (pa_cons hb (pa_cons hcc pa_nil (starEach_ns nc)) (starEach_ns nb)) (starEach_ns na)) hw' (sw_sole (.inr rfl))).imp fun D σ H h => ?_
  refine RS_E (kk := fun e x m => (g e m).toS e fun y m => (q e m).toS e fun z m => .nx (((e.set i (some x)).set j (some y)).set l (some z)) m) h _ fun ρ Z e m d v H1 Sm r q1 => ?_
  refine ⟨trivial, ρ, Z, e, m, Sm, (PSR.ofE Sm q1).mono fun w H2 ⟨ρ2, Z2, d2, m2, s2, I2, r2, q2⟩ => ?_⟩
  have Sm2 := Sm.step s2 I2
  refine ⟨trivial, ρ2, Z2, e, m2, Sm2, (PSR.ofE Sm2 q2).mono fun u H3 ⟨ρ3, Z3, d3, m3, s3, I3, r3, q3⟩ => ?_⟩
  have Sm3 := Sm2.step s3 I3
  exact ⟨v, w, u, rfl, q3 ρ3 Z3 H3 _ Step.refl (((Sm3.set (RelD.mono s3 Sm2.mok.hot _ _ (RelD.mono s2 Sm.mok.hot _ _ r))).set (RelD.mono s3 Sm2.mok.hot _ _ r2)).set r3)⟩
/-- o[i] = v by data -/
theorem set_data {σ : L2.St} {ρ : List Addr} {Z : Addr → Prop} {H : Hp} {e : Env'} {m : M} {o i d : D} {ov iv v : V} {Q : Hp → Prop} (Sm : Sim X.K fa ρ Z H σ e m) (ro : RelD X.K fa ρ Z H o ov) (ri : RelD X.K fa ρ Z H i iv) (r : RelD X.K fa ρ Z H d v)
    {En : Ends} (q : PSR X.K fa ca W ρ Z H (storeI cf m o i d e) En) (hk : ∀ H' m', storeI cf m o i d e = .nx e m' → Step ρ Z H ρ Z H' → MOk X.K fa ρ Z H' m' → Q H') : rSetL ov iv v H Q := by
  unfold storeI at q hk
  split at q
  · rename_i rr kk
    split at q
    · rename_i xs hx
      split at q
      · rename_i j hj
        obtain ⟨p, rfl, hp⟩ := ro
        cases (show iv = _ from ri)
        obtain ⟨p', vs, hp', zp, hv, t⟩ := Sm.mok.get hx
        rw [hp] at hp'
        cases hp'
        obtain ⟨I', s'⟩ := Sm.mok.set hx hp (RelDs.set r j t)
        refine ⟨p, vs, kk, j, rfl, rfl, hv, by rw [← t.length]; exact hj, ?_⟩
        unfold store at q
        split at q
        · rename_i hst
          refine hk _ (m.set rr (.lst (xs.set j d))) ?_ s' I'
          simp only [hx, hj]
          unfold store
          rw [if_pos hst]
        · exact q.elim
      · exact q.elim
    · exact q.elim
  · exact q.elim
theorem storeI_nx {c : Cfg} {m : M} {o i d : D} {e : Env'} : storeI c m o i d e = .bad ∨ ∃ m', storeI c m o i d e = .nx e m' := by
  unfold storeI
  split
  · split
    · split
      · unfold store
        split
        · exact .inr ⟨_, rfl⟩
        · exact .inl rfl
      · exact .inl rfl
    · exact .inl rfl
  · exact .inl rfl
end
end Dx
/-! Dx, part 16: changes, branches, loops. -/
namespace Dx
open PySem PySem.Spec PyProof.Rows L2
section
variable {T : Tab} {fa ca : Nat → Addr} {cf : Cfg} {k : Nat} {S : SC} {X : Cx} {W : WX}
/-- the next expression of a statement -/
theorem nextE {f : Env' → M → Res D} {kk : D → M → SRes} {En : Ends} {ρ : List Addr} {Z : Addr → Prop} {H : Hp} {σ : L2.St} {e : Env'} {m : M} {Q : VK} (Sm : Sim X.K fa ρ Z H σ e m) (h : PSR X.K fa ca W ρ Z H ((f e m).toS e kk) En)
    (hk : ∀ ρ1 Z1 d m1 v H1, Step ρ Z H ρ1 Z1 H1 → Sim X.K fa ρ1 Z1 H1 σ e m1 → RelD X.K fa ρ1 Z1 H1 d v → PSR X.K fa ca W ρ1 Z1 H1 (kk d m1) En → Q v H1) : RE X fa ca P1 W f σ H Q :=
  ⟨trivial, ρ, Z, e, m, Sm, (PSR.ofE Sm h).mono fun v H1 ⟨ρ1, Z1, d, m1, s1, I1, r1, h1⟩ => hk ρ1 Z1 d m1 v H1 s1 (Sm.step s1 I1) r1 h1⟩
theorem isSlice_no {i : Expr} (h : notSlice i = true) {o : Expr} {pos : Pos} {env : Env} (v : Value) : assign (.Subscript o i pos) env v = (do
      let ov ← holding [v] (eval o env)
      let iv ← holding [v, ov] (eval i env)
      standAt pos
      holding [v, ov, iv] (setItem ov iv v)
      release [v, ov, iv] []) := by
  cases i <;> first | rfl | cases h
theorem sub_nst {o i : Expr} {pos : Pos} : nst (.Subscript o i pos) = true := rfl
theorem s_setI {p q a : Expr} {tp pos : Pos} {fa' fo fi : Env' → M → Res D} (hn : notSlice q = true) (hs : swapsWithSole [.Subscript p q tp] a pos.line X.env = pure false) (hw : swappedStores [.Subscript p q tp] a X.env = pure none)
    (ha : PE X a (RE X fa ca P1 W fa')) (ho : PE X p (RE X fa ca P1 W fo)) (hi : PE X q (RE X fa ca P1 W fi)) :
    PS X (.Assign [.Subscript p q tp] a pos) (RS X fa ca W fun e m => (fa' e m).toS e fun d m => (fo e m).toS e fun o m => (fi e m).toS e fun i m => storeI cf m o i d e) := by
  refine (ps_asg ha (pg_sub ho hi set_list (isSlice_no hn)) hs hw (by rw [assignEach_ns sub_nst]; rfl)).imp fun En σ H h => ?_
  refine RS_E (kk := fun e d m => (fo e m).toS e fun o m => (fi e m).toS e fun i m => storeI cf m o i d e) h _ fun ρ Z e m d v H1 Sm r q => ?_
  refine nextE (kk := fun o m => (fi e m).toS e fun i m => storeI cf m o i d e) Sm q fun ρ2 Z2 o m2 ov H2 s2 Sm2 ro q2 => ?_
  refine nextE (kk := fun i m => storeI cf m o i d e) Sm2 q2 fun ρ3 Z3 i m3 iv H3 s3 Sm3 ri q3 => ?_
  refine set_data (cf := cf) (e := e) Sm3 (RelD.mono s3 Sm2.mok.hot _ _ ro) ri (RelD.mono s3 Sm2.mok.hot _ _ (RelD.mono s2 Sm.mok.hot _ _ r)) q3 fun H4 m4 e4 s4 I4 => ?_
  rw [e4] at q3
  exact q3 ρ3 Z3 H4 σ s4 (Sm3.step s4 I4)
/-- o[i], o'[j] = .. -/
theorem s_swap {p q p2 q2 v w : Expr} {t1 t2 pt p3 pos : Pos} {kt k2 : Nat} {ft fo fi fo2 fi2 : Env' → M → Res D} (G : GoodS T fa ca cf k S X) (hc : S.calm = true) (hn : notSlice q = true) (hn2 : notSlice q2 = true) (nv : nst v = true) (nw : nst w = true)
    (hw : swN S [.Subscript p q t1, .Subscript p2 q2 t2] [v, w] = true) (ht : PE X (.Tuple [v, w] k2 p3) (RE X fa ca P1 W ft)) (ho : PE X p (RE X fa ca P1 W fo)) (hi : PE X q (RE X fa ca P1 W fi)) (ho2 : PE X p2 (RE X fa ca P1 W fo2)) (hi2 : PE X q2 (RE X fa ca P1 W fi2)) :
    PS X (.Assign [.Tuple [.Subscript p q t1, .Subscript p2 q2 t2] kt pt] (.Tuple [v, w] k2 p3) pos) (RS X fa ca W fun e m => (ft e m).toS e fun d m => match d with
    | .tup [x, y] => (fo e m).toS e fun p m => (fi e m).toS e fun i m => (match storeI cf m p i x e with
      | .nx e m => (fo2 e m).toS e fun q m => (fi2 e m).toS e fun j m => storeI cf m q j y e
      | r => r)
    | _ => .bad) := by
  have ns : ∀ x ∈ [Expr.Subscript p q t1, .Subscript p2 q2 t2], nst x = true := fun x hx => by
    rcases List.mem_cons.mp hx with z | z
    · rw [z]; rfl
    · rw [List.mem_singleton.mp z]; rfl
  obtain ⟨l1, l2⟩ := assignEach_len (env := X.env) ns
  have pg := pg_tup (k := kt) (pos := pt) (n := 2) (G.g.calm hc) (pgs_cons (pg_sub (pos := t1) ho hi set_list (isSlice_no hn)) (pgs_cons (pg_sub (pos := t2) ho2 hi2 set_list (isSlice_no hn2)) pgs_nil (by rw [assignEach_ns sub_nst]; rfl)) (by rw [assignEach_ns sub_nst]; rfl)) l1 l2
  refine (ps_asg ht pg (sw_sole (.inr rfl)) (sw_no (S := S) G.g.sc (by rw [G.g.sc]; exact G.kind) (by simp [nv, nw]) hw) (by rw [assignEach_ns (e := .Tuple [.Subscript p q t1, .Subscript p2 q2 t2] kt pt) rfl]; rfl)).imp fun En σ H h => ?_
  refine RS_E (kk := fun e d m => match d with
    | .tup [x, y] => (fo e m).toS e fun p m => (fi e m).toS e fun i m => (match storeI cf m p i x e with
      | .nx e m => (fo2 e m).toS e fun q m => (fi2 e m).toS e fun j m => storeI cf m q j y e
      | r => r)
    | _ => .bad) h _ fun ρ Z e m d tv H1 Sm r q1 => ?_
  split at q1
  rotate_left
  · exact q1.elim
  rename_i x y
  obtain ⟨a, vs, rfl, hq, rr⟩ := r
  obtain ⟨vx, vy, rfl, rx, ry⟩ := rels_two rr
  refine ⟨a, [vx, vy], rfl, hq, rfl, vx, [vy], rfl, ?_⟩
  refine nextE (kk := fun p m => (fi e m).toS e fun i m => (match storeI cf m p i x e with
      | .nx e m => (fo2 e m).toS e fun q m => (fi2 e m).toS e fun j m => storeI cf m q j y e
      | r => r)) Sm q1 fun ρ2 Z2 o m2 ov H2 s2 Sm2 ro q2 => ?_
  refine nextE (kk := fun i m => (match storeI cf m o i x e with
      | .nx e m => (fo2 e m).toS e fun q m => (fi2 e m).toS e fun j m => storeI cf m q j y e
      | r => r)) Sm2 q2 fun ρ3 Z3 i m3 iv H3 s3 Sm3 ri q3 => ?_
  rcases storeI_nx (c := cf) (m := m3) (o := o) (i := i) (d := x) (e := e) with hs | ⟨m4, hs⟩
  · rw [hs] at q3; exact q3.elim
  rw [hs] at q3
  have s13 := s2.trans Sm.mok.hot s3
  refine set_data (ca := ca) (W := W) (cf := cf) (e := e) (En := { nx := fun _ _ => True, rt := fun _ _ => True }) Sm3 (RelD.mono s3 Sm2.mok.hot _ _ ro) ri (RelD.mono s13 Sm.mok.hot _ _ rx) (by rw [hs]; exact fun _ _ _ _ _ _ => trivial) fun H4 m4' e4 s4 I4 => ?_
  rw [hs] at e4
  cases e4
  have Sm4 := Sm3.step s4 I4
  have q3 := PSR.step Sm3.mok.hot s4 q3
  refine ⟨vy, [], rfl, ?_⟩
  refine nextE (kk := fun q m => (fi2 e m).toS e fun j m => storeI cf m q j y e) Sm4 q3 fun ρ5 Z5 o2 m5 ov2 H5 s5 Sm5 ro2 q5 => ?_
  refine nextE (kk := fun j m => storeI cf m o2 j y e) Sm5 q5 fun ρ6 Z6 i2 m6 iv2 H6 s6 Sm6 ri2 q6 => ?_
  have s14 := s13.trans Sm.mok.hot s4
  have s16 := (s14.trans Sm.mok.hot s5).trans Sm.mok.hot s6
  refine set_data (cf := cf) (e := e) Sm6 (RelD.mono s6 Sm5.mok.hot _ _ ro2) ri2 (RelD.mono s16 Sm.mok.hot _ _ ry) q6 fun H7 m7 e7 s7 I7 => ?_
  rw [e7] at q6
  exact ⟨rfl, q6 ρ6 Z6 H7 σ s7 (Sm6.step s7 I7)⟩
theorem rels_sing {K : PySem.W.Frag} {ρ : List Addr} {Z : Addr → Prop} {H : Hp} {d : D} {v : V} (r : RelD K fa ρ Z H d v) : RelDs K fa ρ Z H [d] [v] := ⟨v, [], rfl, r, rfl⟩
theorem base_no {p : Expr} {n : Str} {env : Env} {w : Sem Value} (h : nocall0 p = true) : attributeBase p n env w = w := by
  cases p with
  | Call f as ks pos =>
    cases as with
    | cons _ _ => cases f <;> rfl
    | nil => cases ks with
      | cons _ _ => cases f <;> rfl
      | nil => cases h
  | _ => rfl
theorem few_one {a : Expr} {env : Env} {cp : Pos} (hn : nst a = true) : ((backTo cp (starEach [a] env)).all (fun x => !x.1) && (backToKw cp (keywordEach [] env)).all (fun x => x.1.isSome)
      && decide (([a] : List Expr).length + ([] : List Keyword).length + (if ([] : List Keyword).isEmpty then 0 else 1) < 30)) = true := by
  rw [starEach_ns hn]; rfl
/-- app's end -/
theorem s_app {p a : Expr} {ap cp pos : Pos} {fo fe : Env' → M → Res D} (hb : nocall0 p = true) (hl : (ap.endLine == cp.line) = true) (hn : nst a = true) (ho : PE X p (RE X fa ca P1 W fo)) (ha : PE X a (RE X fa ca P1 W fe)) :
    PS X (.Expr (.Call (.Attribute p "append" ap) [a] [] cp) pos) (RS X fa ca W fun e m => (fo e m).toS e fun o m => match o with
    | .ref r => (match m[r]? with
      | some (.lst _) => (fe e m).toS e fun d m => (match m[r]? with
        | some (.lst xs) => if lineOk xs.length then store cf m r (xs ++ [d]) d e else .bad
        | _ => .bad)
      | _ => .bad)
    | _ => .bad) := by
  refine (ps_expr (pe_bm (T := "list") (id := "list.append") PySem.F.plainAttrs_list PySem.F.slot_list_append PySem.F.type_list_append mt_append ho (pa_cons ha pa_nil (starEach_ns hn)) (base_no hb) (few_one hn) hl (starEach_ns hn) rfl) (swapsWith_no rfl)).imp fun En σ H h => ?_
  refine RS_E (kk := fun e o m => match o with
    | .ref r => (match m[r]? with
      | some (.lst _) => (fe e m).toS e fun d m => (match m[r]? with
        | some (.lst xs) => if lineOk xs.length then store cf m r (xs ++ [d]) d e else .bad
        | _ => .bad)
      | _ => .bad)
    | _ => .bad) h _ fun ρ Z e m o ov H1 Sm ro q => ?_
  split at q
  · rename_i r
    split at q
    · rename_i xs0 hx0
      obtain ⟨p1, rfl, hp1⟩ := ro
      obtain ⟨p', vs0, hp', _, hv0, _⟩ := Sm.mok.get hx0
      rw [hp1] at hp'
      cases hp'
      refine ⟨.inl ⟨rfl, vs0, SqL.of hv0⟩, ?_⟩
      refine nextE (kk := fun d m => (match m[r]? with
        | some (.lst xs) => if lineOk xs.length then store cf m r (xs ++ [d]) d e else .bad
        | _ => .bad)) Sm q fun ρ2 Z2 d m2 v H2 s2 Sm2 rd q2 => ?_
      split at q2
      · rename_i xs hx
        split at q2
        · rename_i hl
          unfold store at q2
          split at q2
          · obtain ⟨p', vs, hp', zp, hv, t⟩ := Sm2.mok.get hx
            have hp2 := s2.ix hp1
            rw [hp2] at hp'
            cases hp'
            obtain ⟨I', s'⟩ := Sm2.mok.set hx hp2 (t.append (rels_sing rd))
            exact ⟨p1, vs, v, rfl, rfl, hv, by rw [← t.length]; exact line_lt hl, q2 ρ2 Z2 _ σ s' (Sm2.step s' I')⟩
          · exact q2.elim
        · exact q2.elim
      · exact q2.elim
    · exact q.elim
  · exact q.elim
theorem s_ext {p a : Expr} {ap cp pos : Pos} {fo fe : Env' → M → Res D} (hb : nocall0 p = true) (hl : (ap.endLine == cp.line) = true) (hn : nst a = true) (ho : PE X p (RE X fa ca P1 W fo)) (ha : PE X a (RE X fa ca P1 W fe)) :
    PS X (.Expr (.Call (.Attribute p "extend" ap) [a] [] cp) pos) (RS X fa ca W fun e m => (fo e m).toS e fun o m => match o with
    | .ref r => (match m[r]? with
      | some (.lst _) => (fe e m).toS e fun d m => (match m[r]?, lstOf m d with
        | some (.lst xs), some ys => if lineOk (xs.length + ys.length) then store cf m r (xs ++ ys) (.lst ys) e else .bad
        | _, _ => .bad)
      | _ => .bad)
    | _ => .bad) := by
  refine (ps_expr (pe_bm (T := "list") (id := "list.extend") PySem.F.plainAttrs_list PySem.F.slot_list_extend PySem.F.type_list_extend mt_extend ho (pa_cons ha pa_nil (starEach_ns hn)) (base_no hb) (few_one hn) hl (starEach_ns hn) rfl) (swapsWith_no rfl)).imp fun En σ H h => ?_
  refine RS_E (kk := fun e o m => match o with
    | .ref r => (match m[r]? with
      | some (.lst _) => (fe e m).toS e fun d m => (match m[r]?, lstOf m d with
        | some (.lst xs), some ys => if lineOk (xs.length + ys.length) then store cf m r (xs ++ ys) (.lst ys) e else .bad
        | _, _ => .bad)
      | _ => .bad)
    | _ => .bad) h _ fun ρ Z e m o ov H1 Sm ro q => ?_
  split at q
  · rename_i r
    split at q
    · rename_i xs0 hx0
      obtain ⟨p1, rfl, hp1⟩ := ro
      obtain ⟨p', vs0, hp', _, hv0, _⟩ := Sm.mok.get hx0
      rw [hp1] at hp'
      cases hp'
      refine ⟨.inl ⟨rfl, vs0, SqL.of hv0⟩, ?_⟩
      refine nextE (kk := fun d m => (match m[r]?, lstOf m d with
        | some (.lst xs), some ys => if lineOk (xs.length + ys.length) then store cf m r (xs ++ ys) (.lst ys) e else .bad
        | _, _ => .bad)) Sm q fun ρ2 Z2 d m2 v H2 s2 Sm2 rd q2 => ?_
      split at q2
      · rename_i xs ys hx hy
        split at q2
        · rename_i hl
          unfold store at q2
          split at q2
          · obtain ⟨p', vs, hp', zp, hv, t⟩ := Sm2.mok.get hx
            have hp2 := s2.ix hp1
            rw [hp2] at hp'
            cases hp'
            obtain ⟨b, ws, rfl, hb, u⟩ := lst_seq Sm2.mok rd hy
            obtain ⟨I', s'⟩ := Sm2.mok.set hx hp2 (t.append u)
            exact ⟨p1, b, vs, ws, rfl, rfl, hv, hb, by rw [← t.length, ← u.length]; exact line_le hl, q2 ρ2 Z2 _ σ s' (Sm2.step s' I')⟩
          · exact q2.elim
        · exact q2.elim
      · exact q2.elim
    · exact q.elim
  · exact q.elim
theorem s_ifS {c : Expr} {a b : List Stmt} {pos : Pos} {ft : Env' → M → Res Bool} {fx fy : Env' → M → SRes} (hc : PT X c (RT X fa ca P1 W ft)) (ha : PSs X a (RS X fa ca W fx)) (hb : PSs X b (RS X fa ca W fy)) :
    PS X (.If c a b pos) (RS X fa ca W fun e m => match ft e m with
    | .ok k m => if k then fx e m else fy e m
    | .err x m => .err x e m
    | .bad => .bad) := by
  refine (ps_if hc ha hb).imp fun En σ H h => ?_
  obtain ⟨ρ, Z, e, m, Sm, h⟩ := h
  refine ⟨trivial, ρ, Z, e, m, Sm, ?_⟩
  dsimp only at h
  cases q : ft e m with
  | bad => rw [q] at h; exact h
  | err c m1 => rw [q] at h; exact fun ρ1 Z1 H1 s I => h ρ1 Z1 H1 σ s (Sm.step s I)
  | ok kk m1 =>
    rw [q] at h
    intro ρ1 Z1 H1 b s I hb'
    cases (show kk = b from hb')
    cases kk with
    | true => exact ⟨ρ1, Z1, e, m1, Sm.step s I, PSR.step Sm.mok.hot s h⟩
    | false => exact ⟨ρ1, Z1, e, m1, Sm.step s I, PSR.step Sm.mok.hot s h⟩
/-- one turn of a loop -/
theorem turnP {ρ : List Addr} {Z : Addr → Prop} {H : Hp} {r : SRes} {L : Env' → M → SRes} {En : Ends} (h : PSR X.K fa ca W ρ Z H (match r with
    | .nx e m => L e m
    | .cnt e m => L e m
    | .brk e m => .nx e m
    | r => r) En) (hot : Hot Z H) : PSR X.K fa ca W ρ Z H r { En with
      nx := fun σ' H' => ∃ ρ' Z' e' m', Step ρ Z H ρ' Z' H' ∧ Sim X.K fa ρ' Z' H' σ' e' m' ∧ PSR X.K fa ca W ρ' Z' H' (L e' m') En
      ct := fun σ' H' => ∃ ρ' Z' e' m', Step ρ Z H ρ' Z' H' ∧ Sim X.K fa ρ' Z' H' σ' e' m' ∧ PSR X.K fa ca W ρ' Z' H' (L e' m') En
      bk := En.nx } := by
  cases r with
  | nx e m => exact fun ρ' Z' H' σ' s S => ⟨ρ', Z', e, m, s, S, PSR.step hot s h⟩
  | cnt e m => exact fun ρ' Z' H' σ' s S => ⟨ρ', Z', e, m, s, S, PSR.step hot s h⟩
  | brk e m => exact h
  | ret d m => exact h
  | err c e m => exact h
  | bad => exact h
theorem psr_nx {K : PySem.W.Frag} {fa ca : Nat → Addr} {W : WX} {ρ : List Addr} {Z : Addr → Prop} {H : Hp} {r : SRes} {En : Ends} {N N' : L2.St → Hp → Prop} {b : L2.St → Hp → Prop} (h : PSR K fa ca W ρ Z H r { En with nx := N, ct := N, bk := b }) (hN : ∀ σ H, N σ H → N' σ H) : PSR K fa ca W ρ Z H r { En with nx := N', ct := N', bk := b } := by
  cases r with
  | nx e m => exact fun ρ' Z' H' σ' s S => hN _ _ (h ρ' Z' H' σ' s S)
  | cnt e m => exact fun ρ' Z' H' σ' s S => hN _ _ (h ρ' Z' H' σ' s S)
  | brk e m => exact h
  | ret d m => exact h
  | err c e m => exact h
  | bad => exact h
theorem s_while {c : Expr} {body : List Stmt} {pos : Pos} {ft : Env' → M → Res Bool} {fb : Env' → M → SRes} {n : Nat} (hp : PassesOwn (model X.prog X.w) X.A X.env X.xe) (hc : PT X c (RT X fa ca P1 W ft)) (hb : PSs X body (RS X fa ca W fb)) :
    PS X (.While c body [] pos) (RS X fa ca W fun e m => whileN ft fb n e m) := by
  refine (ps_while hp hc hb).imp fun En σ H h => ?_
  refine ⟨fun n σ H => ∃ ρ Z e m, Sim X.K fa ρ Z H σ e m ∧ PSR X.K fa ca W ρ Z H (whileN ft fb n e m) En, ⟨n, h⟩, ?_⟩
  intro n σ H ⟨ρ, Z, e, m, Sm, h⟩
  cases n with
  | zero => exact (show False from h).elim
  | succ n =>
    refine ⟨trivial, ρ, Z, e, m, Sm, ?_⟩
    unfold whileN at h
    cases q : ft e m with
    | bad => rw [q] at h; exact h
    | err c m1 => rw [q] at h; exact fun ρ1 Z1 H1 s I => h ρ1 Z1 H1 σ s (Sm.step s I)
    | ok kk m1 =>
      rw [q] at h
      intro ρ1 Z1 H1 b s I hb'
      cases (show kk = b from hb')
      have Sm1 := Sm.step s I
      have h := PSR.step Sm.mok.hot s h
      cases kk with
      | false => exact h ρ1 Z1 H1 σ Step.refl Sm1
      | true =>
        have t := turnP (L := whileN ft fb n) h Sm1.mok.hot
        exact ⟨_, fun σ' H' ⟨ρ', Z', e', m', s', S', h'⟩ => ⟨n, Nat.lt_succ_self n, ρ', Z', e', m', S', h'⟩, ρ1, Z1, e, m1, Sm1, t⟩
/-- a for over fixed items -/
theorem s_for {tg it' : Expr} {body : List Stmt} {tg0 : Tg} {pos : Pos} {fi : Env' → M → Res Src} {fb : Env' → M → SRes} (G : GoodS T fa ca cf k S X) (hc : S.calm = true) (hs : notSet it' = true)
    (hi : PI X tg it' (tI X.K fa ca P1 W fi)) (hg : chkTg S tg0 tg = true) (hb : PSs X body (RS X fa ca W fb)) :
    PS X (.For tg it' body [] pos) (RS X fa ca W fun e m => match fi e m with
    | .ok (.seq xs) m => forL (fun x e m => match assignTg tg0 x e with
      | some e' => fb e' m
      | none => .bad) xs e m
    | .ok (.rf r n) m => forR (fun x e m => match assignTg tg0 x e with
      | some e' => fb e' m
      | none => .bad) r n 0 e m
    | .err x m => .err x e m
    | .bad => .bad) := by
  refine (ps_for G.hp (G.g.calm hc) hi (s_tg G.g hg) hb (notSet_iter hs)).imp fun En σ H h => ?_
  obtain ⟨ρ, Z, e, m, Sm, h⟩ := h
  refine ⟨trivial, ρ, Z, e, m, Sm, ?_⟩
  dsimp only at h
  cases q : fi e m with
  | bad => rw [q] at h; exact h
  | err c m1 => rw [q] at h; exact fun ρ1 Z1 H1 s I => h ρ1 Z1 H1 σ s (Sm.step s I)
  | ok sr m1 =>
    rw [q] at h
    cases sr with
    | seq xs =>
      intro ρ1 Z1 H1 J s I g
      have Sm1 := Sm.step s I
      have h := PSR.step Sm.mok.hot s h
      refine ⟨fun i n σi Hi => n = xs.length - i ∧ i ≤ xs.length ∧ ∃ ρi Zi ei mi, Step ρ1 Z1 H1 ρi Zi Hi ∧ Sim X.K fa ρi Zi Hi σi ei mi ∧ PSR X.K fa ca W ρi Zi Hi (forL (fun x e m => match assignTg tg0 x e with
        | some e' => fb e' m
        | none => .bad) (xs.drop i) ei mi) En, ⟨xs.length, rfl, Nat.zero_le _, ρ1, Z1, e, m1, Step.refl, Sm1, h⟩, ?_⟩
      intro i n σi Hi ⟨hn, hle, ρi, Zi, ei, mi, si, Si, hi⟩
      have gi := g ρi Zi Hi si Si.mok.hot
      by_cases hl : i < xs.length
      · refine .inr ?_
        have hx : xs[i]? = some xs[i] := List.getElem?_eq_getElem hl
        obtain ⟨g1, g2⟩ := gi.1 i xs[i] hx
        rw [List.drop_eq_getElem_cons hl] at hi
        unfold forL at hi
        refine ⟨g1, fun σ' H' => ∃ ρ' Z' e' m', Step ρi Zi Hi ρ' Z' H' ∧ Sim X.K fa ρ' Z' H' σ' e' m' ∧ PSR X.K fa ca W ρ' Z' H' (forL (fun x e m => match assignTg tg0 x e with
            | some e' => fb e' m
            | none => .bad) (xs.drop (i + 1)) e' m') En, fun σ' H' hN => ?_, fun v H' y => ?_⟩
        · obtain ⟨ρ', Z', e', m', s', S', h'⟩ := hN
          exact ⟨xs.length - (i + 1), by omega, rfl, by omega, ρ', Z', e', m', si.trans I.hot s', S', h'⟩
        · obtain ⟨sy, ky, ry⟩ := g2 v H' y
          have Sy := Si.step sy (ky mi Si.mok)
          have hi := PSR.step Si.mok.hot sy hi
          cases qa : assignTg tg0 xs[i] ei with
          | none => rw [qa] at hi; exact (show False from hi).elim
          | some e' =>
            rw [qa] at hi
            refine ⟨ρi, Zi, ei, mi, xs[i], e', Sy, ry, qa, fun σ2 S2 _ _ => ?_⟩
            have t := turnP (L := forL (fun x e m => match assignTg tg0 x e with
              | some e' => fb e' m
              | none => .bad) (xs.drop (i + 1))) hi Sy.mok.hot
            refine ⟨ρi, Zi, e', mi, S2, ?_⟩
            refine psr_nx t (fun σ' H' hN => ?_)
            obtain ⟨ρ', Z', e2, m2, s2, S2', h2⟩ := hN
            exact ⟨ρ', Z', e2, m2, sy.trans Si.mok.hot s2, S2', h2⟩
      · have e1 : i = xs.length := by omega
        subst e1
        rw [List.drop_length] at hi
        exact .inl ⟨gi.2, hi ρi Zi Hi σi Step.refl Si⟩
    | rf r n =>
      intro ρ1 Z1 H1 p s I hp
      have Sm1 := Sm.step s I
      have h := PSR.step Sm.mok.hot s h
      refine ⟨fun i n σi Hi => ∃ ρi Zi ei mi, ρi[r]? = some p ∧ Sim X.K fa ρi Zi Hi σi ei mi ∧ PSR X.K fa ca W ρi Zi Hi (forR (fun x e m => match assignTg tg0 x e with
        | some e' => fb e' m
        | none => .bad) r n i ei mi) En, ⟨n, ρ1, Z1, e, m1, hp, Sm1, h⟩, ?_⟩
      intro i n σi Hi ⟨ρi, Zi, ei, mi, hpi, Si, hi⟩
      cases n with
      | zero =>
        unfold forR at hi
        split at hi
        · rename_i xs hx
          split at hi
          · rename_i hle
            obtain ⟨p', vs, hp', _, hv, t⟩ := Si.mok.get hx
            rw [hpi] at hp'
            cases hp'
            exact .inl ⟨⟨vs, SqL.of hv, by rw [← t.length]; exact hle⟩, hi ρi Zi Hi σi Step.refl Si⟩
          · exact (show False from hi).elim
        · exact (show False from hi).elim
      | succ n =>
        unfold forR at hi
        split at hi
        · rename_i xs hx
          obtain ⟨p', vs, hp', _, hv, t⟩ := Si.mok.get hx
          rw [hpi] at hp'
          cases hp'
          split at hi
          · rename_i hxn
            refine .inl ⟨⟨vs, SqL.of hv, ?_⟩, hi ρi Zi Hi σi Step.refl Si⟩
            rw [← t.length]
            exact List.getElem?_eq_none_iff.mp hxn
          · rename_i x hxs
            obtain ⟨v, hvv, rv⟩ := t.get hxs
            refine .inr ⟨⟨vs, v, SqL.of hv, hvv⟩, fun σ' H' => ∃ ρ' Z' e' m', Step ρi Zi Hi ρ' Z' H' ∧ Sim X.K fa ρ' Z' H' σ' e' m' ∧ PSR X.K fa ca W ρ' Z' H' (forR (fun x e m => match assignTg tg0 x e with
                | some e' => fb e' m
                | none => .bad) r n (i + 1) e' m') En, fun σ' H' hN => ?_, fun w H' y => ?_⟩
            · obtain ⟨ρ', Z', e', m', s', S', h'⟩ := hN
              exact ⟨n, Nat.lt_succ_self n, ρ', Z', e', m', s'.ix hpi, S', h'⟩
            · obtain ⟨rfl, y⟩ := y
              have ey := y vs (SqL.of hv)
              rw [hvv] at ey
              cases ey
              cases qa : assignTg tg0 x ei with
              | none => rw [qa] at hi; exact (show False from hi).elim
              | some e' =>
                rw [qa] at hi
                refine ⟨ρi, Zi, ei, mi, x, e', Si, rv, qa, fun σ2 S2 _ _ => ?_⟩
                exact ⟨ρi, Zi, e', mi, S2, turnP (L := forR (fun x e m => match assignTg tg0 x e with
                  | some e' => fb e' m
                  | none => .bad) r n (i + 1)) hi Si.mok.hot⟩
        · exact (show False from hi).elim
end
end Dx
/-! Dx, part 17: several except clauses, each may name what it caught. -/
namespace Dx
open PySem PySem.Spec PyProof.Rows L2
abbrev Hdl := Value × Option Nat × (Addr → Value → Option Addr → TS)
/-- a suite's ends: its name goes -/
def endsX (En : Ends) : Option Nat → Ends
  | none => En
  | some i => { nx := fun σ H => En.nx (σ.set i none) H, rt := En.rt, bk := fun σ H => En.bk (σ.set i none) H, ct := fun σ H => En.ct (σ.set i none) H }
def slotX (σ : L2.St) (a : Addr) : Option Nat → L2.St
  | none => σ
  | some i => σ.set i (some (.ref a))
def wX (K : PySem.W.Frag) (Wo : WX) (En : Ends) : List Hdl → WX
  | [] => Wo
  | (c, i, ts) :: r => fun cls d σ H => ∃ b, PySem.W.exmOne K cls c = some b ∧ (b = true → ∀ a, H a = none → ts a cls d (endsX En i) (slotX σ a i) H) ∧ (b = false → wX K Wo En r cls d σ H)
/-- the clauses, each with its reading -/
inductive HdX (X : Cx) : List ExceptHandler → List Hdl → Prop
  | nil : HdX X [] []
  | cons {x : Str} {c : Value} {i : Option Nat} {nm : Option Str} {ts : Addr → Value → Option Addr → TS} {b : Stmt} {bs : List Stmt} {np hp : Pos} {l : List ExceptHandler} {r : List Hdl} (hc : Names X x c)
      (hn : match i, nm with
        | none, none => True
        | some i, some n => X.N[i]? = some n ∧ X.env.kindOf n = some .local
        | _, _ => False)
      (hs : ∀ (a : Addr) (oe : Obj) (cls : Value) (d : Option Addr) (pn : List (Addr × Obj)), Zc cls d oe → (∃ vs, oe.data = .fields vs) → PSs (X.suite a ((a, oe) :: pn)) (b :: bs) (ts a cls d)) (hr : HdX X l r) :
      HdX X (.ExceptHandler (some (.Name x np)) nm (b :: bs) hp :: l) ((c, i, ts) :: r)
section
variable {X : Cx} {body : List Stmt} {hd : ExceptHandler} {hds : List ExceptHandler} {l : List Hdl} {pos : Pos} {tb : WX → TS} {Wo : WX}
theorem ps_tryX (hst : X.stack = X.env :: X.outer) (hfr : X.env.frame = some X.env.locals) (hN : X.N.Nodup) (tk : Takes X Wo)
    (hb : ∀ (W : WX) (pn : List (Addr × Obj)) (xe : Value → Shared → Prop), Takes (X.tr pn xe) W → PassesOwn (model X.prog X.w) X.A X.env xe → PSs (X.tr pn xe) body (tb W))
    (hh : HdX X (hd :: hds) l) : PS X (.Try body (hd :: hds) [] [] pos) (fun En σ H => tb (wX X.K Wo En l) En σ H) := by
  refine ⟨fun pins s0 σ0 H0 En I0 q0 => ?_⟩
  have xok := I0.ok
  have hA : X.A.frames = some (X.env :: X.outer) := by rw [xok.frames, hst]
  refine wpAny_Try_except ?_
  let next : Value → Shared → Prop := fun e s₁ => wpAny (model X.prog X.w) X.A (noteFrame e X.env) (fun _ s₂ => wpAny (model X.prog X.w) X.A (setFlight e none)
    (fun _ s₃ => wpAny (model X.prog X.w) X.A (handleBy e X.env (hd :: hds)) (SP X pins En) X.xe s₃) X.xe s₂) X.xe s₁
  refine wpAny_mono ((hb (wX X.K Wo En l) (X.pn ++ pins) next (fun u sE xx => ?_) PassesOwn.looking).run [] s0 σ0 H0 En (I0.toTry _) q0) (fun f s1 done => ?_) (fun e s1 he => he)
  · obtain ⟨ea, B, sI, pins', σ1, H1, cls, d, rfl, JT, nb, up, sky, na, os, ag, want⟩ := xx
    have J1 : Inv X pins σ1 H1 sI := JT.ofTry xok
    have sky1 : Sky B (X.env :: X.outer) ea (Zc cls d) X.env.locals sE.heap := by rw [← hst]; exact sky
    show wpAny (model X.prog X.w) X.A (noteFrame (.ref ea) X.env) _ _ _
    refine Sky.land Zc.steady hA hfr sky1 fun hL flL upL => ?_
    have K1 : Inv X pins σ1 H1 { sE with heap := hL } := J1.landed nb flL.1 (up.trans upL) os ag
    obtain ⟨oe, evs, gE, zE, dE⟩ := flL.there
    -- the exception is no frame
    have apart : ea ∉ frs (X.env :: X.outer) := fun hm => by
      obtain ⟨_, o', e', hnf⟩ := flL.2.2.1.mem hm
      rw [gE] at e'
      cases e'
      exact hnf _ dE
    have ne1 : ea ≠ X.env.locals := fun z => apart (List.mem_filterMap.mpr ⟨X.env, List.mem_cons_self, by rw [hfr, z]⟩)
    have ne2 : ea ∉ X.fs := fun hm => by
      obtain ⟨e, he, q⟩ := List.mem_filterMap.mp hm
      exact apart (List.mem_filterMap.mpr ⟨e, List.mem_cons_of_mem _ he, q⟩)
    have KS := K1.suite gE dE na ne1 ne2
    have go : ∀ {hs' : List ExceptHandler} {r : List Hdl}, HdX X hs' r → wX X.K Wo En r cls d σ1 H1 → wpAny (model X.prog X.w) X.A (handleBy (.ref ea) X.env hs') (SP X pins En) X.xe { sE with heap := hL } := by
      intro hs' r hk
      induction hk with
      | nil =>
        intro w
        refine wpAny_handleBy_nil ?_
        obtain ⟨_, _, _, o2, vs2, T2, oT2, ts2, g2, z2, d2, h2, _⟩ := id flL
        unfold PySem.passOn
        refine wpAny_bind (wpAny_field g2 d2 h2 ?_)
        rw [if_neg (show ¬ ((Value.ref T2 == Value.none) = true) from by simp)]
        have last : wpAny (model X.prog X.w) X.A (setFlight (.ref ea) X.env.frame) (fun _ s4 => wpAny (model X.prog X.w) X.A (throw (.ref ea) : Sem Flow) (SP X pins En) X.xe s4) X.xe { sE with heap := hL } := by
          rw [hfr]
          exact HandSPX.setFlight_upZ flL fun hM hhM upM => wpAny_throw (tk _ _ ⟨ea, B, sI, pins, σ1, H1, cls, d, rfl, J1, nb, (up.trans upL).trans upM, .inr (.inr (by rw [hst]; exact hhM)), na, os, ag, w⟩)
        first
          | exact wpAny_bind (wpAny_pure (wpAny_bind last))
          | exact wpAny_bind last
      | @cons x c i nm ts b bs np hp hs2 r2 hc hn hsu hr ih =>
        intro w
        obtain ⟨k, hk1, hyes, hno⟩ := w
        refine wpAny_handleBy_cons (codeAny_handlers_test ?_) (by intro q; cases q)
        have LT : PySem.W.Looks (model X.prog X.w) hL (typeOf (.ref ea)) cls := fun A Q E s kk q => wpAny_typeOf_ref (kk _ _ gE) (by rw [zE.1]; exact q)
        have LM := PySem.W.exm_one (M := model X.prog X.w) K1.kIn LT hk1
        have named : ∀ {Q : Value → Shared → Prop} {E : Value → Shared → Prop}, Q c { sE with heap := hL } → wpAny (model X.prog X.w) (X.A.mark (some (.ref ea))) (eval (.Name x np) X.env) Q E { sE with heap := hL } := fun {Q E} q => by
          obtain ⟨hg, hdb, hm | ⟨hm, hv, hnn⟩⟩ := hc
          · exact ld_glob (X := X.suite ea ((ea, oe) :: (X.pn ++ pins))) KS hg hm q hdb
          · exact ld_blt (X := X.suite ea ((ea, oe) :: (X.pn ++ pins))) KS hg hm hv q hnn hdb
        refine named (LM.here ?_)
        cases k with
        | false =>
          show wpAny _ X.A (handleBy (.ref ea) X.env hs2) _ _ _
          exact ih (hno rfl)
        | true =>
          cases i with
          | none => cases nm with
            | some _ => exact hn.elim
            | none =>
              refine codeAny_handlers_suite (HandSPX.lands_againZ flL fun hM flM upM => ?_)
              have K2 : Inv X pins σ1 H1 { sE with heap := hM } := J1.landed nb flM.1 ((up.trans upL).trans upM) os ag
              obtain ⟨o4, vs4, g4, z4, d4⟩ := flM.there
              refine wpAny_mono ((hsu ea o4 cls d (X.pn ++ pins) z4 ⟨_, d4⟩).run [] _ _ H1 _ (K2.suite g4 d4 na ne1 ne2) (hyes rfl ea na)) (fun f s6 hsp => ?_) (fun _ _ z => False.elim z)
              cases f with
              | ret u => obtain ⟨v6, σ6, H6, S6, r6, q6⟩ := hsp; exact ⟨_, _, _, S6.unsuite xok, r6, q6⟩
              | next => obtain ⟨σ6, H6, S6, q6⟩ := hsp; exact ⟨_, _, S6.unsuite xok, q6⟩
              | brk => obtain ⟨σ6, H6, S6, q6⟩ := hsp; exact ⟨_, _, S6.unsuite xok, q6⟩
              | cont => obtain ⟨σ6, H6, S6, q6⟩ := hsp; exact ⟨_, _, S6.unsuite xok, q6⟩
          | some i => cases nm with
            | none => exact hn.elim
            | some n =>
              obtain ⟨hi, hl⟩ := hn
              refine codeAny_handlers_suite_as (HandSPX.lands_againZ flL fun hM flM upM => ?_)
              have K2 : Inv X pins σ1 H1 { sE with heap := hM } := J1.landed nb flM.1 ((up.trans upL).trans upM) os ag
              obtain ⟨o4, vs4, g4, z4, d4⟩ := flM.there
              refine store_ok (X := X.suite ea ((ea, o4) :: (X.pn ++ pins))) (v := .ref ea) (K2.suite g4 d4 na ne1 ne2) hN hi (.inl hl) rfl (fun s5 S5 => ?_) (.inr hl)
              refine wpAny_mono ((hsu ea o4 cls d (X.pn ++ pins) z4 ⟨_, d4⟩).run [] s5 _ H1 _ S5 (hyes rfl ea na)) (fun f s6 hsp => ?_) (fun _ _ z => False.elim z)
              have gone : ∀ {σ6 : L2.St} {H6 : Hp} {Q : Shared → Prop}, Inv (X.suite ea ((ea, o4) :: (X.pn ++ pins))) [] σ6 H6 s6 → (∀ s7, Inv X pins (σ6.set i none) H6 s7 → Q s7) →
                  wpAny (model X.prog X.w) X.A (do bindName X.env n .none; unbindBehindTheSuite X.env n hp) (fun _ s7 => Q s7) X.xe s6 := fun S6 hq => gone_ok (S6.unsuite xok) hN hi hl hq
              cases f with
              | ret u => obtain ⟨v6, σ6, H6, S6, r6, q6⟩ := hsp; exact gone S6 fun s7 J7 => ⟨_, _, _, J7, r6, q6⟩
              | next => obtain ⟨σ6, H6, S6, q6⟩ := hsp; exact gone S6 fun s7 J7 => ⟨_, _, J7, q6⟩
              | brk => obtain ⟨σ6, H6, S6, q6⟩ := hsp; exact gone S6 fun s7 J7 => ⟨_, _, J7, q6⟩
              | cont => obtain ⟨σ6, H6, S6, q6⟩ := hsp; exact gone S6 fun s7 J7 => ⟨_, _, J7, q6⟩
    exact go hh want
  · cases f with
    | ret u => obtain ⟨v, σ', H', J', r, q⟩ := done; exact ⟨v, σ', H', J'.ofTry xok, r, q⟩
    | next => obtain ⟨σ', H', J', q⟩ := done; exact wpAny_execs_nil ⟨σ', H', J'.ofTry xok, q⟩
    | brk => obtain ⟨σ', H', J', q⟩ := done; exact ⟨σ', H', J'.ofTry xok, q⟩
    | cont => obtain ⟨σ', H', J', q⟩ := done; exact ⟨σ', H', J'.ofTry xok, q⟩
end
end Dx
/-! Dx, part 18: raise and try by data. -/
namespace Dx
open PySem PySem.Spec PyProof.Rows L2
section
variable {T : Tab} {fa ca : Nat → Addr} {cf : Cfg} {k : Nat} {S : SC} {X : Cx} {W : WX}
theorem raises_cls {X : Cx} {x : Str} {C : Addr} (c : ClsOk X.K X.mg x C) : Raises X (.ref C) := raises_own c.sb c.ty
/-- x() -/
theorem pmk0 {x : Str} {C : Addr} {p pos : Pos} (c : ClsOk X.K X.mg x C) (hg : Gl X x) : PMk X (.Call (.Name x p) [] [] pos) (fun _ H Q => Q (.ref C) none H) := by
  intro pins s σ H Q I h
  refine wpAny_Call_Name_kw (ld_glob I hg c.g ?_ c.db)
  refine PySem.W.callWith_K0 I.kIn c.kp ?_
  show wpAny _ _ (call (.ref C) []) _ _ _
  obtain ⟨bm, N, nm, qn, bs, hdct, sn, sub, ab, col, dd, k0, k1, k2, k3, k5, mN, hC, hN, hni, T'⟩ := exc_obj I.kIn c.ex
  obtain ⟨hp1, g1, d1, tk1, os1⟩ := s
  refine wpAny_call_exc_subT PySem.F.excBase_ValueError T' hC hN hni (fun h' e hm => ?_) (Nat.zero_le _)
  exact mk_of I hm (raises_cls c) h (I.hok.gone hm.new)
theorem s_raise {x : Str} {i : Nat} {p pos pos2 : Pos} (G : GoodS T fa ca cf k S X) (tk : Takes X W) (hc : S.calm = true) (hi : T.cls[i]? = some x) (hg : gloB S x = true) :
    PS X (.Raise (some (.Call (.Name x p) [] [] pos)) none pos2) (RS X fa ca W fun e m => .err i e m) := by
  refine (ps_raise (G.g.calm hc) tk (pmk0 (G.g.f.cls i x hi) (glo_of G.g hg).1)).imp fun En σ H h => ?_
  obtain ⟨ρ, Z, e, m, Sm, h⟩ := h
  exact h ρ Z H σ Step.refl Sm
/-! ### try -/
def PXs (a : Addr) : Option Nat → L2.St → Prop
  | none, _ => True
  | some i, σ => σ[i]? = some (some (.ref a))
def evAct (c : Cfg) : HAct → Env' → M → SRes
  | .asg j a, e, m => (match evE c a e m with
    | .ok d m => .nx (e.set j (some d)) m
    | _ => .bad)
  | .ret a, e, m => (match evE c a e m with
    | .ok d m => .ret d m
    | _ => .bad)
def tAct (K : PySem.W.Frag) (fa ca : Nat → Addr) (cf : Cfg) (y : Nat) (i : Option Nat) (act : HAct) : Addr → Value → Option Addr → TS := fun a cls d En σ H =>
  cls = .ref (ca y) ∧ d = none ∧ (∃ σ0, σ = slotX σ0 a i) ∧ ∃ ρ Z e m, Sim K fa ρ Z H σ e m ∧ PSR K fa ca W0 ρ Z H (evAct cf act e m) En
theorem evH_eq {c : Cfg} {y : Nat} {i : Option Nat} {act : HAct} {hs : CHs} {x : Nat} {e : Env'} {m : M} : evH c (.cons y i act hs) x e m = if x = y then evAct c act (dropN e i) m else evH c hs x e m := by
  cases act <;> rfl
/-- an expression within the suite -/
theorem inSuite {f : Env' → M → Res D} {kk : Env' → D → M → SRes} {P : L2.St → Prop} {En : Ends} {σ : L2.St} {H : Hp} {ρ : List Addr} {Z : Addr → Prop} {e : Env'} {m : M} (hp : P σ) (Sm : Sim X.K fa ρ Z H σ e m) (h : PSR X.K fa ca W0 ρ Z H (match f e m with
    | .ok d m => kk e d m
    | _ => .bad) En) (Q : VK) (hk : ∀ ρ1 Z1 d m1 v H1, Sim X.K fa ρ1 Z1 H1 σ e m1 → RelD X.K fa ρ1 Z1 H1 d v → PSR X.K fa ca W0 ρ1 Z1 H1 (kk e d m1) En → Q v H1) : RE X fa ca P W0 f σ H Q := by
  refine ⟨hp, ρ, Z, e, m, Sm, ?_⟩
  cases q : f e m with
  | ok d m1 =>
    rw [q] at h
    exact fun ρ1 Z1 H1 v s I r => hk ρ1 Z1 d m1 v H1 (Sm.step s I) r (PSR.step Sm.mok.hot s h)
  | err c m1 => rw [q] at h; exact h.elim
  | bad => rw [q] at h; exact h.elim
theorem act_asg {j : Nat} {e : CE} {body : List Stmt} (h : chkAct T S (.asg j e) body = true) : ∃ n np v pos, body = [.Assign [.Name n np] v pos] ∧ S.exc ≠ some j ∧ notComp v = true ∧ locB S j n = true ∧ chkE T S e v = true := by
  simp only [chkAct] at h
  split at h
  · rename_i n np v vp
    simp only [Bool.and_eq_true, bne_iff_ne, ne_eq] at h
    exact ⟨_, _, _, _, rfl, h.1.1.1, h.1.1.2, h.1.2, h.2⟩
  · cases h
theorem act_ret {e : CE} {body : List Stmt} (h : chkAct T S (.ret e) body = true) : ∃ v pos, body = [.Return (some v) pos] ∧ chkE T S e v = true := by
  simp only [chkAct] at h
  split at h
  · exact ⟨_, _, rfl, h⟩
  · cases h
theorem s_act {y : Nat} {i : Option Nat} {act : HAct} {a : Addr} {oe : Obj} {cls : Value} {d : Option Addr} {pn : List (Addr × Obj)} {body : List Stmt} {x : Str} (G : GoodS T fa ca cf k S X) (hy : T.cls[y]? = some x) (hz : Zc cls d oe) (hf : ∃ vs, oe.data = .fields vs)
    (hin : ∀ i', i = some i' → ∃ n, S.N[i']? = some n) (h : chkAct T { S with calm := false, exc := i } act body = true) : PSs (X.suite a ((a, oe) :: pn)) body (tAct X.K fa ca cf y i act a cls d) := by
  refine ⟨fun pins s σ H En I q => ?_⟩
  obtain ⟨rfl, rfl, ⟨σ0, eσ⟩, q⟩ := q
  have hp : PXs a i σ := by
    cases i with
    | none => trivial
    | some i =>
      obtain ⟨n, hn⟩ := hin i rfl
      have l := I.len
      have e1 : (X.suite a ((a, oe) :: pn)).N = S.N := G.g.N
      rw [e1, eσ] at l
      have l2 := (List.getElem?_eq_some_iff.mp hn).1
      show σ[i]? = _
      rw [eσ]
      refine List.getElem?_set_self ?_
      have e2 : (slotX σ0 a (some i)).length = σ0.length := List.length_set
      omega
  have G2 : Good T fa ca cf k { S with calm := false, exc := i } (PXs a i) (X.suite a ((a, oe) :: pn)) := by
    refine ⟨G.g.N, G.g.sc, G.g.nd, G.g.fnb, fun z => absurd z Bool.false_ne_true, fun z => absurd z Bool.false_ne_true, fun j hj => ?_, G.g.f⟩
    cases (show i = some j from hj)
    exact ⟨a, ca y, fun σ h => h, call_isE (G.g.f.cls y x hy).ec hz hf, (G.g.f.cls y x hy).ve⟩
  have tk0 : Takes (X.suite a ((a, oe) :: pn)) W0 := takes_none5
  cases act with
  | asg j e =>
    obtain ⟨n, np, v, pos, rfl, h1, h2, h3, h4⟩ := act_asg h
    have pv := sE e G2 tk0 h4
    obtain ⟨l1, l2, l3⟩ := loc_of G2 h3
    refine (pss_cons (ps_set (X := X.suite a ((a, oe) :: pn)) (by rw [show (X.suite a ((a, oe) :: pn)).N = S.N from G.g.N]; exact G.g.nd) l1 l2 pv (swapsWith_no h2) l3) pss_nil).run pins s σ H En I ?_
    obtain ⟨ρ, Z, e0, m, Sm, q⟩ := q
    refine inSuite (kk := fun e d m => .nx (e.set j (some d)) m) hp Sm q _ fun ρ1 Z1 d m1 v H1 Sm1 r q1 => ?_
    exact q1 ρ1 Z1 H1 _ Step.refl (Sm1.set r)
  | ret e =>
    obtain ⟨v, pos, rfl, h4⟩ := act_ret h
    refine (pss_cons (ps_ret (X := X.suite a ((a, oe) :: pn)) (sE e G2 tk0 h4)) pss_nil).run pins s σ H En I ?_
    obtain ⟨ρ, Z, e0, m, Sm, q⟩ := q
    refine inSuite (kk := fun e d m => .ret d m) hp Sm q _ fun ρ1 Z1 d m1 v H1 Sm1 r q1 => ?_
    exact q1 ρ1 Z1 H1 v Step.refl Sm1.mok r
/-- the clauses' reading -/
def hdlOf (K : PySem.W.Frag) (fa ca : Nat → Addr) (cf : Cfg) : CHs → List Hdl
  | .nil => []
  | .cons y i act hs => (.ref (ca y), i, tAct K fa ca cf y i act) :: hdlOf K fa ca cf hs
theorem s_hdls (G : GoodS T fa ca cf k S X) : ∀ (hs : CHs) {l : List ExceptHandler}, chkH T S hs l = true → HdX X l (hdlOf X.K fa ca cf hs)
  | .nil, l, h => by
    unfold chkH at h
    split at h
    · exact .nil
    · cases h
  | .cons y i act hs, l, h => by
    unfold chkH at h
    split at h
    · rename_i x np nm body hp l2
      simp only [Bool.and_eq_true] at h
      obtain ⟨⟨⟨⟨h1, h2⟩, h3⟩, h4⟩, h5⟩ := h
      have h1 := of_decide_eq_true h1
      obtain ⟨g1, g2⟩ := glo_of G.g h2
      cases body with
      | nil => cases act <;> cases h4
      | cons b bs =>
        refine .cons ⟨g1, g2, .inl (G.g.f.cls y x h1).g⟩ ?_ (fun a oe cls d pn hz hf => s_act G h1 hz hf (fun i' hi => ?_) h4) (s_hdls G hs h5)
        rotate_left
        · subst hi
          cases nm with
          | none => cases h3
          | some n => rw [Bool.and_eq_true] at h3; exact ⟨n, of_decide_eq_true h3.1⟩
        split at h3
        · trivial
        · rename_i i n
          rw [Bool.and_eq_true] at h3
          refine ⟨by rw [G.g.N]; exact of_decide_eq_true h3.1, ?_⟩
          show X.env.scope.names.lookup n = _
          rw [G.g.sc]
          exact of_decide_eq_true (by simpa using h3.2)
        · cases h3
    · cases h
theorem unname {K : PySem.W.Frag} {ρ : List Addr} {Z : Addr → Prop} {H : Hp} {σ : L2.St} {e : Env'} {m : M} (S : Sim K fa ρ Z H σ e m) {i : Nat} {o : Option V} (h : getV e i = none) : Sim K fa ρ Z H (σ.set i o) e m := by
  refine ⟨S.mok, fun j d hj => ?_, by rw [List.length_set]; exact S.len⟩
  have ne : i ≠ j := fun z => by rw [← z, h] at hj; cases hj
  obtain ⟨v, h1, h2⟩ := S.env j d hj
  exact ⟨v, by rw [List.getElem?_set_ne ne]; exact h1, h2⟩
theorem getV_drop {e : Env'} {i j : Nat} {d : D} (h : i ≠ j) : getV ((e.set i none).set j (some d)) i = none := by
  cases q : getV ((e.set i none).set j (some d)) i with
  | none => rfl
  | some d' =>
    rcases getV_set q with ⟨z, _⟩ | ⟨_, q⟩
    · exact absurd z.symm h
    · exact absurd rfl (getV_none q).1
theorem act_ends {K : PySem.W.Frag} {ρ : List Addr} {Z : Addr → Prop} {H : Hp} {En : Ends} {i : Option Nat} {act : HAct} {body : List Stmt} {e : Env'} {m : M} (hc : chkAct T { S with calm := false, exc := i } act body = true) (h : PSR K fa ca W ρ Z H (evAct cf act (dropN e i) m) En) :
    PSR K fa ca W0 ρ Z H (evAct cf act (dropN e i) m) (endsX En i) := by
  cases act with
  | ret a =>
    simp only [evAct] at h ⊢
    cases q : evE cf a (dropN e i) m with
    | ok d m1 =>
      rw [q] at h
      cases i <;> exact h
    | err c m1 => rw [q] at h; exact h.elim
    | bad => rw [q] at h; exact h.elim
  | asg j a =>
    obtain ⟨n, np, v, pos, rfl, h1, _⟩ := act_asg hc
    simp only [evAct] at h ⊢
    cases q : evE cf a (dropN e i) m with
    | err c m1 => rw [q] at h; exact h.elim
    | bad => rw [q] at h; exact h.elim
    | ok d m1 =>
      rw [q] at h
      cases i with
      | none => exact h
      | some i => exact fun ρ' Z' H' σ' s S' => h ρ' Z' H' _ s (unname S' (getV_drop fun z => h1 (by rw [z])))
/-- what the clauses wish, by data -/
theorem wX_of {K : PySem.W.Frag} {ρ : List Addr} {Z : Addr → Prop} {H : Hp} {En : Ends} {x : Nat} {xn : Str} {σ : L2.St} {e : Env'} {m : M} (hK : K = X.K) (G : GoodS T fa ca cf k S X) (hx : T.cls[x]? = some xn) (Sm : Sim K fa ρ Z H σ e m) :
    ∀ (hs : CHs) {l : List ExceptHandler}, chkH T S hs l = true → PSR K fa ca W ρ Z H (evH cf hs x e m) En → wX K W En (hdlOf K fa ca cf hs) (.ref (ca x)) none σ H
  | .nil, l, _, h => h ρ Z H σ Step.refl Sm
  | .cons y i act hs, l, hl, h => by
    rw [evH_eq] at h
    unfold chkH at hl
    split at hl
    · rename_i xs np nm body hp l2
      simp only [Bool.and_eq_true] at hl
      obtain ⟨⟨⟨⟨h1, h2⟩, h3⟩, h4⟩, h5⟩ := hl
      refine ⟨decide (x = y), by rw [hK]; exact G.g.f.exm x y xn xs hx (of_decide_eq_true h1), fun hb a ha => ?_, fun hb => ?_⟩
      · have exy := of_decide_eq_true hb
        rw [if_pos exy] at h
        refine ⟨by rw [exy], rfl, ⟨σ, rfl⟩, ρ, Z, dropN e i, m, ?_, ?_⟩
        · cases i with
          | none => exact Sm
          | some i => exact Sm.drop _
        · exact act_ends h4 h
      · rw [if_neg (of_decide_eq_false hb)] at h
        exact wX_of hK G hx Sm hs (l := l2) h5 h
    · cases hl
end
end Dx
/-! Dx, part 19: every statement runs as the evaluator says. -/
namespace Dx
open PySem PySem.Spec PyProof.Rows L2
section
variable {T : Tab} {fa ca : Nat → Addr} {cf : Cfg} {k : Nat} {S : SC} {X : Cx} {W : WX}
/-- name = [..]: stored within the comprehension's frame -/
theorem s_setC {y : Str} {py pos spos : Pos} {i : Nat} {l : CL} {elt : Expr} {gs : List Comprehension} {scope : Scope} {f : Env' → M → Res D} (G : GoodS T fa ca cf k S X) (tk : Takes X W) (hl : locB S i y = true) (hw : swC S y py pos scope = true)
    (hc : chkL T S l (.ListComp elt gs scope pos) = true) (hcm : (match l with
      | .comp _ _ _ _ _ => true
      | _ => false) = true) (hr : ∀ {σ : L2.St} {H : Hp} {Q : VK}, RE X fa ca P1 W f σ H Q → RF X fa ca P1 W (evL cf l) σ H Q) :
    PS X (.Assign [.Name y py] (.ListComp elt gs scope pos) spos) (RS X fa ca W fun e m => (f e m).toS e fun d m => match assignTg (.name i) d e with
      | some e' => .nx e' m
      | none => .bad) := by
  cases l <;> first | cases hcm | skip
  rename_i ce tg it cond own
  unfold chkL at hc
  split at hc
  · rename_i y0 g scope0 pos0 e0
    injection e0 with e1 e2 e3 e4
    subst e1 e2 e3 e4
    obtain ⟨tg', it', ifs, ia⟩ := g
    simp only [Bool.and_eq_true] at hc
    obtain ⟨⟨⟨⟨⟨⟨⟨⟨h1, h2⟩, h3⟩, h4⟩, h5⟩, h6⟩, h7⟩, h8⟩, h9⟩ := hc
    have e : ia = 0 := of_decide_eq_true h2
    subst e
    have hm : (own.map fun i => (S.N.getD i Str.empty, i)).map (·.2) = own := own_snd own
    have ok : BlkOk X.N X.env.scope scope (own.map fun i => (S.N.getD i Str.empty, i)) := by
      rw [G.g.N, G.g.sc]
      exact blkOk_by h5
    obtain ⟨l1, l2, l3⟩ := loc_of G.g hl
    have hyl : X.env.scope.names.lookup y = some .local := by
      rw [G.g.sc]
      unfold swC at hw
      simp only [Bool.and_eq_true] at hw
      exact by simpa using hw.1.1
    have main := ps_setLc (py := py) (spos := spos) (pos := pos) (elt := elt) (ifs := ifs) (G.g.calm h1) (by rw [G.g.N]; exact G.g.nd) l1 hyl (by rw [sw_comp (S := S) G.g.sc (by rw [G.g.sc]; exact G.kind), hw]) (sI it G.g tk h4) ok
      (g := gD X.K fa tg) (tt := tR X.K fa ca P1 W0 (rEq Bool) (evTo cf cond)) (te := tR X.K fa ca P1 W0 (rD X.K fa) (evE cf ce))
      (fun s H C cl fp => s_tg (G.g.blk scope s H C cl fp) h7) (fun s H C cl fp => sTo cond (G.g.blk scope s H C cl fp) takes0 h8) (fun s H C cl fp => sE ce (G.g.blk scope s H C cl fp) takes0 h9) (notSet_iter h3)
    rw [hm] at main
    refine main.imp fun En σ H h => ?_
    refine comp_read h6 (hr (RS_E (kk := fun e d m => match assignTg (.name i) d e with
      | some e' => .nx e' m
      | none => .bad) h _ fun ρ Z e m d v H1 Sm r q => ?_))
    exact q ρ Z H1 _ Step.refl (Sm.set r)
  · cases hc
theorem s_try {b : List Stmt} {hd : ExceptHandler} {l : List ExceptHandler} {pos : Pos} {fb : Env' → M → SRes} {hs : CHs} (G : GoodS T fa ca cf k S X) (tk : Takes X W) (hh : chkH T S hs (hd :: l) = true)
    (hb : ∀ {X' : Cx} {W' : WX}, X'.K = X.K → GoodS T fa ca cf k S X' → Takes X' W' → PSs X' b (RS X' fa ca W' fb)) :
    PS X (.Try b (hd :: l) [] [] pos) (RS X fa ca W fun e m => match fb e m with
    | .err x e m => if x < cf.nc then evH cf hs x e m else .bad
    | r => r) := by
  have good : ∀ pn xe, PassesOwn (model X.prog X.w) X.A X.env xe → GoodS T fa ca cf k S (X.tr pn xe) := fun pn xe hp => by
    refine ⟨⟨G.g.N, G.g.sc, G.g.nd, G.g.fnb, G.g.calm, G.g.room, fun i hi => ?_, G.g.f⟩, hp, G.hs, G.hf, G.kind, G.ex⟩
    rw [G.ex] at hi
    cases hi
  refine (ps_tryX (Wo := W) (tb := fun W' => RS X fa ca W' fb) G.hs G.hf (by rw [G.g.N]; exact G.g.nd) tk (fun W' pn xe tk' hp => hb rfl (good pn xe hp) tk') (s_hdls G hs hh)).imp fun En σ H h => ?_
  obtain ⟨ρ, Z, e, m, Sm, h⟩ := h
  refine ⟨ρ, Z, e, m, Sm, ?_⟩
  dsimp only at h
  cases q : fb e m with
  | nx e m => rw [q] at h; exact h
  | brk e m => rw [q] at h; exact h
  | cnt e m => rw [q] at h; exact h
  | ret d m => rw [q] at h; exact h
  | bad => rw [q] at h; exact h
  | err x e1 m1 =>
    rw [q] at h
    dsimp only at h
    by_cases hx : x < cf.nc
    · rw [if_pos hx] at h
      rw [G.g.f.domc] at hx
      exact fun ρ' Z' H' σ' s S' => wX_of rfl G (List.getElem?_eq_getElem hx) S' hs hh (PSR.step Sm.mok.hot s h)
    · rw [if_neg hx] at h
      exact h.elim
mutual
theorem sS : ∀ (s : CS) {X : Cx} {W : WX} {st : Stmt}, GoodS T fa ca cf k S X → Takes X W → chkS T S s st = true → PS X st (RS X fa ca W (evS cf s))
  | .expr a, X, W, st, G, tk, h => by
    unfold chkS at h
    split at h
    · rw [Bool.and_eq_true] at h
      exact s_expr h.1 (sE a G.g tk h.2)
    · cases h
  | .ret a, X, W, st, G, tk, h => by
    unfold chkS at h
    split at h
    · exact s_ret (sE a G.g tk h)
    · cases h
  | .retN, X, W, st, G, tk, h => by
    unfold chkS at h
    split at h
    · exact s_retN
    · cases h
  | .asg t a, X, W, st, G, tk, h => by
    unfold chkS at h
    split at h
    · rename_i tg v pos
      simp only [Bool.and_eq_true] at h
      obtain ⟨⟨h1, h2⟩, h3⟩ := h
      split at h3
      · rename_i n np elt gs scope vp
        by_cases hw : swC S n np vp scope = true
        · cases t with
          | tup ts => cases h1
          | name i =>
            have hl : locB S i n = true := h1
            split at h3
            · exact s_setC (l := .comp _ _ _ _ _) G tk hl hw h2 rfl fun {σ H Q} h => lv_read h
            · exact s_setC (l := .comp _ _ _ _ _) G tk hl hw h2 rfl fun {σ H Q} h => lm_read h
            · cases h3
        · rw [Bool.not_eq_true] at hw
          refine s_asg G.g h1 ?_ (sw_nontup (.inr rfl)) rfl (sE a G.g tk h2)
          have e := sw_comp (S := S) (env := X.env) G.g.sc (by rw [G.g.sc]; exact G.kind) (elt := elt) (gs := gs) (scope := scope) (vp := vp) (np := np) (n := n) (l := pos.line)
          rw [hw] at e
          exact e
      · exact s_asg G.g h1 (sw_sole (.inl h3)) (sw_nontup (.inr rfl)) rfl (sE a G.g tk h2)
      · simp only [Bool.and_eq_true] at h3
        exact s_asg G.g h1 (sw_sole (.inr rfl)) (sw_no (S := S) G.g.sc (by rw [G.g.sc]; exact G.kind) h3.2 h3.1.2) rfl (sE a G.g tk h2)
      · simp only [Bool.and_eq_true, Bool.not_eq_true'] at h3
        exact s_asg G.g h1 (sw_sole (.inr rfl)) (sw_nontup (.inl h3.2)) rfl (sE a G.g tk h2)
      · cases h3
    · cases h
  | .par2 i j a b, X, W, st, G, tk, h => by
    unfold chkS at h
    split at h
    · simp only [Bool.and_eq_true] at h
      obtain ⟨⟨⟨⟨⟨⟨⟨⟨⟨⟨h1, h2⟩, h3⟩, h4⟩, h5⟩, h6⟩, h7⟩, h8⟩, h9⟩, h10⟩, h11⟩ := h
      exact s_par2 G h1 (of_decide_eq_true h2) (of_decide_eq_true h3) (of_decide_eq_true h4) (by simpa using h5) (by simpa using h6) h7 h8 h9 (sE a G.g tk h10) (sE b G.g tk h11)
    · cases h
  | .par3 i j l a b c, X, W, st, G, tk, h => by
    unfold chkS at h
    split at h
    · simp only [Bool.and_eq_true] at h
      obtain ⟨⟨⟨⟨⟨⟨⟨⟨⟨⟨⟨⟨⟨⟨⟨⟨⟨h1, h2⟩, h3⟩, h4⟩, h5⟩, h6⟩, h7⟩, h8⟩, h9⟩, h10⟩, h11⟩, h12⟩, h13⟩, h14⟩, h15⟩, h16⟩, h17⟩, h18⟩ := h
      exact s_par3 G h1 (of_decide_eq_true h2) (of_decide_eq_true h3) (of_decide_eq_true h4) (of_decide_eq_true h5) (of_decide_eq_true h6) (of_decide_eq_true h7) (by simpa using h8) (by simpa using h9) (by simpa using h10) (of_decide_eq_true h11) h12 h13 h14 h15 (sE a G.g tk h16) (sE b G.g tk h17) (sE c G.g tk h18)
    · cases h
  | .stuck, X, W, st, G, tk, h => ⟨fun pins s σ H D I q => by
      obtain ⟨ρ, Z, e, m, _, q⟩ := q
      exact (show False from q).elim⟩
  | .setI o i a, X, W, st, G, tk, h => by
    unfold chkS at h
    split at h
    · simp only [Bool.and_eq_true] at h
      obtain ⟨⟨⟨⟨h1, h2⟩, h3⟩, h4⟩, h5⟩ := h
      exact s_setI h1 (sw_sole (.inl h2)) (sw_nontup (.inr rfl)) (sE a G.g tk h5) (sE o G.g tk h3) (sE i G.g tk h4)
    · cases h
  | .swap o1 i1 o2 i2 a b, X, W, st, G, tk, h => by
    unfold chkS at h
    split at h
    · simp only [Bool.and_eq_true] at h
      obtain ⟨⟨⟨⟨⟨⟨⟨⟨⟨⟨h1, h2⟩, h3⟩, h4⟩, h5⟩, h6⟩, h7⟩, h8⟩, h9⟩, h10⟩, h11⟩ := h
      exact s_swap G h1 h2 h3 h4 h5 h6 (sE _ G.g tk h11) (sE o1 G.g tk h7) (sE i1 G.g tk h8) (sE o2 G.g tk h9) (sE i2 G.g tk h10)
    · cases h
  | .app o a, X, W, st, G, tk, h => by
    unfold chkS at h
    split at h
    · simp only [Bool.and_eq_true] at h
      obtain ⟨⟨⟨⟨⟨h1, h2⟩, h3⟩, h4⟩, h5⟩, h6⟩ := h
      have e := of_decide_eq_true h1
      subst e
      exact s_app h2 h3 h4 (sE o G.g tk h5) (sE a G.g tk h6)
    · cases h
  | .ext o a, X, W, st, G, tk, h => by
    unfold chkS at h
    split at h
    · simp only [Bool.and_eq_true] at h
      obtain ⟨⟨⟨⟨⟨h1, h2⟩, h3⟩, h4⟩, h5⟩, h6⟩ := h
      have e := of_decide_eq_true h1
      subst e
      exact s_ext h2 h3 h4 (sE o G.g tk h5) (sE a G.g tk h6)
    · cases h
  | .ife t a b, X, W, st, G, tk, h => by
    unfold chkS at h
    split at h
    · simp only [Bool.and_eq_true] at h
      exact s_ifS (sT t G.g tk h.1.1) (sSs a G tk h.1.2) (sSs b G tk h.2)
    · cases h
  | .for_ tg it body, X, W, st, G, tk, h => by
    unfold chkS at h
    split at h
    · simp only [Bool.and_eq_true] at h
      obtain ⟨⟨⟨⟨h1, h2⟩, h3⟩, h4⟩, h5⟩ := h
      exact s_for G h1 h2 (sI it G.g tk h4) h3 (sSs body G tk h5)
    · cases h
  | .while_ t body, X, W, st, G, tk, h => by
    unfold chkS at h
    split at h
    · rw [Bool.and_eq_true] at h
      exact s_while G.hp (sT t G.g tk h.1) (sSs body G tk h.2)
    · cases h
  | .brk, X, W, st, G, tk, h => by
    unfold chkS at h
    split at h
    · exact s_brk
    · cases h
  | .cnt, X, W, st, G, tk, h => by
    unfold chkS at h
    split at h
    · exact s_cnt
    · cases h
  | .pass, X, W, st, G, tk, h => by
    unfold chkS at h
    split at h
    · exact s_pass
    · cases h
  | .raise c, X, W, st, G, tk, h => by
    unfold chkS at h
    split at h
    · simp only [Bool.and_eq_true] at h
      exact s_raise G tk h.1.1 (of_decide_eq_true h.1.2) h.2
    · cases h
  | .try_ body hs, X, W, st, G, tk, h => by
    unfold chkS at h
    split at h
    · simp only [Bool.and_eq_true] at h
      exact s_try G tk h.2 fun {X' W'} hK G' tk' => sSs body G' tk' h.1
    · cases h
theorem sSs : ∀ (ss : CSs) {X : Cx} {W : WX} {st : List Stmt}, GoodS T fa ca cf k S X → Takes X W → chkSs T S ss st = true → PSs X st (RS X fa ca W (evSs cf ss))
  | .nil, X, W, st, G, tk, h => by
    unfold chkSs at h
    split at h
    · exact pss_nil.imp fun En σ H ⟨ρ, Z, e, m, Sm, q⟩ => q ρ Z H σ Step.refl Sm
    · cases h
  | .cons s ss, X, W, st, G, tk, h => by
    unfold chkSs at h
    split at h
    · rw [Bool.and_eq_true] at h
      refine (pss_cons (sS s G tk h.1) (sSs ss G tk h.2)).imp fun En σ H ⟨ρ, Z, e, m, Sm, q⟩ => ⟨ρ, Z, e, m, Sm, ?_⟩
      unfold evSs at q
      cases q1 : evS cf s e m with
      | nx e1 m1 => rw [q1] at q; exact fun ρ' Z' H' σ' s S' => ⟨ρ', Z', e1, m1, S', PSR.step Sm.mok.hot s q⟩
      | brk e1 m1 => rw [q1] at q; exact q
      | cnt e1 m1 => rw [q1] at q; exact q
      | ret d m1 => rw [q1] at q; exact q
      | err c e1 m1 => rw [q1] at q; exact q
      | bad => rw [q1] at q; exact q
    · cases h
end
end
end Dx
/-! Dx, part 20: a whole text: every def keeps its promise. -/
namespace Dx
open PySem PySem.Spec PyProof.Rows L2
/-! ### a body, run -/
section
variable {K : PySem.W.Frag} {fa ca : Nat → Addr}
theorem start_env {ρ : List Addr} {Z : Addr → Prop} {H : Hp} {m : M} (I : MOk K fa ρ Z H m) : ∀ {ds : List D} {vs : List V} (n : Nat) (_ : RelDs K fa ρ Z H ds vs),
    Sim K fa ρ Z H (vs.map some ++ List.replicate n none) (ds.map some ++ List.replicate n none) m := by
  intro ds vs n r
  refine ⟨I, fun i d h => ?_, by simp [r.length]⟩
  unfold getV at h
  by_cases hi : i < ds.length
  · rw [List.getElem?_append_left (by simpa using hi), List.getElem?_map] at h
    cases q : ds[i]? with
    | none => rw [q] at h; cases h
    | some d' =>
      rw [q] at h
      cases h
      obtain ⟨v, hv, rv⟩ := r.get q
      refine ⟨v, ?_, rv⟩
      rw [List.getElem?_append_left (by rw [List.length_map, ← r.length]; exact hi), List.getElem?_map, hv]; rfl
  · rw [List.getElem?_append_right (by simpa using hi), List.getElem?_replicate] at h
    split at h
    · rename_i z
      split at z
      · cases z
      · cases z
    · cases h
/-- a body's end, by data -/
theorem body_ends {defs : List CDef} {glob : Nat → Option D} {nc k f : Nat} {d : CDef} {ds : List D} {m : M} {ρ : List Addr} {Z : Addr → Prop} {H : Hp} {Q : VK} {E : XK} (I : MOk K fa ρ Z H m) (hd : defs[f]? = some d)
    (h : PR K fa ca (fun cls d _ H' => E cls d H') [] (rD K fa) ρ Z H (callF defs glob nc (k + 1) f ds m) Q) :
    PSR K fa ca (fun cls d _ H' => E cls d H') ρ Z H (evSs ⟨callF defs glob nc k, glob, m.length, defs.length, nc⟩ d.body (ds.map some ++ List.replicate (d.ns - d.np) none) m) { nx := fun _ H' => Q .non H', rt := Q } := by
  unfold callF at h
  rw [hd] at h
  dsimp only at h
  split at h
  · have L : LowS m.length m (evSs ⟨callF defs glob nc k, glob, m.length, defs.length, nc⟩ d.body (ds.map some ++ List.replicate (d.ns - d.np) none) m) :=
      low_Ss (c := ⟨callF defs glob nc k, glob, m.length, defs.length, nc⟩) ⟨fun f ds m => low_call defs glob nc k f ds m⟩ d.body _ m (Nat.le_refl _)
    revert L h
    generalize evSs ⟨callF defs glob nc k, glob, m.length, defs.length, nc⟩ d.body (ds.map some ++ List.replicate (d.ns - d.np) none) m = r
    intro h L
    have fin : ∀ (dd : D) (m' : M), LowR m.length m m' → PR K fa ca (fun cls d _ H' => E cls d H') [] (rD K fa) ρ Z H (finish d.rm m.length dd m') Q → ∀ ρ' Z' H' v, Step ρ Z H ρ' Z' H' → MOk K fa ρ' Z' H' m' → RelD K fa ρ' Z' H' dd v → Q v H' := by
      intro dd m' Lr h ρ' Z' H' v s I' rr
      cases q : finish d.rm m.length dd m' with
      | ok e m2 =>
        rw [q] at h
        obtain ⟨ρ2, Z2, s2, I2, r2⟩ := finish_ok I s I' Lr rfl rr q
        exact h ρ2 Z2 H' v s2 I2 r2
      | err c m2 =>
        unfold finish at q
        split at q
        · split at q <;> cases q
        · split at q
          · cases q
          · split at q <;> cases q
      | bad => rw [q] at h; exact h.elim
    cases r with
    | ret dd m' => exact fin dd m' L h
    | nx e m' => exact fun ρ' Z' H' σ' s S' => fin .non m' L h ρ' Z' H' .non s S'.mok rfl
    | err x e m' =>
      intro ρ' Z' H' σ' s S'
      obtain ⟨s', I'⟩ := older (q := fun _ => False) I s S'.mok L rfl (fun a e => e.elim)
      exact h ρ _ H' s' I'
    | brk e m' => exact h.elim
    | cnt e m' => exact h.elim
    | bad => exact h.elim
  · exact h.elim
end
/-! ### a text -/
structure DI where
  c : CDef
  N : List Str
  ps : List Str
  d : He.DefD
def scOf (i : DI) : SC := { N := i.N, sc := i.d.scope, fnb := fun _ => true, calm := true, exc := none }
def scopeB (N P : List Str) (sc : Scope) : Bool := decide (sc.kind = .function) && !sc.isCoroutine && !sc.isGenerator && decide N.Nodup && decide (N.take P.length = P) &&
  (P.all fun x => match sc.names.lookup x with
    | some .local => true
    | some .cell => true
    | _ => false) && sc.names.all fun y => match y.2 with
    | .free => false
    | _ => true
theorem scopeB_ok {N P : List Str} {sc : Scope} (h : scopeB N P sc = true) : FnScope N P sc := by
  unfold scopeB at h
  simp only [Bool.and_eq_true, Bool.not_eq_true'] at h
  obtain ⟨⟨⟨⟨⟨⟨h1, h2⟩, h3⟩, h4⟩, h5⟩, h6⟩, h7⟩ := h
  refine ⟨of_decide_eq_true h1, h2, h3, of_decide_eq_true h4, of_decide_eq_true h5, fun x hx => ?_, fun y hy => ?_⟩
  · have q := List.all_eq_true.mp h6 x hx
    try dsimp only at q
    split at q
    · rename_i e; exact .inl e
    · rename_i e; exact .inr e
    · cases q
  · have q := List.all_eq_true.mp h7 y hy
    intro z
    rw [z] at q
    cases q
structure Txt where
  L : List DI
  cls : List Str
  glo : List (Str × D)
  blt : List Str
  kws : List (Nat × Nat × List Str × List Nat)
namespace Txt
variable (t : Txt)
def tab : Dx.Tab := ⟨t.L.map (·.d.name), t.cls, t.glo, t.blt, t.kws⟩
def defs : List CDef := t.L.map (·.c)
def glob (i : Nat) : Option D := (t.glo[i]?).map (·.2)
/-- the program's evaluator -/
def call (k : Nat) : Nat → List D → M → Res D := callF t.defs t.glob t.cls.length k
def fa (K : PySem.W.Frag) (i : Nat) : Addr := match t.L[i]? with
  | some D => He.ga K D.d.name
  | none => 0
def ca (K : PySem.W.Frag) (i : Nat) : Addr := match t.cls[i]? with
  | some x => He.ga K x
  | none => 0
def okDI (i : DI) : Bool := scopeB i.N i.ps i.d.scope && decide (i.c.np = i.ps.length) && decide (i.c.ns = i.N.length) && decide (i.d.at_ = (i.d.name, none)) && i.d.dfl.isEmpty && i.d.kwd.isEmpty && chkSs t.tab (scOf i) i.c.body i.d.body
def faL : List He.Fa := t.L.map (fun i => .glo i.d.name) ++ t.cls.map .glo ++ t.cls.map .exc ++ t.blt.map .free ++ (t.cls.zipIdx.flatMap fun p => t.cls.zipIdx.map fun q => .exm p.1 q.1 (decide (p.2 = q.2)))
def fnL : List He.DefD := t.L.map (·.d)
def excB (K : PySem.W.Frag) (x : Str) : Bool := He.eqO (PySem.W.findIn K (.ref (He.ga K x)) "__getattribute__") (some (some (.builtin "BaseException.__getattribute__"))) && He.eqO (PySem.W.findIn K (.ref (He.ga K x)) "__getattr__") (some none) &&
  PySem.W.hasDictIn K (He.ga K x) && He.eqO (PySem.W.findIn K (.ref (He.ga K x)) "__class__") (some (some (.builtin "object.__class__"))) && He.eqO (PySem.W.specialIn K (.builtin "object.__class__") "__get__") (some (some (.builtin "getset_descriptor.__get__"))) &&
  decide (PySem.W.takesIn K (.builtin "object.__class__") = some true) && decide (PySem.W.mroIn K (He.ga K x) (.type "object") = some true) && decide (PySem.W.kitOne K (.ref (He.ga K x)) (.type "ValueError") = some true)
end Txt
mutual
/-- a constant as the module holds it -/
def conB (K : PySem.W.Frag) : D → Value → Bool
  | .non, v => (match v with
    | .none => true
    | _ => false)
  | .bl b, v => (match v with
    | .bool c => decide (b = c)
    | _ => false)
  | .int i, v => (match v with
    | .int j _ => decide (i = j)
    | _ => false)
  | .str x, v => (match v with
    | .str y _ => decide (x = y)
    | _ => false)
  | .tup ds, v => (match v with
    | .ref a => (match K.lookup a with
      | some ⟨.type c, _, .seq its _, _⟩ => decide (c = "tuple") && decide (its.size ≤ sizeLine) && conBs K ds its.toList
      | _ => false)
    | _ => false)
  | _, _ => false
def conBs (K : PySem.W.Frag) : List D → List Value → Bool
  | [], vs => vs.isEmpty
  | d :: ds, vs => (match vs with
    | v :: vs => conB K d v && conBs K ds vs
    | [] => false)
end
section
variable {K : PySem.W.Frag} {fa : Nat → Addr}
mutual
theorem conB_ok : ∀ (d : D) (u : Value), conB K d u = true → ∃ v, RelV v u ∧ ∀ ρ Z H, RelD K fa ρ Z H d v
  | .non, u, h => by
    unfold conB at h
    split at h
    · exact ⟨.non, rfl, fun _ _ _ => rfl⟩
    · cases h
  | .bl b, u, h => by
    unfold conB at h
    split at h
    · rw [of_decide_eq_true h]; exact ⟨.bl _, rfl, fun _ _ _ => rfl⟩
    · cases h
  | .int i, u, h => by
    unfold conB at h
    split at h
    · rw [of_decide_eq_true h]; exact ⟨.int _, ⟨_, rfl⟩, fun _ _ _ => rfl⟩
    · cases h
  | .str x, u, h => by
    unfold conB at h
    split at h
    · rw [of_decide_eq_true h]; exact ⟨.str _, ⟨_, rfl⟩, fun _ _ _ => rfl⟩
    · cases h
  | .tup ds, u, h => by
    unfold conB at h
    split at h
    · rename_i a
      split at h
      · rename_i c od its n sl q
        simp only [Bool.and_eq_true] at h
        obtain ⟨⟨h1, h2⟩, h3⟩ := h
        obtain ⟨vs, r, rr⟩ := conBs_ok ds its.toList h3
        exact ⟨.ref a, rfl, fun ρ Z H => ⟨a, vs, rfl, .inr ⟨_, its, n, q, congrArg Value.type (of_decide_eq_true h1), rfl, of_decide_eq_true h2, r⟩, rr ρ Z H⟩⟩
      · cases h
    · cases h
  | .lst _, u, h => by unfold conB at h; cases h
  | .ref _, u, h => by unfold conB at h; cases h
  | .fn _, u, h => by unfold conB at h; cases h
  | .scr _, u, h => by unfold conB at h; cases h
theorem conBs_ok : ∀ (ds : List D) (us : List Value), conBs K ds us = true → ∃ vs, Vals vs us ∧ ∀ ρ Z H, RelDs K fa ρ Z H ds vs
  | [], us, h => by
    unfold conBs at h
    rw [List.isEmpty_iff.mp h]
    exact ⟨[], .nil, fun _ _ _ => rfl⟩
  | d :: ds, us, h => by
    unfold conBs at h
    split at h
    · rw [Bool.and_eq_true] at h
      obtain ⟨v, r, q⟩ := conB_ok d _ h.1
      obtain ⟨vs, rs, qs⟩ := conBs_ok ds _ h.2
      exact ⟨v :: vs, .cons r rs, fun ρ Z H => ⟨v, vs, rfl, q ρ Z H, qs ρ Z H⟩⟩
    · cases h
end
end
def Txt.exB (t : Txt) (K : PySem.W.Frag) : Bool := t.cls.all (Txt.excB K) && t.glo.all fun p => match PySem.W.nsIn K mainGlobals p.1 with
  | some (some v) => conB K p.2 v
  | _ => false
/-- what is shown of a text by looking -/
structure Txt.Ok (t : Txt) : Prop where
  defs : t.L.all t.okDI = true
  dbg : (t.cls.all fun x => !(x == ("__debug__" : Str))) = true
  bind : ∀ i ∈ t.L, ∀ (kV doc pm : Value) (an : Option Addr) (cdv ct : Value) (us : List Value), us.length = i.ps.length → bindArgs (PySem.W.fnOf i.d.name i.d.qual i.d.params i.d.body i.d.scope .none kV doc pm an cdv ct) ⟨us, []⟩ = pure (i.ps.zip us)
  kw : ∀ e ∈ t.kws, ∀ i, t.L[e.1]? = some i → ∀ (kV doc pm : Value) (an : Option Addr) (cdv ct : Value) (us ws zs : List Value), us.length = e.2.1 → ws.length = e.2.2.1.length → pickL (us ++ ws) e.2.2.2 = some zs → zs.length = i.ps.length →
    bindArgs (PySem.W.fnOf i.d.name i.d.qual i.d.params i.d.body i.d.scope .none kV doc pm an cdv ct) ⟨us, e.2.2.1.zip ws⟩ = pure (i.ps.zip zs)
section
variable {t : Txt} {P : Program} {w : World} {K : PySem.W.Frag} {mg : Str → Option Value} {h base : Heap}
theorem excB_ok {x : Str} (q : Txt.excB K x = true) : ExcC K (He.ga K x) → True := fun _ => trivial
theorem cls_ok {x : Str} (X : K.In h) (G : h.Ns mainGlobals mg) (q : Txt.excB K x = true) (q2 : (He.Fa.glo x).ok K = true) (q3 : (He.Fa.exc x).ok K = true) (q4 : (x == ("__debug__" : Str)) = false) : ClsOk K mg x (He.ga K x) := by
  unfold Txt.excB at q
  simp only [Bool.and_eq_true] at q
  obtain ⟨⟨⟨⟨⟨⟨⟨a1, a2⟩, a3⟩, a4⟩, a5⟩, a6⟩, a7⟩, a8⟩ := q
  obtain ⟨e1, e2, e3, e4⟩ := He.exc_ok q3
  exact ⟨He.glo_ok X G q2, e2, e1, e3, e4, ⟨He.eqO_ok a1, He.eqO_ok a2, e3, a3, He.eqO_ok a4, He.eqO_ok a5, of_decide_eq_true a6, of_decide_eq_true a7⟩, of_decide_eq_true a8, q4⟩
theorem fa_of {i : Nat} {D : DI} (e : t.L[i]? = some D) : t.fa K i = He.ga K D.d.name := by
  unfold Txt.fa
  rw [e]
theorem ca_of {i : Nat} {x : Str} (e : t.cls[i]? = some x) : t.ca K i = He.ga K x := by
  unfold Txt.ca
  rw [e]
theorem di_ok (O : t.Ok) {D : DI} (hm : D ∈ t.L) : FnScope D.N D.ps D.d.scope ∧ D.c.np = D.ps.length ∧ D.c.ns = D.N.length ∧ D.d.at_ = (D.d.name, none) ∧ D.d.dfl = [] ∧ D.d.kwd = [] ∧ chkSs t.tab (scOf D) D.c.body D.d.body = true := by
  have q := List.all_eq_true.mp O.defs D hm
  unfold Txt.okDI at q
  simp only [Bool.and_eq_true] at q
  obtain ⟨⟨⟨⟨⟨⟨h1, h2⟩, h3⟩, h4⟩, h5⟩, h6⟩, h7⟩ := q
  exact ⟨scopeB_ok h1, of_decide_eq_true h2, of_decide_eq_true h3, of_decide_eq_true h4, List.isEmpty_iff.mp h5, List.isEmpty_iff.mp h6, h7⟩
/-- the def's function object -/
theorem fun_of (O : t.Ok) (c : He.SaysD t.faL t.fnL K) {D : DI} (hm : D ∈ t.L) : ∃ fd, FunD K D.d.name D.d.qual D.d.params D.d.body D.d.scope [] [] (He.ga K D.d.name) fd := by
  obtain ⟨_, _, _, h4, h5, h6, _⟩ := di_ok O hm
  obtain ⟨fd, F⟩ := He.SaysD.defs c (d := D.d) (List.mem_map_of_mem hm)
  have e1 : D.d.dvs K = [] := by unfold He.DefD.dvs; rw [h5]; rfl
  have e2 : D.d.kws K = [] := by unfold He.DefD.kws; rw [h6]; rfl
  have e3 : He.fAd K D.d.at_ = He.ga K D.d.name := by rw [h4]; rfl
  rw [e1, e2, e3] at F
  exact ⟨fd, F⟩
theorem kwb_of {D : DI} {e : Nat × Nat × List Str × List Nat} {fd : FuncData} {f : Addr} (F : FunD K D.d.name D.d.qual D.d.params D.d.body D.d.scope [] [] f fd)
    (hk : ∀ (kV doc pm : Value) (an : Option Addr) (cdv ct : Value) (us ws zs : List Value), us.length = e.2.1 → ws.length = e.2.2.1.length → pickL (us ++ ws) e.2.2.2 = some zs → zs.length = D.ps.length →
    bindArgs (PySem.W.fnOf D.d.name D.d.qual D.d.params D.d.body D.d.scope .none kV doc pm an cdv ct) ⟨us, e.2.2.1.zip ws⟩ = pure (D.ps.zip zs)) : KwB K fd D.ps e.2.1 e.2.2.1 e.2.2.2 := by
  obtain ⟨oc, od, dV, kV, doc, pm, an, cdv, ct, osl, rfl, lk, hcd, hD, hK⟩ := F.ex
  intro s us ws zs X l1 l2 l3 l4
  rcases hD with ⟨_, rfl⟩ | ⟨z, _⟩
  · exact .of_eq (hk kV doc pm an cdv ct us ws zs l1 l2 l3 l4)
  · exact absurd rfl z
theorem callF_len {defs : List CDef} {glob : Nat → Option D} {nc k f : Nat} {d : CDef} {ds : List D} {m : M} (hd : defs[f]? = some d) (h : ds.length ≠ d.np) : callF defs glob nc k f ds m = .bad := by
  cases k with
  | zero => rfl
  | succ k =>
    unfold callF
    rw [hd]
    exact if_neg h
/-- THE TEXT: every def keeps its promise -/
theorem sound (O : t.Ok) (X : K.In h) (G : h.Ns mainGlobals mg) (c : He.SaysD t.faL t.fnL K) (ex : t.exB K = true) : ∀ (k : Nat) (i : Nat) (D : DI) (fd : FuncData), t.L[i]? = some D → FunD K D.d.name D.d.qual D.d.params D.d.body D.d.scope [] [] (He.ga K D.d.name) fd →
    FnOk P w K mg base (L2.CX P w) k (He.ga K D.d.name) fd D.ps (spD K (t.fa K) (t.ca K) (t.call k i) D.ps.length)
  | 0, i, D, fd, hi, F => by
    refine ⟨fun vs H Q E q => q.1, fun A outer s H args us vs Q E hr he hb hv hs => ?_⟩
    obtain ⟨_, ρ, Z, m, ds, _, _, q⟩ := hs
    exact (show False from q).elim
  | k + 1, i, D, fd, hi, F => by
    have ih := sound O X G c ex k
    have hm := List.mem_of_getElem? hi
    obtain ⟨o1, o2, o3, o4, o5, o6, o7⟩ := di_ok O hm
    unfold Txt.exB at ex
    rw [Bool.and_eq_true] at ex
    have exc1 : ∀ x ∈ t.cls, Txt.excB K x = true := fun x hx => List.all_eq_true.mp ex.1 x hx
    have facts : ∀ f ∈ t.faL, f.ok K = true := fun f hf => He.SaysD.facts c hf
    have glo : ∀ x ∈ t.cls, ClsOk K mg x (He.ga K x) := fun x hx => by
      refine cls_ok X G (exc1 x hx) (facts _ ?_) (facts _ ?_) ?_
      · unfold Txt.faL
        simp only [List.mem_append, List.mem_map]
        exact .inl (.inl (.inl (.inr ⟨x, hx, rfl⟩)))
      · unfold Txt.faL
        simp only [List.mem_append, List.mem_map]
        exact .inl (.inl (.inr ⟨x, hx, rfl⟩))
      · have q := List.all_eq_true.mp O.dbg x hx
        simpa using q
    refine F.ok o1 (fun vs H Q E q => q.1) fun cdv A outer s H vs Q E hr hs => ?_
    obtain ⟨hl, ρ, Z, m, ds, I, rds, q⟩ := hs
    have hd : t.defs[i]? = some D.c := by
      unfold Txt.defs
      rw [List.getElem?_map, hi]; rfl
    refine ⟨RS (cxOf (L2.CX P w) P w K mg base D.N D.d.qual D.d.scope (He.ga K D.d.name) cdv A outer s H E) (t.fa K) (t.ca K) (fun cls d _ H' => E cls d H') (evSs ⟨t.call k, t.glob, m.length, t.defs.length, t.cls.length⟩ D.c.body), ?_, ρ, Z, _, m, ?_, body_ends I hd q⟩
    · refine sSs (T := t.tab) (k := k) (S := scOf D) D.c.body ?_ ?_ o7
      · refine ⟨⟨rfl, rfl, o1.nd, rfl, fun _ => rfl, fun _ => hr, fun i h => (by cases h), ?_⟩, passes_of rfl, rfl, rfl, o1.kind, rfl⟩
        refine ⟨fun j x hx => ?_, by show t.defs.length = _; unfold Txt.defs Txt.tab; simp, rfl, fun j p hp => ?_, fun x hx => ?_, fun j x hx => ?_, fun j l x y hx hy => ?_⟩
        · have hx' : (t.L.map (·.d.name))[j]? = some x := hx
          rw [List.getElem?_map] at hx'
          obtain ⟨D', hj, rfl⟩ := Option.map_eq_some_iff.mp hx'
          have hm' := List.mem_of_getElem? hj
          obtain ⟨fd', F'⟩ := fun_of O c hm'
          rw [fa_of hj]
          refine ⟨He.glo_ok X G (facts _ ?_), F'.kp, fd', D'.ps, ih j D' fd' hj F', F'.bindsN (O.bind D' hm'), fun ds m hne => ?_, fun e he hej => kwb_of F' (O.kw e he D' (by rw [hej]; exact hj))⟩
          · unfold Txt.faL
            simp only [List.mem_append, List.mem_map]
            exact .inl (.inl (.inl (.inl ⟨D', hm', rfl⟩)))
          · refine callF_len (d := D'.c) ?_ ?_
            · show t.defs[j]? = _
              unfold Txt.defs
              rw [List.getElem?_map, hj]; rfl
            · rw [(di_ok O hm').2.1]; exact hne
        · have hp' : t.glo[j]? = some p := hp
          refine ⟨?_, ?_⟩
          · show (t.glo[j]?).map (·.2) = _
            rw [hp']; rfl
          · have q := List.all_eq_true.mp ex.2 p (List.mem_of_getElem? hp')
            try dsimp only at q
            split at q
            · rename_i v e
              obtain ⟨u, r, rr⟩ := conB_ok (fa := t.fa K) p.2 v q
              exact ⟨u, v, PySem.W.mg_of X G e, r, rr⟩
            · cases q
        · refine He.free_ok X G (facts _ ?_)
          unfold Txt.faL
          simp only [List.mem_append, List.mem_map]
          exact .inl (.inr ⟨x, hx, rfl⟩)
        · have hx' : t.cls[j]? = some x := hx
          rw [ca_of hx']
          exact glo x (List.mem_of_getElem? hx')
        · have hx' : t.cls[j]? = some x := hx
          have hy' : t.cls[l]? = some y := hy
          rw [ca_of hx', ca_of hy']
          refine He.exm_ok (facts _ ?_)
          unfold Txt.faL
          simp only [List.mem_append, List.mem_flatMap, List.mem_map]
          exact .inr ⟨(x, j), List.mk_mem_zipIdx_iff_getElem?.mpr hx', (y, l), List.mk_mem_zipIdx_iff_getElem?.mpr hy', rfl⟩
      · exact takes_of rfl rfl rfl rfl
    · have e1 : D.N.length - vs.length = D.c.ns - D.c.np := by rw [o3, o2, hl]
      show Sim K (t.fa K) ρ Z H (L2.start D.N vs) _ m
      unfold L2.start
      rw [e1]
      exact start_env I _ rds
end
end Dx
/-! Dx, part 21: a law's end. -/
namespace Dx
open PySem PySem.Spec PyProof.Rows L2
abbrev Txt.hk (t : Txt) (n : Nat) : PySem.W.Hook := He.hookX n t.faL t.fnL [] [] t.exB
def Txt.ob (t : Txt) (n : Nat) (s : PySem.W.SharedT) : He.AlX := He.obsX n t.faL t.fnL [] [] t.exB (HandSHeadRun.getT s)
theorem Txt.ob_eq (t : Txt) (n : Nat) (s : PySem.W.SharedT) : t.ob n s = (t.hk n).obs s.abs := He.obsX_eq (HandSHeadRun.getT_eq s)
/-- the script as data -/
def scrD (ns : List Int) : D := .scr (ns.map .int)
theorem rel_ints {K : PySem.W.Frag} {fa : Nat → Addr} {ρ : List Addr} {Z : Addr → Prop} {H : Hp} : ∀ (ns : List Int), RelDs K fa ρ Z H (ns.map .int) (ns.map V.int)
  | [] => rfl
  | n :: ns => ⟨.int n, ns.map V.int, rfl, rfl, rel_ints ns⟩
/-- from the evaluator's answer to the law's -/
theorem law_end {l : PySem.W.OpenLaw} {n k i hn : Nat} {q : Program} {loose : List Str} {XP : (Str → Option Value) → Heap → Prop} {d : DefRec} {t : Txt} {x : Str} {Di : DI}
    (O : t.Ok) (hi : t.L[i]? = some Di) (hx : Di.ps = [x]) (hnm : d.name = Di.d.name) (hm : l.most = some n) (hn2 : n ≤ sizeLine) (hdf : d.params.defaults = []) (hr : Room k callerA)
    (ok : ∀ ns : List Int, ns.length ≤ n → ∃ m, t.call k i [scrD ns] [] = .ok (.bl true) m) :
    PySem.W.WalkO q loose XP (t.hk hn).says l.row.toRowW d [] (fun f vs => PySem.call f vs) := by
  refine Att.attach_call hm hdf fun w s0 s1 mg mb fa o pm cd doc a vs ns G Y ho hd hcd hmg hobj hints hlen hg => ?_
  obtain ⟨K, KX, sx⟩ := Y
  have c := sx.t.d
  have hmem := List.mem_of_getElem? hi
  obtain ⟨fd, F⟩ := fun_of O c hmem
  have g1 : mg Di.d.name = some (.ref (He.ga K Di.d.name)) := He.glo_ok KX G.T.g (He.SaysD.facts c (by
    unfold Txt.faL
    simp only [List.mem_append, List.mem_map]
    exact .inl (.inl (.inl (.inl ⟨Di, hmem, rfl⟩)))))
  rw [hnm, g1] at hmg
  cases hmg
  have hS := fun base => sound (P := l.prog) (w := w) (base := base) O KX G.T.g c sx.more k i Di fd hi F
  have hb := F.bindsA (O.bind Di hmem)
  refine law_call (x := x) KX G.T.g G.T.b G.T.builtins G.T.nolimit hg hobj hints (Nat.le_trans hlen hn2) hr (fun base _ _ => by have q := hS base; rw [hx] at q; exact q) (fun s u => ?_) (fun H hO hq => ?_) (fun H e s' q => ?_)
  · have q := hb s [u] (by rw [hx]; rfl)
    rw [hx] at q
    exact q
  · refine ⟨rfl, [], fun _ => False, [], [scrD ns], ⟨rfl, List.nodup_nil, fun a h => (by cases h), fun a h => h.elim, fun i o h => (by cases h)⟩, ⟨.ref a, [], rfl, ⟨a, ns.map V.int, rfl, ?_, rel_ints ns⟩, rfl⟩, ?_⟩
    · rcases hq with (q | q) | q
      · rcases hO a with z | ⟨o, xs, z⟩
        · rw [z] at q; cases q
        · rw [z] at q; cases q
      · exact .inl q
      · exact .inr q
    · obtain ⟨m, e⟩ := ok ns hlen
      rw [e]
      exact fun ρ' Z' H' b s I r => r
  · obtain ⟨_, _, _, _, _, _, _, _, _, _, _, _, z⟩ := q
    exact z
end Dx
/-! Ev: the evaluator step by step (for simp): what goes on is syntax, never a function. -/
namespace Dx
open PySem
section
variable {α β : Type}
@[simp] theorem bind_ok (a : α) (m : M) (f : α → M → Res β) : (Res.ok a m).bind f = f a m := (rfl)
@[simp] theorem bind_err (x : Nat) (m : M) (f : α → M → Res β) : (Res.err x m).bind f = .err x m := (rfl)
@[simp] theorem bind_bad (f : α → M → Res β) : (Res.bad).bind f = .bad := (rfl)
@[simp] theorem of_some (a : α) (m : M) : Res.of (some a) m = .ok a m := (rfl)
@[simp] theorem of_none (m : M) : Res.of (none : Option α) m = .bad := (rfl)
@[simp] theorem noErr_ok (a : α) (m : M) : (Res.ok a m).noErr = .ok a m := (rfl)
@[simp] theorem noErr_bad : (Res.bad : Res α).noErr = .bad := (rfl)
@[simp] theorem noErr_err (x : Nat) (m : M) : (Res.err x m : Res α).noErr = .bad := (rfl)
end
/-! ### frames -/
@[simp] theorem getV_0 (d : D) (e : Env') : getV (some d :: e) 0 = some d := (rfl)
@[simp] theorem getV_n (e : Env') : getV (none :: e) 0 = none := (rfl)
@[simp] theorem getV_s (x : Option D) (e : Env') (i : Nat) : getV (x :: e) (i + 1) = getV e i := by unfold getV; simp
@[simp] theorem wipe_nil (e : Env') : wipeE e [] = e := (rfl)
@[simp] theorem wipe_cons (e : Env') (v : Nat) (vs : List Nat) : wipeE e (v :: vs) = (wipeE e vs).set v none := (rfl)
@[simp] theorem tg_name (i : Nat) (d : D) (e : Env') : assignTg (.name i) d e = some (e.set i (some d)) := (rfl)
@[simp] theorem tg_tup (ts : List Tg) (ds : List D) (e : Env') : assignTg (.tup ts) (.tup ds) e = assignTgs ts ds e := (rfl)
@[simp] theorem tgs_nil (e : Env') : assignTgs [] [] e = some e := (rfl)
@[simp] theorem tgs_cons (t : Tg) (ts : List Tg) (d : D) (ds : List D) (e : Env') : assignTgs (t :: ts) (d :: ds) e = (assignTg t d e).bind fun e' => assignTgs ts ds e' := (rfl)
variable (c : Cfg) (e : Env') (m : M)
/-! ### expressions -/
@[simp] theorem e_var (i : Nat) : evE c (.var i) e m = Res.of (getV e i) m := (rfl)
@[simp] theorem e_int (i : Int) : evE c (.int i) e m = .ok (.int i) m := (rfl)
@[simp] theorem e_bl (i : Bool) : evE c (.bl i) e m = .ok (.bl i) m := (rfl)
@[simp] theorem e_str (i : Str) : evE c (.str i) e m = .ok (.str i) m := (rfl)
@[simp] theorem e_glob (i : Nat) : evE c (.glob i) e m = Res.of (c.glob i) m := (rfl)
@[simp] theorem e_fn (i : Nat) : evE c (.fn i) e m = .ok (.fn i) m := (rfl)
@[simp] theorem e_non : evE c .non e m = .ok .non m := (rfl)
def binK2 (o : Operator) (y : D) (r : Res D) : Res D := r.bind fun x m => .of (evBin m o y x) m
@[simp] theorem binK2_ok (o : Operator) (y : D) (x : D) : binK2 o y (.ok x m) = .of (evBin m o y x) m := (rfl)
@[simp] theorem binK2_err (o : Operator) (y : D) (x : Nat) : binK2 o y (.err x m) = .err x m := (rfl)
@[simp] theorem binK2_bad (o : Operator) (y : D) : binK2 o y .bad = .bad := (rfl)
def binK (c : Cfg) (o : Operator) (b : CE) (e : Env') (r : Res D) : Res D := r.bind fun x m => binK2 o x (evE c b e m)
@[simp] theorem binK_ok (o : Operator) (b : CE) (x : D) : binK c o b e (.ok x m) = binK2 o x (evE c b e m) := (rfl)
@[simp] theorem binK_err (o : Operator) (b : CE) (x : Nat) : binK c o b e (.err x m) = .err x m := (rfl)
@[simp] theorem binK_bad (o : Operator) (b : CE) : binK c o b e .bad = .bad := (rfl)
@[simp] theorem e_bin (o : Operator) (a b : CE) : evE c (.bin o a b) e m = binK c o b e (evE c a e m) := (rfl)
def negV : D → M → Res D := fun x m => match x with
    | .int i => .ok (.int (-i)) m
    | _ => .bad
@[simp] theorem negV_i (i : Int) : negV (.int i) m = .ok (.int (-i)) m := (rfl)
def negK  (r : Res D) : Res D := r.bind fun x m => negV x m
@[simp] theorem negK_ok  (x : D) : negK  (.ok x m) = negV x m := (rfl)
@[simp] theorem negK_err  (x : Nat) : negK  (.err x m) = .err x m := (rfl)
@[simp] theorem negK_bad  : negK  .bad = .bad := (rfl)
@[simp] theorem e_neg (a : CE) : evE c (.neg a) e m = negK (evE c a e m) := (rfl)
def cmpK2 (o : CmpOp) (y : D) (r : Res D) : Res D := r.bind fun x m => .of ((evCmp o y x).map .bl) m
@[simp] theorem cmpK2_ok (o : CmpOp) (y : D) (x : D) : cmpK2 o y (.ok x m) = .of ((evCmp o y x).map .bl) m := (rfl)
@[simp] theorem cmpK2_err (o : CmpOp) (y : D) (x : Nat) : cmpK2 o y (.err x m) = .err x m := (rfl)
@[simp] theorem cmpK2_bad (o : CmpOp) (y : D) : cmpK2 o y .bad = .bad := (rfl)
def cmpK (c : Cfg) (o : CmpOp) (b : CE) (e : Env') (r : Res D) : Res D := r.bind fun x m => cmpK2 o x (evE c b e m)
@[simp] theorem cmpK_ok (o : CmpOp) (b : CE) (x : D) : cmpK c o b e (.ok x m) = cmpK2 o x (evE c b e m) := (rfl)
@[simp] theorem cmpK_err (o : CmpOp) (b : CE) (x : Nat) : cmpK c o b e (.err x m) = .err x m := (rfl)
@[simp] theorem cmpK_bad (o : CmpOp) (b : CE) : cmpK c o b e .bad = .bad := (rfl)
@[simp] theorem e_cmp (o : CmpOp) (a b : CE) : evE c (.cmp o a b) e m = cmpK c o b e (evE c a e m) := (rfl)
def chV (c : Cfg) (o : CmpOp) (d : CE) (e : Env') (y : D) (m : M) : Option Bool → Res D
  | some true => cmpK2 o y (evE c d e m)
  | some false => .ok (.bl false) m
  | none => .bad
@[simp] theorem chV_t (o : CmpOp) (d : CE) (y : D) : chV c o d e y m (some true) = cmpK2 o y (evE c d e m) := (rfl)
@[simp] theorem chV_f (o : CmpOp) (d : CE) (y : D) : chV c o d e y m (some false) = .ok (.bl false) m := (rfl)
theorem chV_b (o : CmpOp) (d : CE) (y : D) (k : Bool) : chV c o d e y m (some k) = if k then cmpK2 o y (evE c d e m) else .ok (.bl false) m := by cases k <;> rfl
def chK2 (c : Cfg) (o : CmpOp) (o' : CmpOp) (d : CE) (e : Env') (y : D) (r : Res D) : Res D := r.bind fun x m => chV c o' d e x m (evCmp o y x)
@[simp] theorem chK2_ok (o : CmpOp) (o' : CmpOp) (d : CE) (y : D) (x : D) : chK2 c o o' d e y (.ok x m) = chV c o' d e x m (evCmp o y x) := (rfl)
@[simp] theorem chK2_err (o : CmpOp) (o' : CmpOp) (d : CE) (y : D) (x : Nat) : chK2 c o o' d e y (.err x m) = .err x m := (rfl)
@[simp] theorem chK2_bad (o : CmpOp) (o' : CmpOp) (d : CE) (y : D) : chK2 c o o' d e y .bad = .bad := (rfl)
def chK (c : Cfg) (o : CmpOp) (o' : CmpOp) (b : CE) (d : CE) (e : Env') (r : Res D) : Res D := r.bind fun x m => chK2 c o o' d e x (evE c b e m)
@[simp] theorem chK_ok (o : CmpOp) (o' : CmpOp) (b : CE) (d : CE) (x : D) : chK c o o' b d e (.ok x m) = chK2 c o o' d e x (evE c b e m) := (rfl)
@[simp] theorem chK_err (o : CmpOp) (o' : CmpOp) (b : CE) (d : CE) (x : Nat) : chK c o o' b d e (.err x m) = .err x m := (rfl)
@[simp] theorem chK_bad (o : CmpOp) (o' : CmpOp) (b : CE) (d : CE) : chK c o o' b d e .bad = .bad := (rfl)
@[simp] theorem e_chain (o o' : CmpOp) (a b d : CE) : evE c (.chain o o' a b d) e m = chK c o o' b d e (evE c a e m) := (rfl)
@[simp] theorem e_and1 (a : CE) : evE c (.andV (.cons a .nil)) e m = evE c a e m := (rfl)
def andVv (c : Cfg) (es : CEs) (e : Env') (x : D) (m : M) : Res D := match x with
  | .bl true => evE c (.andV es) e m
  | .bl false => .ok (.bl false) m
  | _ => .bad
@[simp] theorem andVv_t (es : CEs) : andVv c es e (.bl true) m = evE c (.andV es) e m := (rfl)
@[simp] theorem andVv_f (es : CEs) : andVv c es e (.bl false) m = .ok (.bl false) m := (rfl)
theorem andVv_b (es : CEs) (k : Bool) : andVv c es e (.bl k) m = if k then evE c (.andV es) e m else .ok (.bl false) m := by cases k <;> rfl
def orVv (c : Cfg) (es : CEs) (e : Env') (x : D) (m : M) : Res D := match x with
  | .bl true => .ok (.bl true) m
  | .bl false => evE c (.orV es) e m
  | _ => .bad
@[simp] theorem orVv_t (es : CEs) : orVv c es e (.bl true) m = .ok (.bl true) m := (rfl)
@[simp] theorem orVv_f (es : CEs) : orVv c es e (.bl false) m = evE c (.orV es) e m := (rfl)
theorem orVv_b (es : CEs) (k : Bool) : orVv c es e (.bl k) m = if k then .ok (.bl true) m else evE c (.orV es) e m := by cases k <;> rfl
def andK (c : Cfg) (es : CEs) (e : Env') (r : Res D) : Res D := r.bind fun x m => andVv c es e x m
@[simp] theorem andK_ok (es : CEs) (x : D) : andK c es e (.ok x m) = andVv c es e x m := (rfl)
@[simp] theorem andK_err (es : CEs) (x : Nat) : andK c es e (.err x m) = .err x m := (rfl)
@[simp] theorem andK_bad (es : CEs) : andK c es e .bad = .bad := (rfl)
@[simp] theorem e_and2 (a b : CE) (es : CEs) : evE c (.andV (.cons a (.cons b es))) e m = andK c (.cons b es) e (evE c a e m) := (rfl)
def orK (c : Cfg) (es : CEs) (e : Env') (r : Res D) : Res D := r.bind fun x m => orVv c es e x m
@[simp] theorem orK_ok (es : CEs) (x : D) : orK c es e (.ok x m) = orVv c es e x m := (rfl)
@[simp] theorem orK_err (es : CEs) (x : Nat) : orK c es e (.err x m) = .err x m := (rfl)
@[simp] theorem orK_bad (es : CEs) : orK c es e .bad = .bad := (rfl)
@[simp] theorem e_or1 (a : CE) : evE c (.orV (.cons a .nil)) e m = evE c a e m := (rfl)
@[simp] theorem e_or2 (a b : CE) (es : CEs) : evE c (.orV (.cons a (.cons b es))) e m = orK c (.cons b es) e (evE c a e m) := (rfl)
def notVv : D → M → Res D := fun x m => match x with
  | .bl b => .ok (.bl (!b)) m
  | _ => .bad
@[simp] theorem notVv_b (b : Bool) : notVv (.bl b) m = .ok (.bl (!b)) m := (rfl)
def notK  (r : Res D) : Res D := r.bind fun x m => notVv x m
@[simp] theorem notK_ok  (x : D) : notK  (.ok x m) = notVv x m := (rfl)
@[simp] theorem notK_err  (x : Nat) : notK  (.err x m) = .err x m := (rfl)
@[simp] theorem notK_bad  : notK  .bad = .bad := (rfl)
@[simp] theorem e_not (a : CE) : evE c (.notV a) e m = notK (evE c a e m) := (rfl)
def orTv (c : Cfg) (b : CE) (e : Env') (x : D) (m : M) : Option Bool → Res D
  | some true => .ok x m
  | some false => evE c b e m
  | none => .bad
@[simp] theorem orTv_t (b : CE) (x : D) : orTv c b e x m (some true) = .ok x m := (rfl)
@[simp] theorem orTv_f (b : CE) (x : D) : orTv c b e x m (some false) = evE c b e m := (rfl)
theorem orTv_b (b : CE) (x : D) (k : Bool) : orTv c b e x m (some k) = if k then .ok x m else evE c b e m := by cases k <;> rfl
def orTK (c : Cfg) (b : CE) (e : Env') (r : Res D) : Res D := r.bind fun x m => orTv c b e x m (evTru m x)
@[simp] theorem orTK_ok (b : CE) (x : D) : orTK c b e (.ok x m) = orTv c b e x m (evTru m x) := (rfl)
@[simp] theorem orTK_err (b : CE) (x : Nat) : orTK c b e (.err x m) = .err x m := (rfl)
@[simp] theorem orTK_bad (b : CE) : orTK c b e .bad = .bad := (rfl)
@[simp] theorem e_orT (a b : CE) : evE c (.orT a b) e m = orTK c b e (evE c a e m) := (rfl)
def ifeV (c : Cfg) (a b : CE) (e : Env') (k : Bool) (m : M) : Res D := if k then evE c a e m else evE c b e m
@[simp] theorem ifeV_t (a b : CE) : ifeV c a b e true m = evE c a e m := (rfl)
@[simp] theorem ifeV_f (a b : CE) : ifeV c a b e false m = evE c b e m := (rfl)
theorem ifeV_b (a b : CE) (k : Bool) : ifeV c a b e k m = if k then evE c a e m else evE c b e m := (rfl)
def ifeK (c : Cfg) (a : CE) (b : CE) (e : Env') (r : Res Bool) : Res D := r.bind fun x m => ifeV c a b e x m
@[simp] theorem ifeK_ok (a : CE) (b : CE) (x : Bool) : ifeK c a b e (.ok x m) = ifeV c a b e x m := (rfl)
@[simp] theorem ifeK_err (a : CE) (b : CE) (x : Nat) : ifeK c a b e (.err x m) = .err x m := (rfl)
@[simp] theorem ifeK_bad (a : CE) (b : CE) : ifeK c a b e .bad = .bad := (rfl)
@[simp] theorem e_ife (t : CT) (a b : CE) : evE c (.ife t a b) e m = ifeK c a b e (evT c t e m) := (rfl)
def tupV (ds : List D) (m : M) : Res D := if lineOk ds.length then .ok (.tup ds) m else .bad
def tupK  (r : Res (List D)) : Res D := r.bind fun x m => tupV x m
@[simp] theorem tupK_ok  (x : (List D)) : tupK  (.ok x m) = tupV x m := (rfl)
@[simp] theorem tupK_err  (x : Nat) : tupK  (.err x m) = .err x m := (rfl)
@[simp] theorem tupK_bad  : tupK  .bad = .bad := (rfl)
@[simp] theorem e_tup (es : CEs) : evE c (.tup es) e m = tupK (evEs c es e m) := (rfl)
def lvK  (r : Res (List D)) : Res D := r.bind fun x m => .ok (.lst x) m
@[simp] theorem lvK_ok  (x : (List D)) : lvK  (.ok x m) = .ok (.lst x) m := (rfl)
@[simp] theorem lvK_err  (x : Nat) : lvK  (.err x m) = .err x m := (rfl)
@[simp] theorem lvK_bad  : lvK  .bad = .bad := (rfl)
@[simp] theorem e_lv (l : CL) : evE c (.lv l) e m = lvK (evL c l e m) := (rfl)
def lmK  (r : Res (List D)) : Res D := r.bind fun x m => .ok (.ref m.length) (m ++ [.lst x])
@[simp] theorem lmK_ok  (x : (List D)) : lmK  (.ok x m) = .ok (.ref m.length) (m ++ [.lst x]) := (rfl)
@[simp] theorem lmK_err  (x : Nat) : lmK  (.err x m) = .err x m := (rfl)
@[simp] theorem lmK_bad  : lmK  .bad = .bad := (rfl)
@[simp] theorem e_lm (l : CL) : evE c (.lm l) e m = lmK (evL c l e m) := (rfl)
def frzV (c : Cfg) (x : D) (m : M) : Res D := match x with
    | .ref r => (match m[r]? with
      | some (.lst xs) => if c.base ≤ r then .ok (.lst xs) (m.set r .gone) else .bad
      | _ => .bad)
    | x => .ok x m
theorem frzV_r (r : Nat) (xs : List D) (h : m[r]? = some (.lst xs)) (hb : c.base ≤ r) : frzV c (.ref r) m = .ok (.lst xs) (m.set r .gone) := by
  show (match m[r]? with | some (.lst xs) => _ | _ => _) = _
  rw [h]; exact if_pos hb
@[simp] theorem frzV_l (xs : List D) : frzV c (.lst xs) m = .ok (.lst xs) m := (rfl)
@[simp] theorem frzV_t (xs : List D) : frzV c (.tup xs) m = .ok (.tup xs) m := (rfl)
@[simp] theorem frzV_n : frzV c .non m = .ok .non m := (rfl)
@[simp] theorem frzV_i (i : Int) : frzV c (.int i) m = .ok (.int i) m := (rfl)
def frzK (c : Cfg) (r : Res D) : Res D := r.bind fun x m => frzV c x m
@[simp] theorem frzK_ok  (x : D) : frzK c (.ok x m) = frzV c x m := (rfl)
@[simp] theorem frzK_err  (x : Nat) : frzK c (.err x m) = .err x m := (rfl)
@[simp] theorem frzK_bad  : frzK c .bad = .bad := (rfl)
@[simp] theorem e_frz (a : CE) : evE c (.frz a) e m = frzK c (evE c a e m) := (rfl)
def idxK2 (y : D) (r : Res D) : Res D := r.bind fun x m => .of (evIdx m y x) m
@[simp] theorem idxK2_ok (y : D) (x : D) : idxK2 y (.ok x m) = .of (evIdx m y x) m := (rfl)
@[simp] theorem idxK2_err (y : D) (x : Nat) : idxK2 y (.err x m) = .err x m := (rfl)
@[simp] theorem idxK2_bad (y : D) : idxK2 y .bad = .bad := (rfl)
def idxK (c : Cfg) (b : CE) (e : Env') (r : Res D) : Res D := r.bind fun x m => idxK2 x (evE c b e m)
@[simp] theorem idxK_ok (b : CE) (x : D) : idxK c b e (.ok x m) = idxK2 x (evE c b e m) := (rfl)
@[simp] theorem idxK_err (b : CE) (x : Nat) : idxK c b e (.err x m) = .err x m := (rfl)
@[simp] theorem idxK_bad (b : CE) : idxK c b e .bad = .bad := (rfl)
@[simp] theorem e_idx (a b : CE) : evE c (.idx a b) e m = idxK c b e (evE c a e m) := (rfl)
def slcK3 (y : D) (lo : Option Int) (r : Res (Option Int)) : Res D := r.bind fun x m => .of (evSlc m y lo x) m
@[simp] theorem slcK3_ok (y : D) (lo : Option Int) (x : (Option Int)) : slcK3 y lo (.ok x m) = .of (evSlc m y lo x) m := (rfl)
@[simp] theorem slcK3_err (y : D) (lo : Option Int) (x : Nat) : slcK3 y lo (.err x m) = .err x m := (rfl)
@[simp] theorem slcK3_bad (y : D) (lo : Option Int) : slcK3 y lo .bad = .bad := (rfl)
def slcK2 (c : Cfg) (hi : CO) (e : Env') (y : D) (r : Res (Option Int)) : Res D := r.bind fun x m => slcK3 y x (evO c hi e m)
@[simp] theorem slcK2_ok (hi : CO) (y : D) (x : (Option Int)) : slcK2 c hi e y (.ok x m) = slcK3 y x (evO c hi e m) := (rfl)
@[simp] theorem slcK2_err (hi : CO) (y : D) (x : Nat) : slcK2 c hi e y (.err x m) = .err x m := (rfl)
@[simp] theorem slcK2_bad (hi : CO) (y : D) : slcK2 c hi e y .bad = .bad := (rfl)
def slcK (c : Cfg) (lo : CO) (hi : CO) (e : Env') (r : Res D) : Res D := r.bind fun x m => slcK2 c hi e x (evO c lo e m)
@[simp] theorem slcK_ok (lo : CO) (hi : CO) (x : D) : slcK c lo hi e (.ok x m) = slcK2 c hi e x (evO c lo e m) := (rfl)
@[simp] theorem slcK_err (lo : CO) (hi : CO) (x : Nat) : slcK c lo hi e (.err x m) = .err x m := (rfl)
@[simp] theorem slcK_bad (lo : CO) (hi : CO) : slcK c lo hi e .bad = .bad := (rfl)
@[simp] theorem e_slc (a : CE) (lo hi : CO) : evE c (.slc a lo hi) e m = slcK c lo hi e (evE c a e m) := (rfl)
def calK (c : Cfg) (f : Nat) (r : Res (List D)) : Res D := r.bind fun x m => c.call f x m
@[simp] theorem calK_ok (f : Nat) (x : (List D)) : calK c f (.ok x m) = c.call f x m := (rfl)
@[simp] theorem calK_err (f : Nat) (x : Nat) : calK c f (.err x m) = .err x m := (rfl)
@[simp] theorem calK_bad (f : Nat) : calK c f .bad = .bad := (rfl)
@[simp] theorem e_call (f : Nat) (es : CEs) : evE c (.call f es) e m = calK c f (evEs c es e m) := (rfl)
def fnV (c : Cfg) (es : CEs) (e : Env') (m : M) : Option D → Res D
  | some (.fn f) => if f < c.nf then calK c f (evEs c es e m) else .bad
  | _ => .bad
@[simp] theorem fnV_f (es : CEs) (f : Nat) : fnV c es e m (some (.fn f)) = if f < c.nf then calK c f (evEs c es e m) else .bad := (rfl)
@[simp] theorem e_callL (i : Nat) (es : CEs) : evE c (.callL i es) e m = fnV c es e m (getV e i) := (rfl)
def kwV (c : Cfg) (f : Nat) (m : M) : Option (List D) → Res D
  | some vs => c.call f vs m
  | none => .bad
@[simp] theorem kwV_s (f : Nat) (vs : List D) : kwV c f m (some vs) = c.call f vs m := (rfl)
def kwK2 (c : Cfg) (f : Nat) (pm : List Nat) (ds : List D) (r : Res (List D)) : Res D := r.bind fun x m => kwV c f m (pickL (ds ++ x) pm)
@[simp] theorem kwK2_ok (f : Nat) (pm : List Nat) (ds : List D) (x : (List D)) : kwK2 c f pm ds (.ok x m) = kwV c f m (pickL (ds ++ x) pm) := (rfl)
@[simp] theorem kwK2_err (f : Nat) (pm : List Nat) (ds : List D) (x : Nat) : kwK2 c f pm ds (.err x m) = .err x m := (rfl)
@[simp] theorem kwK2_bad (f : Nat) (pm : List Nat) (ds : List D) : kwK2 c f pm ds .bad = .bad := (rfl)
def kwK (c : Cfg) (f : Nat) (ks : CEs) (pm : List Nat) (e : Env') (r : Res (List D)) : Res D := r.bind fun x m => kwK2 c f pm x (evEs c ks e m)
@[simp] theorem kwK_ok (f : Nat) (ks : CEs) (pm : List Nat) (x : (List D)) : kwK c f ks pm e (.ok x m) = kwK2 c f pm x (evEs c ks e m) := (rfl)
@[simp] theorem kwK_err (f : Nat) (ks : CEs) (pm : List Nat) (x : Nat) : kwK c f ks pm e (.err x m) = .err x m := (rfl)
@[simp] theorem kwK_bad (f : Nat) (ks : CEs) (pm : List Nat) : kwK c f ks pm e .bad = .bad := (rfl)
@[simp] theorem e_callK (f : Nat) (es ks : CEs) (pm : List Nat) : evE c (.callK f es ks pm) e m = kwK c f ks pm e (evEs c es e m) := (rfl)
@[simp] theorem pick_nil {α : Type} (xs : List α) : pickL xs [] = some [] := (rfl)
@[simp] theorem pick_cons {α : Type} (xs : List α) (i : Nat) (is : List Nat) : pickL xs (i :: is) = (xs[i]?).bind fun x => (pickL xs is).map fun r => x :: r := (rfl)
def bltK (b : Blt) (r : Res (List D)) : Res D := r.bind fun x m => .of (evBlt m b x) m
@[simp] theorem bltK_ok (b : Blt) (x : (List D)) : bltK b (.ok x m) = .of (evBlt m b x) m := (rfl)
@[simp] theorem bltK_err (b : Blt) (x : Nat) : bltK b (.err x m) = .err x m := (rfl)
@[simp] theorem bltK_bad (b : Blt) : bltK b .bad = .bad := (rfl)
@[simp] theorem e_blt (b : Blt) (es : CEs) : evE c (.blt b es) e m = bltK b (evEs c es e m) := (rfl)
def isIK (ts : List Ty) (r : Res D) : Res D := r.bind fun x m => .of ((evIsI m x ts).map .bl) m
@[simp] theorem isIK_ok (ts : List Ty) (x : D) : isIK ts (.ok x m) = .of ((evIsI m x ts).map .bl) m := (rfl)
@[simp] theorem isIK_err (ts : List Ty) (x : Nat) : isIK ts (.err x m) = .err x m := (rfl)
@[simp] theorem isIK_bad (ts : List Ty) : isIK ts .bad = .bad := (rfl)
@[simp] theorem e_isI (a : CE) (ts : List Ty) : evE c (.isI a ts) e m = isIK ts (evE c a e m) := (rfl)
@[simp] theorem e_exc (i : Nat) : evE c (.excIs i) e m = .ok (.bl true) m := (rfl)
def pV (c : Cfg) (f : Nat) (m : M) : Option (List D) → Res D
  | some ds => pureR m (c.call f ds [])
  | none => .bad
@[simp] theorem pV_s (f : Nat) (ds : List D) : pV c f m (some ds) = pureR m (c.call f ds []) := (rfl)
@[simp] theorem pureR_b (b : Bool) : pureR m (.ok (.bl b) []) = .ok (.bl b) m := (rfl)
@[simp] theorem pureR_i (b : Int) : pureR m (.ok (.int b) []) = .ok (.int b) m := (rfl)
@[simp] theorem pureR_n : pureR m (.ok .non []) = .ok .non m := (rfl)
def pK (c : Cfg) (f : Nat) (r : Res (List D)) : Res D := r.bind fun x m => pV c f m (fzs m x)
@[simp] theorem pK_ok (f : Nat) (x : (List D)) : pK c f (.ok x m) = pV c f m (fzs m x) := (rfl)
@[simp] theorem pK_err (f : Nat) (x : Nat) : pK c f (.err x m) = .err x m := (rfl)
@[simp] theorem pK_bad (f : Nat) : pK c f .bad = .bad := (rfl)
@[simp] theorem e_callP (f : Nat) (es : CEs) : evE c (.callP f es) e m = pK c f (evEs c es e m) := (rfl)
@[simp] theorem es_nil : evEs c .nil e m = .ok [] m := (rfl)
def esK2 (d : D) (r : Res (List D)) : Res (List D) := r.bind fun x m => .ok (d :: x) m
@[simp] theorem esK2_ok (d : D) (x : (List D)) : esK2 d (.ok x m) = .ok (d :: x) m := (rfl)
@[simp] theorem esK2_err (d : D) (x : Nat) : esK2 d (.err x m) = .err x m := (rfl)
@[simp] theorem esK2_bad (d : D) : esK2 d .bad = .bad := (rfl)
def esK (c : Cfg) (es : CEs) (e : Env') (r : Res D) : Res (List D) := r.bind fun x m => esK2 x (evEs c es e m)
@[simp] theorem esK_ok (es : CEs) (x : D) : esK c es e (.ok x m) = esK2 x (evEs c es e m) := (rfl)
@[simp] theorem esK_err (es : CEs) (x : Nat) : esK c es e (.err x m) = .err x m := (rfl)
@[simp] theorem esK_bad (es : CEs) : esK c es e .bad = .bad := (rfl)
@[simp] theorem es_cons (a : CE) (es : CEs) : evEs c (.cons a es) e m = esK c es e (evE c a e m) := (rfl)
@[simp] theorem o_none : evO c .none e m = .ok none m := (rfl)
def oV : D → M → Res (Option Int) := fun d m => match d with
  | .int i => .ok (some i) m
  | _ => .bad
@[simp] theorem oV_i (i : Int) : oV (.int i) m = .ok (some i) m := (rfl)
def oK  (r : Res D) : Res (Option Int) := r.bind fun x m => oV x m
@[simp] theorem oK_ok  (x : D) : oK  (.ok x m) = oV x m := (rfl)
@[simp] theorem oK_err  (x : Nat) : oK  (.err x m) = .err x m := (rfl)
@[simp] theorem oK_bad  : oK  .bad = .bad := (rfl)
@[simp] theorem o_some (a : CE) : evO c (.some a) e m = oK (evE c a e m) := (rfl)
def dispV (ds : List D) (m : M) : Res (List D) := if lineOk ds.length then .ok ds m else .bad
def dispK  (r : Res (List D)) : Res (List D) := r.bind fun x m => dispV x m
@[simp] theorem dispK_ok  (x : (List D)) : dispK  (.ok x m) = dispV x m := (rfl)
@[simp] theorem dispK_err  (x : Nat) : dispK  (.err x m) = .err x m := (rfl)
@[simp] theorem dispK_bad  : dispK  .bad = .bad := (rfl)
@[simp] theorem l_disp (es : CEs) : evL c (.disp es) e m = dispK (evEs c es e m) := (rfl)
def catK2 (y : D) (r : Res D) : Res (List D) := r.bind fun x m => .of (evCatL m y x) m
@[simp] theorem catK2_ok (y : D) (x : D) : catK2 y (.ok x m) = .of (evCatL m y x) m := (rfl)
@[simp] theorem catK2_err (y : D) (x : Nat) : catK2 y (.err x m) = .err x m := (rfl)
@[simp] theorem catK2_bad (y : D) : catK2 y .bad = .bad := (rfl)
def catK (c : Cfg) (b : CE) (e : Env') (r : Res D) : Res (List D) := r.bind fun x m => catK2 x (evE c b e m)
@[simp] theorem catK_ok (b : CE) (x : D) : catK c b e (.ok x m) = catK2 x (evE c b e m) := (rfl)
@[simp] theorem catK_err (b : CE) (x : Nat) : catK c b e (.err x m) = .err x m := (rfl)
@[simp] theorem catK_bad (b : CE) : catK c b e .bad = .bad := (rfl)
@[simp] theorem l_cat (a b : CE) : evL c (.cat a b) e m = catK c b e (evE c a e m) := (rfl)
def repK2 (y : D) (r : Res D) : Res (List D) := r.bind fun x m => .of (evRepL m y x) m
@[simp] theorem repK2_ok (y : D) (x : D) : repK2 y (.ok x m) = .of (evRepL m y x) m := (rfl)
@[simp] theorem repK2_err (y : D) (x : Nat) : repK2 y (.err x m) = .err x m := (rfl)
@[simp] theorem repK2_bad (y : D) : repK2 y .bad = .bad := (rfl)
def repK (c : Cfg) (b : CE) (e : Env') (r : Res D) : Res (List D) := r.bind fun x m => repK2 x (evE c b e m)
@[simp] theorem repK_ok (b : CE) (x : D) : repK c b e (.ok x m) = repK2 x (evE c b e m) := (rfl)
@[simp] theorem repK_err (b : CE) (x : Nat) : repK c b e (.err x m) = .err x m := (rfl)
@[simp] theorem repK_bad (b : CE) : repK c b e .bad = .bad := (rfl)
@[simp] theorem l_rep (a b : CE) : evL c (.rep a b) e m = repK c b e (evE c a e m) := (rfl)
def lstK  (r : Res D) : Res (List D) := r.bind fun x m => .of (itemsOf m x) m
@[simp] theorem lstK_ok  (x : D) : lstK  (.ok x m) = .of (itemsOf m x) m := (rfl)
@[simp] theorem lstK_err  (x : Nat) : lstK  (.err x m) = .err x m := (rfl)
@[simp] theorem lstK_bad  : lstK  .bad = .bad := (rfl)
@[simp] theorem l_lst (a : CE) : evL c (.lst a) e m = lstK (evE c a e m) := (rfl)
def lslK3 (y : D) (lo : Option Int) (r : Res (Option Int)) : Res (List D) := r.bind fun x m => .of ((lstOfS m y).map fun xs => cutD xs lo x) m
@[simp] theorem lslK3_ok (y : D) (lo : Option Int) (x : (Option Int)) : lslK3 y lo (.ok x m) = .of ((lstOfS m y).map fun xs => cutD xs lo x) m := (rfl)
@[simp] theorem lslK3_err (y : D) (lo : Option Int) (x : Nat) : lslK3 y lo (.err x m) = .err x m := (rfl)
@[simp] theorem lslK3_bad (y : D) (lo : Option Int) : lslK3 y lo .bad = .bad := (rfl)
def lslK2 (c : Cfg) (hi : CO) (e : Env') (y : D) (r : Res (Option Int)) : Res (List D) := r.bind fun x m => lslK3 y x (evO c hi e m)
@[simp] theorem lslK2_ok (hi : CO) (y : D) (x : (Option Int)) : lslK2 c hi e y (.ok x m) = lslK3 y x (evO c hi e m) := (rfl)
@[simp] theorem lslK2_err (hi : CO) (y : D) (x : Nat) : lslK2 c hi e y (.err x m) = .err x m := (rfl)
@[simp] theorem lslK2_bad (hi : CO) (y : D) : lslK2 c hi e y .bad = .bad := (rfl)
def lslK (c : Cfg) (lo : CO) (hi : CO) (e : Env') (r : Res D) : Res (List D) := r.bind fun x m => lslK2 c hi e x (evO c lo e m)
@[simp] theorem lslK_ok (lo : CO) (hi : CO) (x : D) : lslK c lo hi e (.ok x m) = lslK2 c hi e x (evO c lo e m) := (rfl)
@[simp] theorem lslK_err (lo : CO) (hi : CO) (x : Nat) : lslK c lo hi e (.err x m) = .err x m := (rfl)
@[simp] theorem lslK_bad (lo : CO) (hi : CO) : lslK c lo hi e .bad = .bad := (rfl)
@[simp] theorem l_slc (a : CE) (lo hi : CO) : evL c (.slc a lo hi) e m = lslK c lo hi e (evE c a e m) := (rfl)
/-- a comprehension's turn -/
def compF (c : Cfg) (elt : CE) (tg : Tg) (cond : CTo) (own : List Nat) (e : Env') (x : D) (m : M) : Res (Option D) := match assignTg tg x (wipeE e own) with
  | some e' => (evTo c cond e' m).bind fun k m => if k then (evE c elt e' m).bind fun d m => .ok (some d) m else .ok none m
  | none => .bad
theorem l_comp (elt : CE) (tg : Tg) (it : CI) (cond : CTo) (own : List Nat) (xs : List D) {m' : M} (h : evI c it e m = .ok (.seq xs) m') (hl : lineOk xs.length = true) :
    evL c (.comp elt tg it cond own) e m = compL (compF c elt tg cond own e) xs m' := by
  show Res.bind (evI c it e m) _ = _
  rw [h]
  show (if lineOk xs.length = true then _ else _) = _
  rw [if_pos hl]; rfl
/-! ### walks -/
def seqV (m : M) : D → Res Src := fun x => match x with
    | .tup xs => .ok (.seq xs) m
    | .lst xs => .ok (.seq xs) m
    | .ref r => (match m[r]? with
      | some (.lst xs) => .ok (.rf r xs.length) m
      | _ => .bad)
    | _ => .bad
@[simp] theorem seqV_t (xs : List D) : seqV m (.tup xs) = .ok (.seq xs) m := (rfl)
@[simp] theorem seqV_l (xs : List D) : seqV m (.lst xs) = .ok (.seq xs) m := (rfl)
theorem seqV_r (r : Nat) (xs : List D) (h : m[r]? = some (.lst xs)) : seqV m (.ref r) = .ok (.rf r xs.length) m := by
  show (match m[r]? with | some (.lst xs) => _ | _ => _) = _
  rw [h]
def seqK  (r : Res D) : Res Src := r.bind fun x m => seqV m x
@[simp] theorem seqK_ok  (x : D) : seqK  (.ok x m) = seqV m x := (rfl)
@[simp] theorem seqK_err  (x : Nat) : seqK  (.err x m) = .err x m := (rfl)
@[simp] theorem seqK_bad  : seqK  .bad = .bad := (rfl)
@[simp] theorem i_seq (a : CE) : evI c (.seq a) e m = seqK (evE c a e m) := (rfl)
def rng1V (m : M) : D → Res Src := fun x => match x with
    | .int j => if decide (-(2 ^ 62) ≤ j) && decide (j < 2 ^ 62) then .ok (.seq ((List.range j.toNat).map fun (i : Nat) => .int i)) m else .bad
    | _ => .bad
theorem rng1_ (j : Int) (h : -(2 ^ 62) ≤ j) (w : j < 2 ^ 62) : rng1V m (.int j) = .ok (.seq ((List.range j.toNat).map fun (i : Nat) => .int i)) m := by
  show (if _ then _ else _) = _
  rw [if_pos (by simp; exact ⟨h, w⟩)]
def rng1K  (r : Res D) : Res Src := r.bind fun x m => rng1V m x
@[simp] theorem rng1K_ok  (x : D) : rng1K  (.ok x m) = rng1V m x := (rfl)
@[simp] theorem rng1K_err  (x : Nat) : rng1K  (.err x m) = .err x m := (rfl)
@[simp] theorem rng1K_bad  : rng1K  .bad = .bad := (rfl)
@[simp] theorem i_rng1 (a : CE) : evI c (.rng1 a) e m = rng1K (evE c a e m) := (rfl)
def rng2V (m : M) : D → D → Res Src := fun x y => match x, y with
    | .int i, .int j => if decide (-(2 ^ 62) ≤ i) && decide (i < 2 ^ 62) && decide (-(2 ^ 62) ≤ j) && decide (j < 2 ^ 62) then .ok (.seq ((List.range (j - i).toNat).map fun (k : Nat) => .int (i + k))) m else .bad
    | _, _ => .bad
theorem rng2_ (i j : Int) (h : -(2 ^ 62) ≤ i) (w : i < 2 ^ 62) (h' : -(2 ^ 62) ≤ j) (w' : j < 2 ^ 62) : rng2V m (.int i) (.int j) = .ok (.seq ((List.range (j - i).toNat).map fun (k : Nat) => .int (i + k))) m := by
  show (if _ then _ else _) = _
  rw [if_pos (by simp; exact ⟨⟨⟨h, w⟩, h'⟩, w'⟩)]
def rng2K2 (y : D) (r : Res D) : Res Src := r.bind fun x m => rng2V m y x
@[simp] theorem rng2K2_ok (y : D) (x : D) : rng2K2 y (.ok x m) = rng2V m y x := (rfl)
@[simp] theorem rng2K2_err (y : D) (x : Nat) : rng2K2 y (.err x m) = .err x m := (rfl)
@[simp] theorem rng2K2_bad (y : D) : rng2K2 y .bad = .bad := (rfl)
def rng2K (c : Cfg) (b : CE) (e : Env') (r : Res D) : Res Src := r.bind fun x m => rng2K2 x (evE c b e m)
@[simp] theorem rng2K_ok (b : CE) (x : D) : rng2K c b e (.ok x m) = rng2K2 x (evE c b e m) := (rfl)
@[simp] theorem rng2K_err (b : CE) (x : Nat) : rng2K c b e (.err x m) = .err x m := (rfl)
@[simp] theorem rng2K_bad (b : CE) : rng2K c b e .bad = .bad := (rfl)
@[simp] theorem i_rng2 (a b : CE) : evI c (.rng2 a b) e m = rng2K c b e (evE c a e m) := (rfl)
def rngDV (m : M) : D → D → D → Res Src := fun x y z => match x, y, z with
    | .int i, .int j, .int k => if decide (k = -1) && decide (-(2 ^ 62) ≤ i) && decide (i < 2 ^ 62) && decide (-(2 ^ 62) ≤ j) && decide (j < 2 ^ 62) then .ok (.seq ((List.range (i - j).toNat).map fun (k : Nat) => .int (i + k * (-1)))) m else .bad
    | _, _, _ => .bad
theorem rngD_ (i j : Int) (h : -(2 ^ 62) ≤ i) (w : i < 2 ^ 62) (h' : -(2 ^ 62) ≤ j) (w' : j < 2 ^ 62) : rngDV m (.int i) (.int j) (.int (-1)) = .ok (.seq ((List.range (i - j).toNat).map fun (k : Nat) => .int (i + k * (-1)))) m := by
  show (if _ then _ else _) = _
  rw [if_pos (by simp; exact ⟨⟨⟨h, w⟩, h'⟩, w'⟩)]
def rngDK3 (y : D) (z : D) (r : Res D) : Res Src := r.bind fun x m => rngDV m y z x
@[simp] theorem rngDK3_ok (y : D) (z : D) (x : D) : rngDK3 y z (.ok x m) = rngDV m y z x := (rfl)
@[simp] theorem rngDK3_err (y : D) (z : D) (x : Nat) : rngDK3 y z (.err x m) = .err x m := (rfl)
@[simp] theorem rngDK3_bad (y : D) (z : D) : rngDK3 y z .bad = .bad := (rfl)
def rngDK2 (c : Cfg) (d : CE) (e : Env') (y : D) (r : Res D) : Res Src := r.bind fun x m => rngDK3 y x (evE c d e m)
@[simp] theorem rngDK2_ok (d : CE) (y : D) (x : D) : rngDK2 c d e y (.ok x m) = rngDK3 y x (evE c d e m) := (rfl)
@[simp] theorem rngDK2_err (d : CE) (y : D) (x : Nat) : rngDK2 c d e y (.err x m) = .err x m := (rfl)
@[simp] theorem rngDK2_bad (d : CE) (y : D) : rngDK2 c d e y .bad = .bad := (rfl)
def rngDK (c : Cfg) (b : CE) (d : CE) (e : Env') (r : Res D) : Res Src := r.bind fun x m => rngDK2 c d e x (evE c b e m)
@[simp] theorem rngDK_ok (b : CE) (d : CE) (x : D) : rngDK c b d e (.ok x m) = rngDK2 c d e x (evE c b e m) := (rfl)
@[simp] theorem rngDK_err (b : CE) (d : CE) (x : Nat) : rngDK c b d e (.err x m) = .err x m := (rfl)
@[simp] theorem rngDK_bad (b : CE) (d : CE) : rngDK c b d e .bad = .bad := (rfl)
@[simp] theorem i_rngD (a b d : CE) : evI c (.rngD a b d) e m = rngDK c b d e (evE c a e m) := (rfl)
def enumV (m : M) : D → Res Src := fun x => match x with
    | .lst xs => .ok (.seq ((xs.zipIdx).map fun p => .tup [.int p.2, p.1])) m
    | _ => .bad
@[simp] theorem enumV_l (xs : List D) : enumV m (.lst xs) = .ok (.seq ((xs.zipIdx).map fun p => .tup [.int p.2, p.1])) m := (rfl)
def enumK  (r : Res D) : Res Src := r.bind fun x m => enumV m x
@[simp] theorem enumK_ok  (x : D) : enumK  (.ok x m) = enumV m x := (rfl)
@[simp] theorem enumK_err  (x : Nat) : enumK  (.err x m) = .err x m := (rfl)
@[simp] theorem enumK_bad  : enumK  .bad = .bad := (rfl)
@[simp] theorem i_enum (a : CE) : evI c (.enum a) e m = enumK (evE c a e m) := (rfl)
def zipV (m : M) : D → D → Res Src := fun x y => match seqOf x, seqOf y with
    | some xs, some ys => .ok (.seq (List.zipWith (fun p q => .tup [p, q]) xs ys)) m
    | _, _ => .bad
@[simp] theorem zipV_l (xs ys : List D) : zipV m (.lst xs) (.lst ys) = .ok (.seq (List.zipWith (fun p q => .tup [p, q]) xs ys)) m := (rfl)
@[simp] theorem zipV_t (xs ys : List D) : zipV m (.tup xs) (.tup ys) = .ok (.seq (List.zipWith (fun p q => .tup [p, q]) xs ys)) m := (rfl)
@[simp] theorem zipV_lt (xs ys : List D) : zipV m (.lst xs) (.tup ys) = .ok (.seq (List.zipWith (fun p q => .tup [p, q]) xs ys)) m := (rfl)
@[simp] theorem zipV_tl (xs ys : List D) : zipV m (.tup xs) (.lst ys) = .ok (.seq (List.zipWith (fun p q => .tup [p, q]) xs ys)) m := (rfl)
def zipK2 (y : D) (r : Res D) : Res Src := r.bind fun x m => zipV m y x
@[simp] theorem zipK2_ok (y : D) (x : D) : zipK2 y (.ok x m) = zipV m y x := (rfl)
@[simp] theorem zipK2_err (y : D) (x : Nat) : zipK2 y (.err x m) = .err x m := (rfl)
@[simp] theorem zipK2_bad (y : D) : zipK2 y .bad = .bad := (rfl)
def zipK (c : Cfg) (b : CE) (e : Env') (r : Res D) : Res Src := r.bind fun x m => zipK2 x (evE c b e m)
@[simp] theorem zipK_ok (b : CE) (x : D) : zipK c b e (.ok x m) = zipK2 x (evE c b e m) := (rfl)
@[simp] theorem zipK_err (b : CE) (x : Nat) : zipK c b e (.err x m) = .err x m := (rfl)
@[simp] theorem zipK_bad (b : CE) : zipK c b e .bad = .bad := (rfl)
@[simp] theorem i_zip (a b : CE) : evI c (.zip a b) e m = zipK c b e (evE c a e m) := (rfl)
/-! ### tests -/
def valV : D → M → Res Bool := fun x m => match x with
    | .bl b => .ok b m
    | _ => .bad
@[simp] theorem valV_b (b : Bool) : valV (.bl b) m = .ok b m := (rfl)
def valK  (r : Res D) : Res Bool := r.bind fun x m => valV x m
@[simp] theorem valK_ok  (x : D) : valK  (.ok x m) = valV x m := (rfl)
@[simp] theorem valK_err  (x : Nat) : valK  (.err x m) = .err x m := (rfl)
@[simp] theorem valK_bad  : valK  .bad = .bad := (rfl)
@[simp] theorem t_val (a : CE) : evT c (.val a) e m = valK (evE c a e m) := (rfl)
def truK  (r : Res D) : Res Bool := r.bind fun x m => .of (evTru m x) m
@[simp] theorem truK_ok  (x : D) : truK  (.ok x m) = .of (evTru m x) m := (rfl)
@[simp] theorem truK_err  (x : Nat) : truK  (.err x m) = .err x m := (rfl)
@[simp] theorem truK_bad  : truK  .bad = .bad := (rfl)
@[simp] theorem t_tru (a : CE) : evT c (.tru a) e m = truK (evE c a e m) := (rfl)
def tcmK2 (o : CmpOp) (y : D) (r : Res D) : Res Bool := r.bind fun x m => .of (evCmp o y x) m
@[simp] theorem tcmK2_ok (o : CmpOp) (y : D) (x : D) : tcmK2 o y (.ok x m) = .of (evCmp o y x) m := (rfl)
@[simp] theorem tcmK2_err (o : CmpOp) (y : D) (x : Nat) : tcmK2 o y (.err x m) = .err x m := (rfl)
@[simp] theorem tcmK2_bad (o : CmpOp) (y : D) : tcmK2 o y .bad = .bad := (rfl)
def tcmK (c : Cfg) (o : CmpOp) (b : CE) (e : Env') (r : Res D) : Res Bool := r.bind fun x m => tcmK2 o x (evE c b e m)
@[simp] theorem tcmK_ok (o : CmpOp) (b : CE) (x : D) : tcmK c o b e (.ok x m) = tcmK2 o x (evE c b e m) := (rfl)
@[simp] theorem tcmK_err (o : CmpOp) (b : CE) (x : Nat) : tcmK c o b e (.err x m) = .err x m := (rfl)
@[simp] theorem tcmK_bad (o : CmpOp) (b : CE) : tcmK c o b e .bad = .bad := (rfl)
@[simp] theorem t_cmp (o : CmpOp) (a b : CE) : evT c (.cmp o a b) e m = tcmK c o b e (evE c a e m) := (rfl)
def tchV (c : Cfg) (o : CmpOp) (d : CE) (e : Env') (y : D) (m : M) : Option Bool → Res Bool
  | some true => tcmK2 o y (evE c d e m)
  | some false => .ok false m
  | none => .bad
@[simp] theorem tchV_t (o : CmpOp) (d : CE) (y : D) : tchV c o d e y m (some true) = tcmK2 o y (evE c d e m) := (rfl)
@[simp] theorem tchV_f (o : CmpOp) (d : CE) (y : D) : tchV c o d e y m (some false) = .ok false m := (rfl)
theorem tchV_b (o : CmpOp) (d : CE) (y : D) (k : Bool) : tchV c o d e y m (some k) = if k then tcmK2 o y (evE c d e m) else .ok false m := by cases k <;> rfl
def tchK2 (c : Cfg) (o : CmpOp) (o' : CmpOp) (d : CE) (e : Env') (y : D) (r : Res D) : Res Bool := r.bind fun x m => tchV c o' d e x m (evCmp o y x)
@[simp] theorem tchK2_ok (o : CmpOp) (o' : CmpOp) (d : CE) (y : D) (x : D) : tchK2 c o o' d e y (.ok x m) = tchV c o' d e x m (evCmp o y x) := (rfl)
@[simp] theorem tchK2_err (o : CmpOp) (o' : CmpOp) (d : CE) (y : D) (x : Nat) : tchK2 c o o' d e y (.err x m) = .err x m := (rfl)
@[simp] theorem tchK2_bad (o : CmpOp) (o' : CmpOp) (d : CE) (y : D) : tchK2 c o o' d e y .bad = .bad := (rfl)
def tchK (c : Cfg) (o : CmpOp) (o' : CmpOp) (b : CE) (d : CE) (e : Env') (r : Res D) : Res Bool := r.bind fun x m => tchK2 c o o' d e x (evE c b e m)
@[simp] theorem tchK_ok (o : CmpOp) (o' : CmpOp) (b : CE) (d : CE) (x : D) : tchK c o o' b d e (.ok x m) = tchK2 c o o' d e x (evE c b e m) := (rfl)
@[simp] theorem tchK_err (o : CmpOp) (o' : CmpOp) (b : CE) (d : CE) (x : Nat) : tchK c o o' b d e (.err x m) = .err x m := (rfl)
@[simp] theorem tchK_bad (o : CmpOp) (o' : CmpOp) (b : CE) (d : CE) : tchK c o o' b d e .bad = .bad := (rfl)
@[simp] theorem t_chain (o o' : CmpOp) (a b d : CE) : evT c (.chain o o' a b d) e m = tchK c o o' b d e (evE c a e m) := (rfl)
@[simp] theorem t_and1 (a : CT) : evT c (.and (.cons a .nil)) e m = evT c a e m := (rfl)
@[simp] theorem t_or1 (a : CT) : evT c (.or (.cons a .nil)) e m = evT c a e m := (rfl)
def tandV (c : Cfg) (ts : CTs) (e : Env') (k : Bool) (m : M) : Res Bool := if k then evT c (.and ts) e m else .ok false m
@[simp] theorem tandV_t (ts : CTs) : tandV c ts e true m = evT c (.and ts) e m := (rfl)
@[simp] theorem tandV_f (ts : CTs) : tandV c ts e false m = .ok false m := (rfl)
def torV (c : Cfg) (ts : CTs) (e : Env') (k : Bool) (m : M) : Res Bool := if k then .ok true m else evT c (.or ts) e m
@[simp] theorem torV_t (ts : CTs) : torV c ts e true m = .ok true m := (rfl)
@[simp] theorem torV_f (ts : CTs) : torV c ts e false m = evT c (.or ts) e m := (rfl)
def tandK (c : Cfg) (ts : CTs) (e : Env') (r : Res Bool) : Res Bool := r.bind fun x m => tandV c ts e x m
@[simp] theorem tandK_ok (ts : CTs) (x : Bool) : tandK c ts e (.ok x m) = tandV c ts e x m := (rfl)
@[simp] theorem tandK_err (ts : CTs) (x : Nat) : tandK c ts e (.err x m) = .err x m := (rfl)
@[simp] theorem tandK_bad (ts : CTs) : tandK c ts e .bad = .bad := (rfl)
@[simp] theorem t_and2 (a b : CT) (ts : CTs) : evT c (.and (.cons a (.cons b ts))) e m = tandK c (.cons b ts) e (evT c a e m) := (rfl)
def torK (c : Cfg) (ts : CTs) (e : Env') (r : Res Bool) : Res Bool := r.bind fun x m => torV c ts e x m
@[simp] theorem torK_ok (ts : CTs) (x : Bool) : torK c ts e (.ok x m) = torV c ts e x m := (rfl)
@[simp] theorem torK_err (ts : CTs) (x : Nat) : torK c ts e (.err x m) = .err x m := (rfl)
@[simp] theorem torK_bad (ts : CTs) : torK c ts e .bad = .bad := (rfl)
@[simp] theorem t_or2 (a b : CT) (ts : CTs) : evT c (.or (.cons a (.cons b ts))) e m = torK c (.cons b ts) e (evT c a e m) := (rfl)
def tnotK  (r : Res Bool) : Res Bool := r.bind fun x m => .ok (!x) m
@[simp] theorem tnotK_ok  (x : Bool) : tnotK  (.ok x m) = .ok (!x) m := (rfl)
@[simp] theorem tnotK_err  (x : Nat) : tnotK  (.err x m) = .err x m := (rfl)
@[simp] theorem tnotK_bad  : tnotK  .bad = .bad := (rfl)
@[simp] theorem t_not (a : CT) : evT c (.not a) e m = tnotK (evT c a e m) := (rfl)
@[simp] theorem to_none : evTo c .none e m = .ok true m := (rfl)
@[simp] theorem to_some (t : CT) : evTo c (.some t) e m = evT c t e m := (rfl)
/-! ### statements -/
@[simp] theorem ss_nil : evSs c .nil e m = .nx e m := (rfl)
def sqK (c : Cfg) (ss : CSs) (r : SRes) : SRes := match r with
  | .nx e m => evSs c ss e m
  | r => r
@[simp] theorem sq_nx (ss : CSs) : sqK c ss (.nx e m) = evSs c ss e m := (rfl)
@[simp] theorem sq_ret (ss : CSs) (d : D) : sqK c ss (.ret d m) = .ret d m := (rfl)
@[simp] theorem sq_brk (ss : CSs) : sqK c ss (.brk e m) = .brk e m := (rfl)
@[simp] theorem sq_cnt (ss : CSs) : sqK c ss (.cnt e m) = .cnt e m := (rfl)
@[simp] theorem sq_err (ss : CSs) (x : Nat) : sqK c ss (.err x e m) = .err x e m := (rfl)
@[simp] theorem sq_bad (ss : CSs) : sqK c ss .bad = .bad := (rfl)
@[simp] theorem ss_cons (s : CS) (ss : CSs) : evSs c (.cons s ss) e m = sqK c ss (evS c s e m) := by
  show (match evS c s e m with | .nx e m => _ | r => r) = _
  cases evS c s e m <;> rfl
def exprK (e : Env') (r : Res D) : SRes := match r with
  | .ok x m => .nx e m
  | .err x m => .err x e m
  | .bad => .bad
@[simp] theorem exprK_ok  (x : D) : exprK e (.ok x m) = .nx e m := (rfl)
@[simp] theorem exprK_err  (x : Nat) : exprK e (.err x m) = .err x e m := (rfl)
@[simp] theorem exprK_bad  : exprK e .bad = .bad := (rfl)
@[simp] theorem v_expr (a : CE) : evS c (.expr a) e m = exprK e (evE c a e m) := by
  show Res.toS _ _ _ = _
  cases evE c a e m <;> rfl
def retK (e : Env') (r : Res D) : SRes := match r with
  | .ok x m => .ret x m
  | .err x m => .err x e m
  | .bad => .bad
@[simp] theorem retK_ok  (x : D) : retK e (.ok x m) = .ret x m := (rfl)
@[simp] theorem retK_err  (x : Nat) : retK e (.err x m) = .err x e m := (rfl)
@[simp] theorem retK_bad  : retK e .bad = .bad := (rfl)
@[simp] theorem v_ret (a : CE) : evS c (.ret a) e m = retK e (evE c a e m) := by
  show Res.toS _ _ _ = _
  cases evE c a e m <;> rfl
@[simp] theorem v_retN : evS c .retN e m = .ret .non m := (rfl)
def asgV (m : M) : Option Env' → SRes
    | some e' => .nx e' m
    | none => .bad
@[simp] theorem asgV_s : asgV m (some e) = .nx e m := (rfl)
def asgK (t : Tg) (e : Env') (r : Res D) : SRes := match r with
  | .ok x m => asgV m (assignTg t x e)
  | .err x m => .err x e m
  | .bad => .bad
@[simp] theorem asgK_ok (t : Tg) (x : D) : asgK t e (.ok x m) = asgV m (assignTg t x e) := (rfl)
@[simp] theorem asgK_err (t : Tg) (x : Nat) : asgK t e (.err x m) = .err x e m := (rfl)
@[simp] theorem asgK_bad (t : Tg) : asgK t e .bad = .bad := (rfl)
@[simp] theorem v_asg (t : Tg) (a : CE) : evS c (.asg t a) e m = asgK t e (evE c a e m) := by
  show Res.toS _ _ _ = _
  cases evE c a e m <;> rfl
def par2K2 (i : Nat) (j : Nat) (e : Env') (y : D) (r : Res D) : SRes := match r with
  | .ok x m => .nx ((e.set i (some y)).set j (some x)) m
  | .err x m => .err x e m
  | .bad => .bad
@[simp] theorem par2K2_ok (i : Nat) (j : Nat) (y : D) (x : D) : par2K2 i j e y (.ok x m) = .nx ((e.set i (some y)).set j (some x)) m := (rfl)
@[simp] theorem par2K2_err (i : Nat) (j : Nat) (y : D) (x : Nat) : par2K2 i j e y (.err x m) = .err x e m := (rfl)
@[simp] theorem par2K2_bad (i : Nat) (j : Nat) (y : D) : par2K2 i j e y .bad = .bad := (rfl)
def par2K (c : Cfg) (i : Nat) (j : Nat) (b : CE) (e : Env') (r : Res D) : SRes := match r with
  | .ok x m => par2K2 i j e x (evE c b e m)
  | .err x m => .err x e m
  | .bad => .bad
@[simp] theorem par2K_ok (i : Nat) (j : Nat) (b : CE) (x : D) : par2K c i j b e (.ok x m) = par2K2 i j e x (evE c b e m) := (rfl)
@[simp] theorem par2K_err (i : Nat) (j : Nat) (b : CE) (x : Nat) : par2K c i j b e (.err x m) = .err x e m := (rfl)
@[simp] theorem par2K_bad (i : Nat) (j : Nat) (b : CE) : par2K c i j b e .bad = .bad := (rfl)
@[simp] theorem v_par2 (i j : Nat) (a b : CE) : evS c (.par2 i j a b) e m = par2K c i j b e (evE c a e m) := by
  show Res.toS _ _ _ = _
  cases evE c a e m with
  | ok x m =>
    show Res.toS (evE c b e m) _ _ = par2K2 _ _ _ _ _
    cases evE c b e m <;> rfl
  | err x m => rfl
  | bad => rfl
def par3K3 (i : Nat) (j : Nat) (l : Nat) (e : Env') (y : D) (z : D) (r : Res D) : SRes := match r with
  | .ok x m => .nx (((e.set i (some y)).set j (some z)).set l (some x)) m
  | .err x m => .err x e m
  | .bad => .bad
@[simp] theorem par3K3_ok (i : Nat) (j : Nat) (l : Nat) (y : D) (z : D) (x : D) : par3K3 i j l e y z (.ok x m) = .nx (((e.set i (some y)).set j (some z)).set l (some x)) m := (rfl)
@[simp] theorem par3K3_err (i : Nat) (j : Nat) (l : Nat) (y : D) (z : D) (x : Nat) : par3K3 i j l e y z (.err x m) = .err x e m := (rfl)
@[simp] theorem par3K3_bad (i : Nat) (j : Nat) (l : Nat) (y : D) (z : D) : par3K3 i j l e y z .bad = .bad := (rfl)
def par3K2 (c : Cfg) (i : Nat) (j : Nat) (l : Nat) (d : CE) (e : Env') (y : D) (r : Res D) : SRes := match r with
  | .ok x m => par3K3 i j l e y x (evE c d e m)
  | .err x m => .err x e m
  | .bad => .bad
@[simp] theorem par3K2_ok (i : Nat) (j : Nat) (l : Nat) (d : CE) (y : D) (x : D) : par3K2 c i j l d e y (.ok x m) = par3K3 i j l e y x (evE c d e m) := (rfl)
@[simp] theorem par3K2_err (i : Nat) (j : Nat) (l : Nat) (d : CE) (y : D) (x : Nat) : par3K2 c i j l d e y (.err x m) = .err x e m := (rfl)
@[simp] theorem par3K2_bad (i : Nat) (j : Nat) (l : Nat) (d : CE) (y : D) : par3K2 c i j l d e y .bad = .bad := (rfl)
def par3K (c : Cfg) (i : Nat) (j : Nat) (l : Nat) (b : CE) (d : CE) (e : Env') (r : Res D) : SRes := match r with
  | .ok x m => par3K2 c i j l d e x (evE c b e m)
  | .err x m => .err x e m
  | .bad => .bad
@[simp] theorem par3K_ok (i : Nat) (j : Nat) (l : Nat) (b : CE) (d : CE) (x : D) : par3K c i j l b d e (.ok x m) = par3K2 c i j l d e x (evE c b e m) := (rfl)
@[simp] theorem par3K_err (i : Nat) (j : Nat) (l : Nat) (b : CE) (d : CE) (x : Nat) : par3K c i j l b d e (.err x m) = .err x e m := (rfl)
@[simp] theorem par3K_bad (i : Nat) (j : Nat) (l : Nat) (b : CE) (d : CE) : par3K c i j l b d e .bad = .bad := (rfl)
@[simp] theorem v_par3 (i j l : Nat) (a b d : CE) : evS c (.par3 i j l a b d) e m = par3K c i j l b d e (evE c a e m) := by
  show Res.toS _ _ _ = _
  cases evE c a e m with
  | ok x m =>
    show Res.toS (evE c b e m) _ _ = par3K2 _ _ _ _ _ _ _ _
    cases evE c b e m with
    | ok y m =>
      show Res.toS (evE c d e m) _ _ = par3K3 _ _ _ _ _ _ _
      cases evE c d e m <;> rfl
    | err x m => rfl
    | bad => rfl
  | err x m => rfl
  | bad => rfl
def setK3 (c : Cfg) (e : Env') (d : D) (o : D) (r : Res D) : SRes := match r with
  | .ok x m => storeI c m o x d e
  | .err x m => .err x e m
  | .bad => .bad
@[simp] theorem setK3_ok (d : D) (o : D) (x : D) : setK3 c e d o (.ok x m) = storeI c m o x d e := (rfl)
@[simp] theorem setK3_err (d : D) (o : D) (x : Nat) : setK3 c e d o (.err x m) = .err x e m := (rfl)
@[simp] theorem setK3_bad (d : D) (o : D) : setK3 c e d o .bad = .bad := (rfl)
def setK2 (c : Cfg) (i : CE) (e : Env') (d : D) (r : Res D) : SRes := match r with
  | .ok x m => setK3 c e d x (evE c i e m)
  | .err x m => .err x e m
  | .bad => .bad
@[simp] theorem setK2_ok (i : CE) (d : D) (x : D) : setK2 c i e d (.ok x m) = setK3 c e d x (evE c i e m) := (rfl)
@[simp] theorem setK2_err (i : CE) (d : D) (x : Nat) : setK2 c i e d (.err x m) = .err x e m := (rfl)
@[simp] theorem setK2_bad (i : CE) (d : D) : setK2 c i e d .bad = .bad := (rfl)
def setK (c : Cfg) (o : CE) (i : CE) (e : Env') (r : Res D) : SRes := match r with
  | .ok x m => setK2 c i e x (evE c o e m)
  | .err x m => .err x e m
  | .bad => .bad
@[simp] theorem setK_ok (o : CE) (i : CE) (x : D) : setK c o i e (.ok x m) = setK2 c i e x (evE c o e m) := (rfl)
@[simp] theorem setK_err (o : CE) (i : CE) (x : Nat) : setK c o i e (.err x m) = .err x e m := (rfl)
@[simp] theorem setK_bad (o : CE) (i : CE) : setK c o i e .bad = .bad := (rfl)
@[simp] theorem v_setI (o i a : CE) : evS c (.setI o i a) e m = setK c o i e (evE c a e m) := by
  show Res.toS _ _ _ = _
  cases evE c a e m with
  | ok x m =>
    show Res.toS (evE c o e m) _ _ = setK2 _ _ _ _ _
    cases evE c o e m with
    | ok y m =>
      show Res.toS (evE c i e m) _ _ = setK3 _ _ _ _ _
      cases evE c i e m <;> rfl
    | err x m => rfl
    | bad => rfl
  | err x m => rfl
  | bad => rfl
def appV (c : Cfg) (e : Env') (a : CE) (o : D) (m : M) : SRes := match o with
    | .ref r => (match m[r]? with
      | some (.lst _) => (evE c a e m).toS e fun d m => (match m[r]? with
        | some (.lst xs) => if lineOk xs.length then store c m r (xs ++ [d]) d e else .bad
        | _ => .bad)
      | _ => .bad)
    | _ => .bad
def extV (c : Cfg) (e : Env') (a : CE) (o : D) (m : M) : SRes := match o with
    | .ref r => (match m[r]? with
      | some (.lst _) => (evE c a e m).toS e fun d m => (match m[r]?, lstOf m d with
        | some (.lst xs), some ys => if lineOk (xs.length + ys.length) then store c m r (xs ++ ys) (.lst ys) e else .bad
        | _, _ => .bad)
      | _ => .bad)
    | _ => .bad
def appK (c : Cfg) (e : Env') (a : CE) (r : Res D) : SRes := match r with
  | .ok x m => appV c e a x m
  | .err x m => .err x e m
  | .bad => .bad
@[simp] theorem appK_ok (a : CE) (x : D) : appK c e a (.ok x m) = appV c e a x m := (rfl)
@[simp] theorem appK_err (a : CE) (x : Nat) : appK c e a (.err x m) = .err x e m := (rfl)
@[simp] theorem appK_bad (a : CE) : appK c e a .bad = .bad := (rfl)
@[simp] theorem v_app (o a : CE) : evS c (.app o a) e m = appK c e a (evE c o e m) := by
  show Res.toS _ _ _ = _
  cases evE c o e m <;> rfl
def extK (c : Cfg) (e : Env') (a : CE) (r : Res D) : SRes := match r with
  | .ok x m => extV c e a x m
  | .err x m => .err x e m
  | .bad => .bad
@[simp] theorem extK_ok (a : CE) (x : D) : extK c e a (.ok x m) = extV c e a x m := (rfl)
@[simp] theorem extK_err (a : CE) (x : Nat) : extK c e a (.err x m) = .err x e m := (rfl)
@[simp] theorem extK_bad (a : CE) : extK c e a .bad = .bad := (rfl)
@[simp] theorem v_ext (o a : CE) : evS c (.ext o a) e m = extK c e a (evE c o e m) := by
  show Res.toS _ _ _ = _
  cases evE c o e m <;> rfl
def condV (c : Cfg) (a b : CSs) (e : Env') (k : Bool) (m : M) : SRes := if k then evSs c a e m else evSs c b e m
@[simp] theorem condV_t (a b : CSs) : condV c a b e true m = evSs c a e m := (rfl)
@[simp] theorem condV_f (a b : CSs) : condV c a b e false m = evSs c b e m := (rfl)
theorem condV_b (a b : CSs) (k : Bool) : condV c a b e k m = if k then evSs c a e m else evSs c b e m := (rfl)
def condK (c : Cfg) (a : CSs) (b : CSs) (e : Env') (r : Res Bool) : SRes := match r with
  | .ok x m => condV c a b e x m
  | .err x m => .err x e m
  | .bad => .bad
@[simp] theorem condK_ok (a : CSs) (b : CSs) (x : Bool) : condK c a b e (.ok x m) = condV c a b e x m := (rfl)
@[simp] theorem condK_err (a : CSs) (b : CSs) (x : Nat) : condK c a b e (.err x m) = .err x e m := (rfl)
@[simp] theorem condK_bad (a : CSs) (b : CSs) : condK c a b e .bad = .bad := (rfl)
@[simp] theorem v_ife (t : CT) (a b : CSs) : evS c (.ife t a b) e m = condK c a b e (evT c t e m) := by
  show (match evT c t e m with | .ok k m => _ | .err x m => _ | .bad => _) = _
  cases evT c t e m <;> rfl
/-- a for's turn -/
def forF (c : Cfg) (tg : Tg) (body : CSs) (x : D) (e : Env') (m : M) : SRes := match assignTg tg x e with
      | some e' => evSs c body e' m
      | none => .bad
theorem v_for (tg : Tg) (it : CI) (body : CSs) (xs : List D) {m' : M} (h : evI c it e m = .ok (.seq xs) m') : evS c (.for_ tg it body) e m = forL (forF c tg body) xs e m' := by
  show (match evI c it e m with | .ok (.seq xs) m => _ | .ok (.rf r n) m => _ | .err x m => _ | .bad => _) = _
  rw [h]; rfl
theorem s_forR (tg : Tg) (it : CI) (body : CSs) (r n : Nat) {m' : M} (h : evI c it e m = .ok (.rf r n) m') : evS c (.for_ tg it body) e m = forR (forF c tg body) r n 0 e m' := by
  show (match evI c it e m with | .ok (.seq xs) m => _ | .ok (.rf r n) m => _ | .err x m => _ | .bad => _) = _
  rw [h]; rfl
theorem v_while (t : CT) (body : CSs) : evS c (.while_ t body) e m = whileN (evT c t) (evSs c body) whileMost e m := rfl
@[simp] theorem v_brk : evS c .brk e m = .brk e m := (rfl)
@[simp] theorem v_cnt : evS c .cnt e m = .cnt e m := (rfl)
@[simp] theorem v_pass : evS c .pass e m = .nx e m := (rfl)
@[simp] theorem v_raise (x : Nat) : evS c (.raise x) e m = .err x e m := (rfl)
def tryK (c : Cfg) (hs : CHs) (r : SRes) : SRes := match r with
    | .err x e m => if x < c.nc then evH c hs x e m else .bad
    | r => r
@[simp] theorem v_try (body : CSs) (hs : CHs) : evS c (.try_ body hs) e m = tryK c hs (evSs c body e m) := by
  show (match evSs c body e m with | .err x e m => _ | r => r) = _
  cases evSs c body e m <;> rfl
@[simp] theorem try_nx (hs : CHs) : tryK c hs (.nx e m) = .nx e m := (rfl)
@[simp] theorem try_ret (hs : CHs) (d : D) : tryK c hs (.ret d m) = .ret d m := (rfl)
@[simp] theorem try_err (hs : CHs) (x : Nat) : tryK c hs (.err x e m) = if x < c.nc then evH c hs x e m else .bad := (rfl)
def hAsgK (j : Nat) (e : Env') : Res D → SRes
      | .ok d m => .nx (e.set j (some d)) m
      | _ => .bad
def hRetK : Res D → SRes
      | .ok d m => .ret d m
      | _ => .bad
@[simp] theorem hAsg_ok (j : Nat) (d : D) : hAsgK j e (.ok d m) = .nx (e.set j (some d)) m := (rfl)
@[simp] theorem hRet_ok (d : D) : hRetK (.ok d m) = .ret d m := (rfl)
def hAct (c : Cfg) (e : Env') (m : M) : HAct → SRes
  | .asg j a => hAsgK j e (evE c a e m)
  | .ret a => hRetK (evE c a e m)
@[simp] theorem h_cons (y : Nat) (i : Option Nat) (a : HAct) (hs : CHs) (x : Nat) : evH c (.cons y i a hs) x e m = if x = y then hAct c (dropN e i) m a else evH c hs x e m := by
  cases a <;> rfl
@[simp] theorem h_nil (x : Nat) : evH c .nil x e m = .err x e m := (rfl)
@[simp] theorem hAct_a (j : Nat) (a : CE) : hAct c e m (.asg j a) = hAsgK j e (evE c a e m) := (rfl)
@[simp] theorem hAct_r (a : CE) : hAct c e m (.ret a) = hRetK (evE c a e m) := (rfl)
@[simp] theorem drop_s (i : Nat) : dropN e (some i) = e.set i none := (rfl)
@[simp] theorem drop_n : dropN e none = e := (rfl)
end Dx
/-! Ev, part 2: the operators on values, a call's end, loops and comprehensions. -/
namespace Dx
open PySem
theorem line_ {n : Nat} (h : n ≤ 1000000) : lineOk n = true := decide_eq_true h
@[simp] theorem line_dec (n : Nat) : lineOk n = decide (n ≤ 1000000) := (rfl)
section
variable (m : M)
@[simp] theorem tupV_ (ds : List D) (h : ds.length ≤ 1000000) : tupV ds m = .ok (.tup ds) m := if_pos (line_ h)
@[simp] theorem dispV_ (ds : List D) (h : ds.length ≤ 1000000) : dispV ds m = .ok ds m := if_pos (line_ h)
/-! ### what lies in a cell -/
def rdL : Option O → Option (List D)
  | some (.lst xs) => some xs
  | _ => none
@[simp] theorem rdL_s (xs : List D) : rdL (some (.lst xs)) = some xs := (rfl)
@[simp] theorem items_t (xs : List D) : itemsOf m (.tup xs) = some xs := (rfl)
@[simp] theorem items_l (xs : List D) : itemsOf m (.lst xs) = some xs := (rfl)
@[simp] theorem items_s (xs : List D) : itemsOf m (.scr xs) = some xs := (rfl)
@[simp] theorem items_r (r : Nat) : itemsOf m (.ref r) = rdL m[r]? := by
  show (match m[r]? with | some (.lst xs) => some xs | _ => none) = _
  unfold rdL; rfl
@[simp] theorem lst_l (xs : List D) : lstOf m (.lst xs) = some xs := (rfl)
@[simp] theorem lst_r (r : Nat) : lstOf m (.ref r) = rdL m[r]? := by
  show (match m[r]? with | some (.lst xs) => some xs | _ => none) = _
  unfold rdL; rfl
@[simp] theorem lstS_s (xs : List D) : lstOfS m (.scr xs) = some xs := (rfl)
@[simp] theorem lstS_l (xs : List D) : lstOfS m (.lst xs) = some xs := (rfl)
@[simp] theorem lstS_r (r : Nat) : lstOfS m (.ref r) = rdL m[r]? := lst_r m r
/-! ### operators -/
@[simp] theorem add_i (i j : Int) : evBin m .Add (.int i) (.int j) = some (.int (i + j)) := (rfl)
@[simp] theorem add_t (xs ys : List D) : evBin m .Add (.tup xs) (.tup ys) = if lineOk (xs.length + ys.length) then some (.tup (xs ++ ys)) else none := (rfl)
@[simp] theorem add_l (xs : List D) (b : D) : evBin m .Add (.lst xs) b = (evCatL m (.lst xs) b).map .lst := by cases b <;> rfl
@[simp] theorem add_r (r : Nat) (b : D) : evBin m .Add (.ref r) b = (evCatL m (.ref r) b).map .lst := by cases b <;> rfl
@[simp] theorem sub_i (i j : Int) : evBin m .Sub (.int i) (.int j) = some (.int (i - j)) := (rfl)
@[simp] theorem mul_i (i j : Int) : evBin m .Mult (.int i) (.int j) = if mulOk i j then some (.int (i * j)) else none := (rfl)
@[simp] theorem mul_t (xs : List D) (k : Int) : evBin m .Mult (.tup xs) (.int k) = if k = 1 then some (.tup xs) else if !xs.isEmpty && decide (2 ≤ k) && decide (k ≤ 1000) && decide (xs.length ≤ 1000) then some (.tup (List.replicate k.toNat xs).flatten) else none := (rfl)
@[simp] theorem mul_l' (xs : List D) (b : D) : evBin m .Mult (.lst xs) b = (evRepL m (.lst xs) b).map .lst := by cases b <;> rfl
@[simp] theorem fdiv_i (i j : Int) : evBin m .FloorDiv (.int i) (.int j) = if divOk j then some (.int (i / j)) else none := (rfl)
@[simp] theorem mod_i (i j : Int) : evBin m .Mod (.int i) (.int j) = if 0 < j then some (.int (i % j)) else none := (rfl)
@[simp] theorem pow_i (i j : Int) : evBin m .Pow (.int i) (.int j) = if powOk i j then some (.int (i ^ j.toNat)) else none := (rfl)
@[simp] theorem catL_ (a b : D) : evCatL m a b = (lstOf m a).bind fun xs => (lstOf m b).bind fun ys => if lineOk (xs.length + ys.length) then some (xs ++ ys) else none := (rfl)
@[simp] theorem repL_ (a : D) (k : Int) : evRepL m a (.int k) = (lstOf m a).bind fun xs => if decide (k ≤ 1000000) && lineOk (xs.length * k.toNat) && decide (-(2 ^ 63) ≤ k) then some (List.replicate k.toNat xs).flatten else none := (rfl)
@[simp] theorem lt_i (i j : Int) : evCmp .Lt (.int i) (.int j) = some (decide (i < j)) := (rfl)
@[simp] theorem le_i (i j : Int) : evCmp .LtE (.int i) (.int j) = some (decide (i ≤ j)) := (rfl)
@[simp] theorem gt_i (i j : Int) : evCmp .Gt (.int i) (.int j) = some (decide (j < i)) := (rfl)
@[simp] theorem ge_i (i j : Int) : evCmp .GtE (.int i) (.int j) = some (decide (j ≤ i)) := (rfl)
@[simp] theorem eq_v (a b : D) : evCmp .Eq a b = evEq a b := (rfl)
@[simp] theorem ne_v (a b : D) : evCmp .NotEq a b = (evEq a b).map (!·) := (rfl)
@[simp] theorem is_v (a : D) : evCmp .Is a .non = some (isNon a) := (rfl)
@[simp] theorem isnot_v (a : D) : evCmp .IsNot a .non = some (!isNon a) := (rfl)
@[simp] theorem in_v (a b : D) : evCmp .In a b = evIn a b := (rfl)
@[simp] theorem notin_v (a b : D) : evCmp .NotIn a b = (evIn a b).map (!·) := (rfl)
@[simp] theorem isNon_n : isNon .non = true := (rfl)
@[simp] theorem isNon_b (b : Bool) : isNon (.bl b) = false := (rfl)
@[simp] theorem isNon_i (b : Int) : isNon (.int b) = false := (rfl)
@[simp] theorem isNon_s (b : Str) : isNon (.str b) = false := (rfl)
@[simp] theorem isNon_t (b : List D) : isNon (.tup b) = false := (rfl)
@[simp] theorem isNon_l (b : List D) : isNon (.lst b) = false := (rfl)
@[simp] theorem isNon_r (b : Nat) : isNon (.ref b) = false := (rfl)
@[simp] theorem evEq_i (i j : Int) : evEq (.int i) (.int j) = some (decide (i = j)) := by
  show some (i == j) = _
  rw [beq_eq_decide_int]
where beq_eq_decide_int : (i == j) = decide (i = j) := by rw [Bool.eq_iff_iff]; simp
@[simp] theorem evEq_b (a b : Bool) : evEq (.bl a) (.bl b) = some (a == b) := (rfl)
theorem evEq_ (a b : D) (h : okD a 40 = true) (w : okD b 40 = true) : evEq a b = some (eqd a b) := by
  unfold evEq; rw [h, w]; rfl
theorem evIn_ (a : D) (ys : List D) (h : okD a 40 = true) (w : okD (.lst ys) 40 = true) : evIn a (.lst ys) = some (ys.any fun y => eqd y a) := by
  show (if _ then _ else _) = _
  rw [h, w]; rfl
@[simp] theorem okD_n (n : Nat) : okD .non n = true := by cases n <;> rfl
@[simp] theorem okD_b (b : Bool) (n : Nat) : okD (.bl b) n = true := by cases n <;> rfl
@[simp] theorem okD_i (b : Int) (n : Nat) : okD (.int b) n = true := by cases n <;> rfl
@[simp] theorem okD_s (b : Str) (n : Nat) : okD (.str b) n = PyData.strOk b := by cases n <;> rfl
@[simp] theorem okD_t (xs : List D) (n : Nat) : okD (.tup xs) (n + 1) = okDs xs n := (rfl)
@[simp] theorem okD_l (xs : List D) (n : Nat) : okD (.lst xs) (n + 1) = okDs xs n := (rfl)
@[simp] theorem okDs_n (n : Nat) : okDs [] n = true := (rfl)
@[simp] theorem okDs_c (d : D) (ds : List D) (n : Nat) : okDs (d :: ds) n = (okD d n && okDs ds n) := (rfl)
theorem okDs_iff : ∀ (ds : List D) (n : Nat), okDs ds n = true ↔ ∀ d ∈ ds, okD d n = true
  | [], n => by simp
  | d :: ds, n => by rw [okDs_c, Bool.and_eq_true, okDs_iff ds n]; simp
@[simp] theorem eqd_nn : eqd .non .non = true := (rfl)
@[simp] theorem eqd_ni (i : Int) : eqd .non (.int i) = false := (rfl)
@[simp] theorem eqd_in (i : Int) : eqd (.int i) .non = false := (rfl)
@[simp] theorem eqd_nt (i : List D) : eqd .non (.tup i) = false := (rfl)
@[simp] theorem eqd_tn (i : List D) : eqd (.tup i) .non = false := (rfl)
@[simp] theorem eqd_bb (a b : Bool) : eqd (.bl a) (.bl b) = (a == b) := (rfl)
@[simp] theorem eqd_ii (a b : Int) : eqd (.int a) (.int b) = decide (a = b) := by
  show (a == b) = _
  rw [Bool.eq_iff_iff]; simp
@[simp] theorem eqd_ss (a b : Str) : eqd (.str a) (.str b) = (a == b) := (rfl)
@[simp] theorem eqd_tt (a b : List D) : eqd (.tup a) (.tup b) = eqds a b := (rfl)
@[simp] theorem eqd_ll (a b : List D) : eqd (.lst a) (.lst b) = eqds a b := (rfl)
@[simp] theorem eqd_tl (a b : List D) : eqd (.tup a) (.lst b) = false := (rfl)
@[simp] theorem eqd_lt (a b : List D) : eqd (.lst a) (.tup b) = false := (rfl)
@[simp] theorem eqd_it (a : Int) (b : List D) : eqd (.int a) (.tup b) = false := (rfl)
@[simp] theorem eqd_ti (a : Int) (b : List D) : eqd (.tup b) (.int a) = false := (rfl)
@[simp] theorem eqd_st (a : Str) (b : List D) : eqd (.str a) (.tup b) = false := (rfl)
@[simp] theorem eqd_ts (a : Str) (b : List D) : eqd (.tup b) (.str a) = false := (rfl)
@[simp] theorem eqd_sn (a : Str) : eqd (.str a) .non = false := (rfl)
@[simp] theorem eqd_ns (a : Str) : eqd .non (.str a) = false := (rfl)
@[simp] theorem eqds_nn : eqds [] [] = true := (rfl)
@[simp] theorem eqds_nc (x : D) (xs : List D) : eqds [] (x :: xs) = false := (rfl)
@[simp] theorem eqds_cn (x : D) (xs : List D) : eqds (x :: xs) [] = false := (rfl)
@[simp] theorem eqds_cc (x y : D) (xs ys : List D) : eqds (x :: xs) (y :: ys) = (eqd x y && eqds xs ys) := (rfl)
@[simp] theorem idx_0 (a : D) : evIdx m a (.int 0) = (itemsOf m a).bind fun xs => xs[0]? := by
  show ((itemsOf m a).bind fun xs => (ixD xs.length 0).bind fun j => xs[j]?) = _
  cases itemsOf m a with
  | none => rfl
  | some xs => cases xs <;> simp [ixD]
theorem idx_nat (a : D) (i : Nat) : evIdx m a (.int i) = (itemsOf m a).bind fun xs => xs[i]? := by
  show ((itemsOf m a).bind fun xs => (ixD xs.length i).bind fun j => xs[j]?) = _
  cases itemsOf m a with
  | none => rfl
  | some xs =>
    unfold ixD
    show (if (0 : Int) ≤ i then _ else _ : Option Nat).bind _ = _
    rw [if_pos (by omega)]
    by_cases h : (i : Int) < (xs.length : Int)
    · rw [if_pos h]; simp
    · rw [if_neg h]
      show none = xs[i]?
      rw [List.getElem?_eq_none (by omega)]
@[simp] theorem idx_1 (a : D) : evIdx m a (.int 1) = (itemsOf m a).bind fun xs => xs[1]? := idx_nat m a 1
@[simp] theorem idx_2 (a : D) : evIdx m a (.int 2) = (itemsOf m a).bind fun xs => xs[2]? := idx_nat m a 2
@[simp] theorem idx_3 (a : D) : evIdx m a (.int 3) = (itemsOf m a).bind fun xs => xs[3]? := idx_nat m a 3
@[simp] theorem idx_4 (a : D) : evIdx m a (.int 4) = (itemsOf m a).bind fun xs => xs[4]? := idx_nat m a 4
@[simp] theorem idx_n1 (a : D) : evIdx m a (.int (-1)) = (itemsOf m a).bind fun xs => xs.getLast? := by
  show ((itemsOf m a).bind fun xs => (ixD xs.length (-1)).bind fun j => xs[j]?) = _
  cases itemsOf m a with
  | none => rfl
  | some xs =>
    cases xs with
    | nil => rfl
    | cons x xs =>
      show (ixD (xs.length + 1) (-1)).bind _ = (x :: xs).getLast?
      unfold ixD
      rw [if_neg (by omega), if_pos (by omega)]
      rw [List.getLast?_eq_getElem?]
      show (x :: xs)[_]? = (x :: xs)[_]?
      congr 1
      show ((-1 : Int) + ((xs.length + 1 : Nat) : Int)).toNat = xs.length + 1 - 1
      omega
@[simp] theorem slc_t (xs : List D) (lo hi : Option Int) : evSlc m (.tup xs) lo hi = some (.tup (cutD xs lo hi)) := (rfl)
@[simp] theorem slc_l (xs : List D) (lo hi : Option Int) : evSlc m (.lst xs) lo hi = some (.lst (cutD xs lo hi)) := (rfl)
@[simp] theorem slc_s (xs : List D) (lo hi : Option Int) : evSlc m (.scr xs) lo hi = some (.lst (cutD xs lo hi)) := (rfl)
@[simp] theorem slc_r (r : Nat) (lo hi : Option Int) : evSlc m (.ref r) lo hi = (rdL m[r]?).map fun xs => .lst (cutD xs lo hi) := by
  show (lstOfS m (.ref r)).map _ = _
  rw [lstS_r]
/-! ### built-ins -/
@[simp] theorem blt_len (a : D) : evBlt m .len [a] = (itemsOf m a).map fun xs => .int xs.length := (rfl)
@[simp] theorem blt_abs (i : Int) : evBlt m .abs [.int i] = some (.int (i.natAbs : Int)) := by
  show some (D.int (if i < 0 then -i else i)) = _
  congr 2; split <;> omega
@[simp] theorem blt_int (i : Int) : evBlt m .toInt [.int i] = some (.int i) := (rfl)
@[simp] theorem blt_intb (b : Bool) : evBlt m .toInt [.bl b] = some (.int (if b then 1 else 0)) := (rfl)
@[simp] theorem blt_all (a : D) : evBlt m .all [a] = (lstOf m a).bind fun xs => (allBl xs).map fun bs => .bl (bs.all id) := (rfl)
@[simp] theorem blt_any (a : D) : evBlt m .any [a] = (lstOf m a).bind fun xs => (allBl xs).map fun bs => .bl (bs.any id) := (rfl)
@[simp] theorem blt_sum (a : D) : evBlt m .sum [a] = (lstOf m a).bind fun xs => (allInt xs).map fun ns => .int ns.sum := (rfl)
@[simp] theorem blt_tup (a : D) : evBlt m .toTuple [a] = (itemsOf m a).map .tup := (rfl)
@[simp] theorem blt_max (i j : Int) : evBlt m .max2 [.int i, .int j] = some (.int (max i j)) := by
  show some (D.int (if j > i then j else i)) = _
  congr 2; split <;> omega
@[simp] theorem blt_min (i j : Int) : evBlt m .min2 [.int i, .int j] = some (.int (min i j)) := by
  show some (D.int (if j < i then j else i)) = _
  congr 2; split <;> omega
@[simp] theorem allBl_n : allBl [] = some [] := (rfl)
@[simp] theorem allBl_c (b : Bool) (r : List D) : allBl (.bl b :: r) = (allBl r).map (b :: ·) := (rfl)
@[simp] theorem all_tt {α : Type} (xs : List α) : (xs.all fun _ => true) = true := by induction xs <;> simp
theorem zip_W {α β : Type} (f : α → D) (g : β → D) (xs : List α) (ys : List β) : List.zipWith (fun p q => D.tup [f p, g q]) xs ys = (xs.zip ys).map fun p => .tup [f p.1, g p.2] := by
  induction xs generalizing ys with
  | nil => rfl
  | cons x xs ih => cases ys with
    | nil => rfl
    | cons y ys => simp [ih]
theorem allBl_map {α : Type} (f : α → Bool) : ∀ xs : List α, allBl (xs.map fun x => .bl (f x)) = some (xs.map f)
  | [] => rfl
  | x :: xs => by show (allBl _).map _ = _; rw [allBl_map f xs]; rfl
@[simp] theorem allInt_n : allInt [] = some [] := (rfl)
@[simp] theorem allInt_c (b : Int) (r : List D) : allInt (.int b :: r) = (allInt r).map (b :: ·) := (rfl)
theorem allInt_map {α : Type} (f : α → Int) : ∀ xs : List α, allInt (xs.map fun x => .int (f x)) = some (xs.map f)
  | [] => rfl
  | x :: xs => by show (allInt _).map _ = _; rw [allInt_map f xs]; rfl
@[simp] theorem tru_n : evTru m .non = some false := (rfl)
@[simp] theorem tru_b (b : Bool) : evTru m (.bl b) = some b := (rfl)
@[simp] theorem tru_i (i : Int) : evTru m (.int i) = some (i != 0) := (rfl)
@[simp] theorem tru_t (xs : List D) : evTru m (.tup xs) = some (!xs.isEmpty) := (rfl)
@[simp] theorem tru_l (xs : List D) : evTru m (.lst xs) = some (!xs.isEmpty) := (rfl)
@[simp] theorem tru_r (r : Nat) : evTru m (.ref r) = (rdL m[r]?).map fun xs => !xs.isEmpty := by
  show (match m[r]? with | some (.lst xs) => _ | _ => _) = _
  rcases m[r]? with _ | o
  · rfl
  · cases o <;> rfl
@[simp] theorem isI_n (ts : List Ty) : evIsI m .non ts = some false := (rfl)
@[simp] theorem isI_b (b : Bool) (ts : List Ty) : evIsI m (.bl b) ts = some (isTy .tBool ts) := (rfl)
@[simp] theorem isI_i (b : Int) (ts : List Ty) : evIsI m (.int b) ts = some (isTy .tInt ts) := (rfl)
@[simp] theorem isI_s (b : Str) (ts : List Ty) : evIsI m (.str b) ts = some (isTy .tStr ts) := (rfl)
@[simp] theorem isI_t (b : List D) (ts : List Ty) : evIsI m (.tup b) ts = some (isTy .tTuple ts) := (rfl)
@[simp] theorem isI_l (b : List D) (ts : List Ty) : evIsI m (.lst b) ts = some (isTy .tList ts) := (rfl)
@[simp] theorem isI_r (r : Nat) (ts : List Ty) : evIsI m (.ref r) ts = (rdL m[r]?).map fun _ => isTy .tList ts := by
  show (match m[r]? with | some (.lst xs) => some Ty.tList | _ => none).map _ = _
  rcases m[r]? with _ | o
  · rfl
  · cases o <;> rfl
@[simp] theorem isTy_n (t : Ty) : isTy t [] = false := (rfl)
@[simp] theorem isTy_c (t u : Ty) (us : List Ty) : isTy t (u :: us) = ((decide (u = t) || (decide (u = .tInt) && decide (t = .tBool))) || isTy t us) := (rfl)
/-! ### cells written -/
theorem store_ (c : Cfg) (r : Nat) (xs : List D) (d : D) (e : Env') (h : c.base ≤ r ∨ nrD d = true) : store c m r xs d e = .nx e (m.set r (.lst xs)) := by
  unfold store
  rw [if_pos (by rcases h with h | h <;> simp [h])]
theorem app_ (c : Cfg) (e : Env') (a : CE) (r : Nat) (xs : List D) (d : D) (h1 : m[r]? = some (.lst xs)) (ha : evE c a e m = .ok d m) (hl : xs.length ≤ 1000000) (h : c.base ≤ r ∨ nrD d = true) :
    appV c e a (.ref r) m = .nx e (m.set r (.lst (xs ++ [d]))) := by
  show (match m[r]? with | some (.lst _) => _ | _ => _) = _
  rw [h1]
  show (evE c a e m).toS e _ = _
  rw [ha]
  show (match m[r]? with | some (.lst xs) => _ | _ => _) = _
  rw [h1]
  show (if _ then _ else _) = _
  rw [if_pos (line_ hl)]
  exact store_ m c r _ d e h
theorem ext_ (c : Cfg) (e : Env') (a : CE) (r : Nat) (xs ys : List D) (h1 : m[r]? = some (.lst xs)) (ha : evE c a e m = .ok (.lst ys) m) (hl : xs.length + ys.length ≤ 1000000) (h : c.base ≤ r ∨ nrDs ys = true) :
    extV c e a (.ref r) m = .nx e (m.set r (.lst (xs ++ ys))) := by
  show (match m[r]? with | some (.lst _) => _ | _ => _) = _
  rw [h1]
  show (evE c a e m).toS e _ = _
  rw [ha]
  show (match m[r]?, lstOf m (.lst ys) with | some (.lst xs), some ys => _ | _, _ => _) = _
  rw [h1]
  show (if _ then _ else _) = _
  rw [if_pos (line_ hl)]
  exact store_ m c r _ (.lst ys) e h
theorem setI_ (c : Cfg) (e : Env') (r : Nat) (xs : List D) (j : Nat) (d : D) (h1 : m[r]? = some (.lst xs)) (hj : j < xs.length) (h : c.base ≤ r ∨ nrD d = true) :
    storeI c m (.ref r) (.int j) d e = .nx e (m.set r (.lst (xs.set j d))) := by
  show (match m[r]? with | some (.lst xs) => _ | _ => _) = _
  rw [h1]
  show (match ixD xs.length j with | some j => _ | none => _) = _
  have : ixD xs.length (j : Int) = some j := by
    unfold ixD
    rw [if_pos (by omega), if_pos (by omega)]; simp
  rw [this]
  exact store_ m c r _ d e h
end
/-! ### a call's end -/
def endC (rm : Bool) (n : Nat) : SRes → Res D
  | .ret v m' => finish rm n v m'
  | .nx _ m' => finish rm n .non m'
  | .err x _ m' => .err x (m'.take n)
  | _ => .bad
@[simp] theorem endC_ret (rm : Bool) (n : Nat) (v : D) (m : M) : endC rm n (.ret v m) = finish rm n v m := (rfl)
@[simp] theorem endC_nx (rm : Bool) (n : Nat) (e : Env') (m : M) : endC rm n (.nx e m) = finish rm n .non m := (rfl)
@[simp] theorem endC_err (rm : Bool) (n x : Nat) (e : Env') (m : M) : endC rm n (.err x e m) = .err x (m.take n) := (rfl)
@[simp] theorem fin_same (m : M) (v : D) : Dx.finish false m.length v m = .ok v m := by
  unfold Dx.finish
  rw [if_neg (by decide)]
  show (if m.length ≤ m.length then _ else _) = _
  rw [if_pos (Nat.le_refl _)]
mutual
/-- plain data: it names no object at all -/
def pure? : D → Bool
  | .ref _ => false
  | .scr _ => false
  | .tup xs => pures? xs
  | .lst xs => pures? xs
  | _ => true
def pures? : List D → Bool
  | [] => true
  | d :: ds => pure? d && pures? ds
end
theorem pures_iff : ∀ ds : List D, pures? ds = true ↔ ∀ d ∈ ds, pure? d = true
  | [] => by simp [pures?]
  | d :: ds => by
    show (pure? d && pures? ds) = true ↔ _
    rw [Bool.and_eq_true, pures_iff ds]; simp
mutual
theorem map_pure (f : Nat → Option D) : ∀ d : D, pure? d = true → mapRef f d = some d
  | .non, _ | .bl _, _ | .int _, _ | .str _, _ | .fn _, _ => rfl
  | .tup xs, h => by
    show (mapRefs f xs).map D.tup = _
    rw [map_pures f xs h]; rfl
  | .lst xs, h => by
    show (mapRefs f xs).map D.lst = _
    rw [map_pures f xs h]; rfl
  | .ref _, h => by cases h
  | .scr _, h => by cases h
theorem map_pures (f : Nat → Option D) : ∀ ds : List D, pures? ds = true → mapRefs f ds = some ds
  | [], _ => rfl
  | d :: ds, h => by
    have h : (pure? d && pures? ds) = true := h
    rw [Bool.and_eq_true] at h
    show ((mapRef f d).bind fun e => (mapRefs f ds).map fun es => e :: es) = _
    rw [map_pure f d h.1, map_pures f ds h.2]; rfl
end
theorem fz_pure (m : M) (n k : Nat) (d : D) (h : pure? d = true) : fz m n k d = some d := by
  cases k <;> exact map_pure _ d h
mutual
theorem nr_pure : ∀ d : D, pure? d = true → nrD d = true
  | .non, _ | .bl _, _ | .int _, _ | .str _, _ | .fn _, _ => rfl
  | .tup xs, h => nr_pures xs h
  | .lst xs, h => nr_pures xs h
  | .ref _, h => by cases h
  | .scr _, h => by cases h
theorem nr_pures : ∀ ds : List D, pures? ds = true → nrDs ds = true
  | [], _ => rfl
  | d :: ds, h => by
    have h : (pure? d && pures? ds) = true := h
    rw [Bool.and_eq_true] at h
    show (nrD d && nrDs ds) = true
    rw [nr_pure d h.1, nr_pures ds h.2]; rfl
end
theorem own_pure (n : Nat) (m : M) (d : D) (h : pure? d = true) : ownTop n m d = none := by
  cases d <;> first | rfl | (cases h)
theorem fin_pure (rm : Bool) (n : Nat) (m : M) (d : D) (h : pure? d = true) : Dx.finish rm n d m = .ok d (m.take n) := by
  unfold Dx.finish
  rw [own_pure n m d h, ite_self]
  show (if m.length ≤ n then _ else _) = _
  by_cases hl : m.length ≤ n
  · rw [if_pos hl, List.take_of_length_le hl]
  · rw [if_neg hl, fz_pure m n 4 d h]
theorem fin_own (n r : Nat) (m : M) (xs : List D) (hr : n ≤ r) (hx : m[r]? = some (.lst xs)) (h : pures? xs = true) : Dx.finish false n (.ref r) m = .ok (.lst xs) (m.take n) := by
  unfold Dx.finish
  rw [if_neg (by decide)]
  have hl : r < m.length := by
    rcases Nat.lt_or_ge r m.length with h | h
    · exact h
    · rw [List.getElem?_eq_none h] at hx; cases hx
  show (if m.length ≤ n then _ else _) = _
  rw [if_neg (by omega)]
  have : fz m n 4 (.ref r) = some (.lst xs) := by
    show (if r < n then _ else _) = _
    rw [if_neg (by omega), hx]
    show (mapRefs _ xs).map D.lst = _
    rw [map_pures _ xs h]; rfl
  rw [this]
theorem fin_rm (n r : Nat) (m : M) (xs : List D) (hr : n ≤ r) (hx : m[r]? = some (.lst xs)) (h : nrDs xs = true) : Dx.finish true n (.ref r) m = .ok (.ref n) (m.take n ++ [.lst xs]) := by
  unfold Dx.finish
  rw [if_pos rfl]
  have : ownTop n m (.ref r) = some xs := by
    show (if n ≤ r then _ else _) = _
    rw [if_pos hr, hx]
  rw [this]
  show (if nrDs xs = true then _ else _) = _
  rw [if_pos h]
@[simp] theorem fin_int (rm : Bool) (n : Nat) (m : M) (i : Int) : Dx.finish rm n (.int i) m = .ok (.int i) (m.take n) := fin_pure rm n m _ rfl
@[simp] theorem fin_bl (rm : Bool) (n : Nat) (m : M) (i : Bool) : Dx.finish rm n (.bl i) m = .ok (.bl i) (m.take n) := fin_pure rm n m _ rfl
@[simp] theorem fin_non (rm : Bool) (n : Nat) (m : M) : Dx.finish rm n .non m = .ok .non (m.take n) := fin_pure rm n m _ rfl
/-! ### loops -/
theorem s_for' {c : Cfg} {e : Env'} {m : M} {tg : Tg} {it : CI} {body : CSs} (xs : List D) {m' : M} (h : evI c it e m = .ok (.seq xs) m') : evS c (.for_ tg it body) e m = forL (forF c tg body) xs e m' := v_for c e m tg it body xs h
theorem forL_state {α σ : Type} {step : D → Env' → M → SRes} (E : σ → Env') (mm : σ → M) (f : σ → α → σ) (enc : α → D) (Inv : Nat → σ → Prop) :
    ∀ (xs : List α) (n : Nat) (s : σ), Inv n s → (∀ i x s, n ≤ i → i < n + xs.length → x ∈ xs → Inv i s → step (enc x) (E s) (mm s) = .nx (E (f s x)) (mm (f s x)) ∧ Inv (i + 1) (f s x)) →
      forL step (xs.map enc) (E s) (mm s) = .nx (E (xs.foldl f s)) (mm (xs.foldl f s)) ∧ Inv (n + xs.length) (xs.foldl f s)
  | [], n, s, h0, _ => ⟨rfl, h0⟩
  | x :: xs, n, s, h0, hs => by
    obtain ⟨a, b⟩ := hs n x s (Nat.le_refl _) (by rw [List.length_cons]; omega) List.mem_cons_self h0
    have ih := forL_state E mm f enc Inv xs (n + 1) (f s x) b (fun i y s h1 h2 h3 h4 => hs i y s (by omega) (by rw [List.length_cons]; omega) (List.mem_cons_of_mem _ h3) h4)
    refine ⟨?_, by rw [List.length_cons, List.foldl_cons, show n + (xs.length + 1) = n + 1 + xs.length by omega]; exact ih.2⟩
    show (match step (enc x) (E s) (mm s) with | .nx e m => _ | .cnt e m => _ | .brk e m => _ | r => r) = _
    rw [a]
    exact ih.1
/-- a loop that may end the def early: the items up to the first that ends it -/
theorem forL_inv {step : D → Env' → M → SRes} {P : Env' → M → Prop} {Q : D → Prop} (h : ∀ x e m, Q x → P e m → ∃ e' m', step x e m = .nx e' m' ∧ P e' m') :
    ∀ (xs : List D) (e : Env') (m : M), (∀ x ∈ xs, Q x) → P e m → ∃ e' m', forL step xs e m = .nx e' m' ∧ P e' m'
  | [], e, m, _, p => ⟨e, m, rfl, p⟩
  | x :: xs, e, m, hq, p => by
    obtain ⟨e1, m1, q1, p1⟩ := h x e m (hq x List.mem_cons_self) p
    obtain ⟨e2, m2, q2, p2⟩ := forL_inv h xs e1 m1 (fun y hy => hq y (List.mem_cons_of_mem _ hy)) p1
    refine ⟨e2, m2, ?_, p2⟩
    unfold forL
    rw [q1]
    exact q2
/-- a search: the first item that p takes ends the def -/
theorem forL_find {α : Type} {step : D → Env' → M → SRes} {P : Env' → Prop} {m : M} (enc : α → D) (p : α → Bool) (r : α → SRes) (hr : ∀ x, (∀ e m, r x ≠ .nx e m) ∧ (∀ e m, r x ≠ .cnt e m) ∧ ∀ e m, r x ≠ .brk e m) :
    ∀ (xs : List α) (e : Env'), P e → (∀ x ∈ xs, ∀ e, P e → if p x then step (enc x) e m = r x else ∃ e', step (enc x) e m = .nx e' m ∧ P e') →
      (match xs.find? p with
        | some x => forL step (xs.map enc) e m = r x
        | none => ∃ e', forL step (xs.map enc) e m = .nx e' m ∧ P e')
  | [], e, h, _ => ⟨e, rfl, h⟩
  | x :: xs, e, h, hs => by
    have h1 := hs x List.mem_cons_self e h
    by_cases hp : p x = true
    · rw [if_pos hp] at h1
      rw [List.find?_cons_of_pos hp]
      show forL step (enc x :: xs.map enc) e m = r x
      unfold forL
      rw [h1]
      obtain ⟨a, b, c⟩ := hr x
      cases hq : r x with
      | nx e m => exact absurd hq (a e m)
      | cnt e m => exact absurd hq (b e m)
      | brk e m => exact absurd hq (c e m)
      | _ => rfl
    · rw [if_neg hp] at h1
      obtain ⟨e1, q1, p1⟩ := h1
      have ih := forL_find enc p r hr xs e1 p1 (fun y hy => hs y (List.mem_cons_of_mem _ hy))
      rw [List.find?_cons_of_neg hp]
      have key : forL step ((x :: xs).map enc) e m = forL step (xs.map enc) e1 m := by
        show forL step (enc x :: xs.map enc) e m = _
        conv => lhs; unfold forL
        rw [q1]
      rw [key]
      exact ih
/-! ### comprehensions -/
theorem compL_enc {α : Type} {f : D → M → Res (Option D)} {m : M} (enc q : α → D) : ∀ (xs : List α), (∀ x ∈ xs, f (enc x) m = .ok (some (q x)) m) → compL f (xs.map enc) m = .ok (xs.map q) m
  | [], _ => rfl
  | x :: xs, h => by
    show ((f (enc x) m).noErr.bind fun o m => (compL f (xs.map enc) m).bind fun r m => .ok (consO o r) m) = _
    rw [h x List.mem_cons_self]
    show ((compL f (xs.map enc) m).bind fun r m => Res.ok (consO (some (q x)) r) m) = _
    rw [compL_enc enc q xs fun y hy => h y (List.mem_cons_of_mem _ hy)]
    rfl
theorem compL_flt {α : Type} {f : D → M → Res (Option D)} {m : M} (enc q : α → D) (p : α → Bool) : ∀ (xs : List α), (∀ x ∈ xs, f (enc x) m = .ok (if p x then some (q x) else none) m) → compL f (xs.map enc) m = .ok ((xs.filter p).map q) m
  | [], _ => rfl
  | x :: xs, h => by
    show ((f (enc x) m).noErr.bind fun o m => (compL f (xs.map enc) m).bind fun r m => .ok (consO o r) m) = _
    rw [h x List.mem_cons_self]
    show ((compL f (xs.map enc) m).bind fun r m => Res.ok (consO (if p x then some (q x) else none) r) m) = _
    rw [compL_flt enc q p xs fun y hy => h y (List.mem_cons_of_mem _ hy)]
    by_cases hp : p x = true <;> simp [hp, consO]
/-- a comprehension's turn without a condition -/
theorem compF_ {c : Cfg} {e e' : Env'} {m : M} {elt : CE} {tg : Tg} {own : List Nat} {x d : D} (ht : assignTg tg x (wipeE e own) = some e') (h : evE c elt e' m = .ok d m) : compF c elt tg .none own e x m = .ok (some d) m := by
  unfold compF
  rw [ht]
  show ((Res.ok true m).bind _) = _
  simp [h]
theorem compF_c {c : Cfg} {e e' : Env'} {m : M} {elt : CE} {t : CT} {tg : Tg} {own : List Nat} {x d : D} {b : Bool} (ht : assignTg tg x (wipeE e own) = some e') (hb : evT c t e' m = .ok b m) (h : b = true → evE c elt e' m = .ok d m) : compF c elt tg (.some t) own e x m = .ok (if b then some d else none) m := by
  unfold compF
  rw [ht]
  show ((evT c t e' m).bind _) = _
  rw [hb]
  cases b with
  | true => simp [h rfl]
  | false => simp
theorem comp_enc {α : Type} {c : Cfg} {e : Env'} {m : M} {elt : CE} {tg : Tg} {it : CI} {own : List Nat} (xs : List α) (enc q : α → D) (hi : evI c it e m = .ok (.seq (xs.map enc)) m) (hl : xs.length ≤ 1000000)
    (h : ∀ x ∈ xs, ∃ e', assignTg tg (enc x) (wipeE e own) = some e' ∧ evE c elt e' m = .ok (q x) m) : evL c (.comp elt tg it .none own) e m = .ok (xs.map q) m := by
  rw [l_comp c e m elt tg it .none own _ hi (line_ (by rw [List.length_map]; exact hl))]
  exact compL_enc enc q xs fun x hx => by
    obtain ⟨e', h1, h2⟩ := h x hx
    exact compF_ h1 h2
theorem comp_flt {α : Type} {c : Cfg} {e : Env'} {m : M} {elt : CE} {t : CT} {tg : Tg} {it : CI} {own : List Nat} (xs : List α) (enc q : α → D) (p : α → Bool) (hi : evI c it e m = .ok (.seq (xs.map enc)) m) (hl : xs.length ≤ 1000000)
    (h : ∀ x ∈ xs, ∃ e', assignTg tg (enc x) (wipeE e own) = some e' ∧ evT c t e' m = .ok (p x) m ∧ (p x = true → evE c elt e' m = .ok (q x) m)) : evL c (.comp elt tg it (.some t) own) e m = .ok ((xs.filter p).map q) m := by
  rw [l_comp c e m elt tg it (.some t) own _ hi (line_ (by rw [List.length_map]; exact hl))]
  exact compL_flt enc q p xs fun x hx => by
    obtain ⟨e', h1, h2, h3⟩ := h x hx
    exact compF_c h1 h2 h3
end Dx
namespace Dx
open PySem
/-! ### comprehensions and loops that draw -/
theorem compL_draw {α : Type} {f : D → M → Res (Option D)} (enc : α → D) (R : α → Prop) (P : Nat → M → Prop) :
    ∀ (xs : List D) (n : Nat) (m : M), P n m → (∀ i x m, n ≤ i → i < n + xs.length → x ∈ xs → P i m → ∃ y m', f x m = .ok (some (enc y)) m' ∧ R y ∧ P (i + 1) m') →
      ∃ (ys : List α) (m' : M), compL f xs m = .ok (ys.map enc) m' ∧ ys.length = xs.length ∧ (∀ y ∈ ys, R y) ∧ P (n + xs.length) m'
  | [], n, m, h, _ => ⟨[], m, rfl, rfl, (by intro y hy; cases hy), h⟩
  | x :: xs, n, m, h, hs => by
    obtain ⟨y, m1, q1, r1, p1⟩ := hs n x m (Nat.le_refl _) (by rw [List.length_cons]; omega) List.mem_cons_self h
    obtain ⟨ys, m2, q2, l2, r2, p2⟩ := compL_draw enc R P xs (n + 1) m1 p1 (fun i z m h1 h2 h3 h4 => hs i z m (by omega) (by rw [List.length_cons]; omega) (List.mem_cons_of_mem _ h3) h4)
    refine ⟨y :: ys, m2, ?_, by simp [l2], ?_, by rw [List.length_cons, show n + (xs.length + 1) = n + 1 + xs.length by omega]; exact p2⟩
    · show ((f x m).noErr.bind fun o m => (compL f xs m).bind fun r m => .ok (consO o r) m) = _
      rw [q1]
      show ((compL f xs m1).bind fun r m => Res.ok (consO (some (enc y)) r) m) = _
      rw [q2]; rfl
    · intro z hz
      rcases List.mem_cons.mp hz with e | e
      · rw [e]; exact r1
      · exact r2 z e
theorem comp_draw {α : Type} {c : Cfg} {e : Env'} {m m0 : M} {elt : CE} {tg : Tg} {it : CI} {own : List Nat} (enc : α → D) (R : α → Prop) (P : Nat → M → Prop) (xs : List D) (n : Nat) (hi : evI c it e m0 = .ok (.seq xs) m) (hl : xs.length ≤ 1000000) (h0 : P n m)
    (h : ∀ i x m, n ≤ i → i < n + xs.length → x ∈ xs → P i m → ∃ e' y m', assignTg tg x (wipeE e own) = some e' ∧ evE c elt e' m = .ok (enc y) m' ∧ R y ∧ P (i + 1) m') :
    ∃ (ys : List α) (m' : M), evL c (.comp elt tg it .none own) e m0 = .ok (ys.map enc) m' ∧ ys.length = xs.length ∧ (∀ y ∈ ys, R y) ∧ P (n + xs.length) m' := by
  rw [l_comp c e m0 elt tg it .none own _ hi (line_ hl)]
  refine compL_draw enc R P xs n m h0 fun i x m h1 h2 h3 h4 => ?_
  obtain ⟨e', y, m', a1, a2, a3, a4⟩ := h i x m h1 h2 h3 h4
  refine ⟨y, m', ?_, a3, a4⟩
  unfold compF
  rw [a1]
  show ((Res.ok true m).bind _) = _
  simp [a2]
/-- a loop that draws: what stands in the frame is told by a letter -/
theorem forL_draw {σ : Type} {step : D → Env' → M → SRes} (E : σ → Env') (P : Nat → σ → M → Prop) :
    ∀ (xs : List D) (n : Nat) (s : σ) (m : M), P n s m → (∀ i x s m, n ≤ i → i < n + xs.length → x ∈ xs → P i s m → ∃ s' m', step x (E s) m = .nx (E s') m' ∧ P (i + 1) s' m') →
      ∃ s' m', forL step xs (E s) m = .nx (E s') m' ∧ P (n + xs.length) s' m'
  | [], n, s, m, h, _ => ⟨s, m, rfl, h⟩
  | x :: xs, n, s, m, h, hs => by
    obtain ⟨s1, m1, q1, p1⟩ := hs n x s m (Nat.le_refl _) (by rw [List.length_cons]; omega) List.mem_cons_self h
    obtain ⟨s2, m2, q2, p2⟩ := forL_draw E P xs (n + 1) s1 m1 p1 (fun i z s m h1 h2 h3 h4 => hs i z s m (by omega) (by rw [List.length_cons]; omega) (List.mem_cons_of_mem _ h3) h4)
    refine ⟨s2, m2, ?_, by rw [List.length_cons, show n + (xs.length + 1) = n + 1 + xs.length by omega]; exact p2⟩
    show (match step x (E s) m with | .nx e m => _ | .cnt e m => _ | .brk e m => _ | r => r) = _
    rw [q1]
    exact q2
end Dx
namespace Dx
open PySem
theorem getE_r {m : M} {r : Nat} {xs : List D} (h : m[r]? = some (.lst xs)) (n : Nat) (step : D → Env' → M → SRes) (k : Nat) (e : Env') : forR step r (n + 1) k e m = (match xs[k]? with
      | none => .nx e m
      | some x => match step x e m with
        | .nx e m => forR step r n (k + 1) e m
        | .cnt e m => forR step r n (k + 1) e m
        | .brk e m => .nx e m
        | r => r) := by
  show (match m[r]? with | some (.lst xs) => _ | _ => _) = _
  rw [h]
  try rfl
/-- a loop over a list that its body leaves alone -/
theorem forR_state {α σ : Type} {step : D → Env' → M → SRes} (E : σ → Env') (mm : σ → M) (f : σ → α → σ) (enc : α → D) (Inv : Nat → σ → Prop) (r : Nat) (ys : List α) (hr : ∀ i s, Inv i s → (mm s)[r]? = some (.lst (ys.map enc))) :
    ∀ (xs : List α) (n : Nat) (s : σ), ys.drop n = xs → Inv n s → (∀ i x s, n ≤ i → i < n + xs.length → x ∈ xs → Inv i s → step (enc x) (E s) (mm s) = .nx (E (f s x)) (mm (f s x)) ∧ Inv (i + 1) (f s x)) →
      forR step r xs.length n (E s) (mm s) = .nx (E (xs.foldl f s)) (mm (xs.foldl f s)) ∧ Inv (n + xs.length) (xs.foldl f s)
  | [], n, s, hd, h0, _ => by
    refine ⟨?_, h0⟩
    show (match (mm s)[r]? with | some (.lst xs) => _ | _ => _) = _
    rw [hr n s h0]
    have : (ys.map enc).length ≤ n := by rw [List.length_map]; exact List.drop_eq_nil_iff.mp hd
    show (if (ys.map enc).length ≤ n then _ else _) = _
    rw [if_pos this]; rfl
  | x :: xs, n, s, hd, h0, hs => by
    obtain ⟨a, b⟩ := hs n x s (Nat.le_refl _) (by rw [List.length_cons]; omega) List.mem_cons_self h0
    have hn : n < ys.length := by
      rcases Nat.lt_or_ge n ys.length with h | h
      · exact h
      · rw [List.drop_eq_nil_of_le h] at hd; cases hd
    have hx : ys[n]? = some x := by
      rw [List.drop_eq_getElem_cons hn] at hd
      rw [List.getElem?_eq_getElem hn]; congr 1; exact (List.cons.inj hd).1
    have hd' : ys.drop (n + 1) = xs := by
      rw [List.drop_eq_getElem_cons hn] at hd
      exact (List.cons.inj hd).2
    have ih := forR_state E mm f enc Inv r ys hr xs (n + 1) (f s x) hd' b (fun i y s h1 h2 h3 h4 => hs i y s (by omega) (by rw [List.length_cons]; omega) (List.mem_cons_of_mem _ h3) h4)
    refine ⟨?_, by rw [List.length_cons, List.foldl_cons, show n + (xs.length + 1) = n + 1 + xs.length by omega]; exact ih.2⟩
    rw [List.length_cons, getE_r (hr n s h0), List.getElem?_map, hx]
    show (match step (enc x) (E s) (mm s) with | .nx e m => _ | .cnt e m => _ | .brk e m => _ | r => r) = _
    rw [a]
    exact ih.1
end Dx
namespace Dx
open PySem
/-! ### loops in a context -/
theorem forL_C {C : SRes → Prop} {step : D → Env' → M → SRes} (P : Nat → Env' → M → Prop) {xs : List D} {e : Env'} {m : M} (h0 : P 0 e m)
    (hs : ∀ i x e m, xs[i]? = some x → P i e m → ∃ e' m', step x e m = .nx e' m' ∧ P (i + 1) e' m') (hd : ∀ e' m', P xs.length e' m' → C (.nx e' m')) : C (forL step xs e m) := by
  have key : ∀ (ys : List D) (n : Nat) (e : Env') (m : M), n ≤ xs.length → xs.drop n = ys → P n e m → ∃ e' m', forL step ys e m = .nx e' m' ∧ P xs.length e' m' := by
    intro ys
    induction ys with
    | nil =>
      intro n e m hle hy hp
      have hl : xs.length ≤ n := List.drop_eq_nil_iff.mp hy
      have : n = xs.length := by omega
      subst this
      exact ⟨e, m, rfl, hp⟩
    | cons y ys ih =>
      intro n e m _ hy hp
      have hn : n < xs.length := by
        rcases Nat.lt_or_ge n xs.length with h | h
        · exact h
        · rw [List.drop_eq_nil_of_le h] at hy; cases hy
      rw [List.drop_eq_getElem_cons hn] at hy
      obtain ⟨e1, e2⟩ := List.cons.inj hy
      obtain ⟨e', m', a, b⟩ := hs n y e m (by rw [List.getElem?_eq_getElem hn, e1]) hp
      obtain ⟨e'', m'', a2, b2⟩ := ih (n + 1) e' m' (by omega) e2 b
      refine ⟨e'', m'', ?_, b2⟩
      show (match step y e m with | .nx e m => _ | .cnt e m => _ | .brk e m => _ | r => r) = _
      rw [a]; exact a2
  obtain ⟨e', m', a, b⟩ := key xs 0 e m (Nat.zero_le _) rfl h0
  rw [a]
  exact hd e' m' b
theorem forR_C {C : SRes → Prop} {step : D → Env' → M → SRes} (P : Nat → Env' → M → Prop) {r : Nat} {xs : List D} {n : Nat} (hn : n = xs.length) {e : Env'} {m : M} (h0 : P 0 e m) (hr : ∀ i e m, P i e m → m[r]? = some (.lst xs))
    (hs : ∀ i x e m, xs[i]? = some x → P i e m → ∃ e' m', step x e m = .nx e' m' ∧ P (i + 1) e' m') (hd : ∀ e' m', P xs.length e' m' → C (.nx e' m')) : C (forR step r n 0 e m) := by
  subst hn
  have key : ∀ (ys : List D) (n : Nat) (e : Env') (m : M), n ≤ xs.length → xs.drop n = ys → P n e m → ∃ e' m', forR step r ys.length n e m = .nx e' m' ∧ P xs.length e' m' := by
    intro ys
    induction ys with
    | nil =>
      intro n e m hle hy hp
      have hl : xs.length ≤ n := List.drop_eq_nil_iff.mp hy
      have : n = xs.length := by omega
      subst this
      refine ⟨e, m, ?_, hp⟩
      show (match m[r]? with | some (.lst xs) => _ | _ => _) = _
      rw [hr _ e m hp]
      show (if xs.length ≤ xs.length then _ else _) = _
      rw [if_pos (Nat.le_refl _)]
    | cons y ys ih =>
      intro n e m _ hy hp
      have hn : n < xs.length := by
        rcases Nat.lt_or_ge n xs.length with h | h
        · exact h
        · rw [List.drop_eq_nil_of_le h] at hy; cases hy
      rw [List.drop_eq_getElem_cons hn] at hy
      obtain ⟨e1, e2⟩ := List.cons.inj hy
      have hx : xs[n]? = some y := by rw [List.getElem?_eq_getElem hn, e1]
      obtain ⟨e', m', a, b⟩ := hs n y e m hx hp
      obtain ⟨e'', m'', a2, b2⟩ := ih (n + 1) e' m' (by omega) e2 b
      refine ⟨e'', m'', ?_, b2⟩
      rw [List.length_cons, getE_r (hr n e m hp), hx]
      show (match step y e m with | .nx e m => _ | .cnt e m => _ | .brk e m => _ | r => r) = _
      rw [a]; exact a2
  obtain ⟨e', m', a, b⟩ := key xs 0 e m (Nat.zero_le _) rfl h0
  rw [a]
  exact hd e' m' b
theorem get_last (b : M) (o : O) : (b ++ [o])[b.length]? = some o := by simp
theorem set_last (b : M) (o o' : O) : (b ++ [o]).set b.length o' = b ++ [o'] := by simp
end Dx
namespace Dx
open PySem
/-- a comprehension that lays a new list for each item -/
theorem compL_alloc {α : Type} {f : D → M → Res (Option D)} (enc : α → D) (h : α → List D) : ∀ (xs : List α) (m : M), (∀ x ∈ xs, ∀ m', f (enc x) m' = .ok (some (.ref m'.length)) (m' ++ [.lst (h x)])) →
    compL f (xs.map enc) m = .ok ((List.range xs.length).map fun i => .ref (m.length + i)) (m ++ xs.map fun x => .lst (h x))
  | [], m, _ => by simp [compL]
  | x :: xs, m, hf => by
    show ((f (enc x) m).noErr.bind fun o m => (compL f (xs.map enc) m).bind fun r m => .ok (consO o r) m) = _
    rw [hf x List.mem_cons_self m]
    show ((compL f (xs.map enc) (m ++ [.lst (h x)])).bind fun r m' => Res.ok (consO (some (D.ref m.length)) r) m') = _
    rw [compL_alloc enc h xs _ fun y hy => hf y (List.mem_cons_of_mem _ hy)]
    show Res.ok (D.ref m.length :: _) _ = _
    rw [List.length_cons, List.range_succ_eq_map]
    simp [Nat.add_assoc, Nat.add_comm 1]
theorem comp_alloc {α : Type} {c : Cfg} {e : Env'} {m : M} {elt : CE} {tg : Tg} {it : CI} {own : List Nat} (xs : List α) (enc : α → D) (h : α → List D) (hi : evI c it e m = .ok (.seq (xs.map enc)) m) (hl : xs.length ≤ 1000000)
    (hf : ∀ x ∈ xs, ∃ e', assignTg tg (enc x) (wipeE e own) = some e' ∧ ∀ m', evE c elt e' m' = .ok (.ref m'.length) (m' ++ [.lst (h x)])) :
    evL c (.comp elt tg it .none own) e m = .ok ((List.range xs.length).map fun i => .ref (m.length + i)) (m ++ xs.map fun x => .lst (h x)) := by
  rw [l_comp c e m elt tg it .none own _ hi (line_ (by rw [List.length_map]; exact hl))]
  exact compL_alloc enc h xs m fun x hx m' => by
    obtain ⟨e', h1, h2⟩ := hf x hx
    unfold compF
    rw [h1]
    show ((Res.ok true m').bind _) = _
    simp [h2]
end Dx
namespace Dx
open PySem
theorem setI' (m : M) (c : Cfg) (e : Env') (r : Nat) (xs : List D) (j : Int) (d : D) (h1 : m[r]? = some (.lst xs)) (h0 : 0 ≤ j) (hj : j.toNat < xs.length) (h : c.base ≤ r ∨ nrD d = true) :
    storeI c m (.ref r) (.int j) d e = .nx e (m.set r (.lst (xs.set j.toNat d))) := by
  obtain ⟨i, rfl⟩ : ∃ i : Nat, j = i := ⟨j.toNat, by omega⟩
  exact setI_ m c e r xs i d h1 (by simpa using hj) h
theorem idx_int (m : M) (a : D) (i : Int) (h : 0 ≤ i) : evIdx m a (.int i) = (itemsOf m a).bind fun xs => xs[i.toNat]? := by
  obtain ⟨j, rfl⟩ : ∃ j : Nat, i = j := ⟨i.toNat, by omega⟩
  rw [idx_nat]; simp
end Dx
namespace Dx
open PySem
theorem forL_one {step : D → Env' → M → SRes} {x : D} {xs : List D} {e e' : Env'} {m m' : M} (h : step x e m = .nx e' m') : forL step (x :: xs) e m = forL step xs e' m' := by
  conv => lhs; unfold forL
  rw [h]
theorem forL_nil (step : D → Env' → M → SRes) (e : Env') (m : M) : forL step [] e m = .nx e m := (rfl)
theorem forL_ret {step : D → Env' → M → SRes} {x : D} {xs : List D} {e : Env'} {m m' : M} {d : D} (h : step x e m = .ret d m') : forL step (x :: xs) e m = .ret d m' := by
  conv => lhs; unfold forL
  rw [h]
end Dx
namespace Dx
open PySem
theorem app' (m m' : M) (c : Cfg) (e : Env') (a : CE) (r : Nat) (ys xs : List D) (d : D) (h1 : m[r]? = some (.lst ys)) (ha : evE c a e m = .ok d m') (h2 : m'[r]? = some (.lst xs)) (hl : xs.length ≤ 1000000) (h : c.base ≤ r ∨ nrD d = true) :
    appV c e a (.ref r) m = .nx e (m'.set r (.lst (xs ++ [d]))) := by
  show (match m[r]? with | some (.lst _) => _ | _ => _) = _
  rw [h1]
  show (evE c a e m).toS e _ = _
  rw [ha]
  show (match m'[r]? with | some (.lst xs) => _ | _ => _) = _
  rw [h2]
  show (if _ then _ else _) = _
  rw [if_pos (line_ hl)]
  exact store_ m' c r _ d e h
end Dx
namespace Dx
open PySem
theorem fz_own (m : M) (n k r : Nat) (xs : List D) (hr : n ≤ r) (hx : m[r]? = some (.lst xs)) (hp : pures? xs = true) : fz m n (k + 1) (.ref r) = some (.lst xs) := by
  show (if r < n then _ else _) = _
  rw [if_neg (by omega), hx]
  show (mapRefs _ xs).map D.lst = _
  rw [map_pures _ xs hp]; rfl
theorem fzs_two (m : M) (r : Nat) (xs : List D) (d : D) (hx : m[r]? = some (.lst xs)) (hp : pures? xs = true) (hd : pure? d = true) : fzs m [.ref r, d] = some [.lst xs, d] := by
  simp [fzs, fz_own m 0 3 r xs (Nat.zero_le _) hx hp, fz_pure m 0 4 d hd]
end Dx
/-! the text of k03_whole_windows, as data -/
namespace K3
open PySem PySem.Spec PyProof.Rows L2 Dx
def top (i : Nat) : Stmt := PySem.Challenge.pw_wholenear_k03_whole_windows.main.body.getD i (.Pass ⟨0, 0, 0, 0⟩)
/-- is_number -/
def c0 : CDef := { np := 1, ns := 1, body := .cons (.ret (.andV (.cons (.isI (.var 0) [.tInt]) (.cons (.notV (.isI (.var 0) [.tBool])) .nil)))) .nil, rm := false }
def i0 : DI := ⟨c0, ["thing"], ["thing"], ⟨("is_number", none), "is_number", "is_number", defArgs (top 4), defBody (top 4), defScope (top 4), [], []⟩⟩
/-- is_from -/
def c1 : CDef := { np := 2, ns := 2, body := .cons (.ret (.andV (.cons (.call 0 (.cons (.var 0) .nil)) (.cons (.cmp .GtE (.var 0) (.var 1)) .nil)))) .nil, rm := false }
def i1 : DI := ⟨c1, ["thing", "least"], ["thing", "least"], ⟨("is_from", none), "is_from", "is_from", defArgs (top 5), defBody (top 5), defScope (top 5), [], []⟩⟩
/-- is_long -/
def c2 : CDef := { np := 2, ns := 2, body := .cons (.ret (.andV (.cons (.isI (.var 0) [.tTuple]) (.cons (.cmp .Eq (.blt .len (.cons (.var 0) .nil)) (.var 1)) .nil)))) .nil, rm := false }
def i2 : DI := ⟨c2, ["thing", "length"], ["thing", "length"], ⟨("is_long", none), "is_long", "is_long", defArgs (top 6), defBody (top 6), defScope (top 6), [], []⟩⟩
/-- are_numbers -/
def c3 : CDef := { np := 1, ns := 2, body := .cons (.ret (.andV (.cons (.isI (.var 0) [.tTuple]) (.cons (.blt .all (.cons (.lv (.comp (.call 0 (.cons (.var 1) .nil)) (.name 1) (.seq (.var 0)) (.none) [1])) .nil)) .nil)))) .nil, rm := false }
def i3 : DI := ⟨c3, ["thing", "own"], ["thing"], ⟨("are_numbers", none), "are_numbers", "are_numbers", defArgs (top 7), defBody (top 7), defScope (top 7), [], []⟩⟩
/-- tupled -/
def c4 : CDef := { np := 1, ns := 2, body := .cons (.ret (.ife (.tru (.isI (.var 0) [.tList, .tTuple])) (.blt .toTuple (.cons (.lv (.comp (.call 4 (.cons (.var 1) .nil)) (.name 1) (.seq (.var 0)) (.none) [1])) .nil)) (.var 0))) .nil, rm := false }
def i4 : DI := ⟨c4, ["value", "own"], ["value"], ⟨("tupled", none), "tupled", "tupled", defArgs (top 8), defBody (top 8), defScope (top 8), [], []⟩⟩
/-- common_divisor -/
def c5 : CDef := { np := 2, ns := 2, body := .cons (.par2 0 1 (.blt .abs (.cons (.var 0) .nil)) (.blt .abs (.cons (.var 1) .nil))) (.cons (.while_ (.cmp .Gt (.var 1) (.int 0)) (.cons (.par2 0 1 (.var 1) (.bin .Mod (.var 0) (.var 1))) .nil)) (.cons (.ret (.var 0)) .nil)), rm := false }
def i5 : DI := ⟨c5, ["one", "other"], ["one", "other"], ⟨("common_divisor", none), "common_divisor", "common_divisor", defArgs (top 9), defBody (top 9), defScope (top 9), [], []⟩⟩
/-- is_fraction_in -/
def c6 : CDef := { np := 1, ns := 1, body := .cons (.ife (.or (.cons (.not (.tru (.call 2 (.cons (.var 0) (.cons (.int 2) .nil))))) (.cons (.not (.tru (.call 0 (.cons (.idx (.var 0) (.int 0)) .nil)))) (.cons (.not (.tru (.call 0 (.cons (.idx (.var 0) (.int 1)) .nil)))) .nil)))) (.cons (.ret (.bl false)) .nil) (.nil)) (.cons (.ret (.andV (.cons (.cmp .GtE (.idx (.var 0) (.int 1)) (.int 1)) (.cons (.cmp .Eq (.call 5 (.cons (.idx (.var 0) (.int 0)) (.cons (.idx (.var 0) (.int 1)) .nil))) (.int 1)) .nil)))) .nil), rm := false }
def i6 : DI := ⟨c6, ["thing"], ["thing"], ⟨("is_fraction_in", none), "is_fraction_in", "is_fraction_in", defArgs (top 12), defBody (top 12), defScope (top 12), [], []⟩⟩
/-- sure_fraction -/
def c7 : CDef := { np := 1, ns := 2, body := .cons (.asg (.name 1) (.call 4 (.cons (.var 0) .nil))) (.cons (.ife (.not (.tru (.call 6 (.cons (.var 1) .nil)))) (.cons (.raise 1) .nil) (.nil)) (.cons (.ret (.var 1)) .nil)), rm := false }
def i7 : DI := ⟨c7, ["fraction", "own"], ["fraction"], ⟨("sure_fraction", none), "sure_fraction", "sure_fraction", defArgs (top 13), defBody (top 13), defScope (top 13), [], []⟩⟩
/-- reduced -/
def c8 : CDef := { np := 2, ns := 4, body := .cons (.asg (.name 2) (.ife (.cmp .Gt (.var 1) (.int 0)) (.int 1) (.neg (.int 1)))) (.cons (.asg (.name 3) (.call 5 (.cons (.var 0) (.cons (.var 1) .nil)))) (.cons (.ret (.tup (.cons (.bin .FloorDiv (.bin .Mult (.var 2) (.var 0)) (.var 3)) (.cons (.bin .FloorDiv (.bin .Mult (.var 2) (.var 1)) (.var 3)) .nil)))) .nil)), rm := false }
def i8 : DI := ⟨c8, ["upper", "lower", "sign", "both"], ["upper", "lower"], ⟨("reduced", none), "reduced", "reduced", defArgs (top 14), defBody (top 14), defScope (top 14), [], []⟩⟩
/-- plus -/
def c9 : CDef := { np := 2, ns := 2, body := .cons (.ret (.call 8 (.cons (.bin .Add (.bin .Mult (.idx (.var 0) (.int 0)) (.idx (.var 1) (.int 1))) (.bin .Mult (.idx (.var 1) (.int 0)) (.idx (.var 0) (.int 1)))) (.cons (.bin .Mult (.idx (.var 0) (.int 1)) (.idx (.var 1) (.int 1))) .nil)))) .nil, rm := false }
def i9 : DI := ⟨c9, ["one", "other"], ["one", "other"], ⟨("plus", none), "plus", "plus", defArgs (top 15), defBody (top 15), defScope (top 15), [], []⟩⟩
/-- less -/
def c10 : CDef := { np := 2, ns := 2, body := .cons (.ret (.call 8 (.cons (.bin .Sub (.bin .Mult (.idx (.var 0) (.int 0)) (.idx (.var 1) (.int 1))) (.bin .Mult (.idx (.var 1) (.int 0)) (.idx (.var 0) (.int 1)))) (.cons (.bin .Mult (.idx (.var 0) (.int 1)) (.idx (.var 1) (.int 1))) .nil)))) .nil, rm := false }
def i10 : DI := ⟨c10, ["one", "other"], ["one", "other"], ⟨("less", none), "less", "less", defArgs (top 16), defBody (top 16), defScope (top 16), [], []⟩⟩
/-- contrary -/
def c11 : CDef := { np := 1, ns := 1, body := .cons (.ret (.tup (.cons (.bin .Sub (.int 0) (.idx (.var 0) (.int 0))) (.cons (.idx (.var 0) (.int 1)) .nil)))) .nil, rm := false }
def i11 : DI := ⟨c11, ["one"], ["one"], ⟨("contrary", none), "contrary", "contrary", defArgs (top 17), defBody (top 17), defScope (top 17), [], []⟩⟩
/-- size -/
def c12 : CDef := { np := 1, ns := 1, body := .cons (.ret (.tup (.cons (.blt .abs (.cons (.idx (.var 0) (.int 0)) .nil)) (.cons (.idx (.var 0) (.int 1)) .nil)))) .nil, rm := false }
def i12 : DI := ⟨c12, ["one"], ["one"], ⟨("size", none), "size", "size", defArgs (top 18), defBody (top 18), defScope (top 18), [], []⟩⟩
/-- is_at_most -/
def c13 : CDef := { np := 2, ns := 2, body := .cons (.ret (.cmp .LtE (.bin .Mult (.idx (.var 0) (.int 0)) (.idx (.var 1) (.int 1))) (.bin .Mult (.idx (.var 1) (.int 0)) (.idx (.var 0) (.int 1))))) .nil, rm := false }
def i13 : DI := ⟨c13, ["one", "other"], ["one", "other"], ⟨("is_at_most", none), "is_at_most", "is_at_most", defArgs (top 19), defBody (top 19), defScope (top 19), [], []⟩⟩
/-- floor_in -/
def c14 : CDef := { np := 1, ns := 1, body := .cons (.ret (.bin .FloorDiv (.idx (.var 0) (.int 0)) (.idx (.var 0) (.int 1)))) .nil, rm := false }
def i14 : DI := ⟨c14, ["one"], ["one"], ⟨("floor_in", none), "floor_in", "floor_in", defArgs (top 20), defBody (top 20), defScope (top 20), [], []⟩⟩
/-- ceiling_in -/
def c15 : CDef := { np := 1, ns := 1, body := .cons (.ret (.bin .Sub (.int 0) (.bin .FloorDiv (.bin .Sub (.int 0) (.idx (.var 0) (.int 0))) (.idx (.var 0) (.int 1))))) .nil, rm := false }
def i15 : DI := ⟨c15, ["one"], ["one"], ⟨("ceiling_in", none), "ceiling_in", "ceiling_in", defArgs (top 21), defBody (top 21), defScope (top 21), [], []⟩⟩
/-- greatest_of -/
def c16 : CDef := { np := 1, ns := 3, body := .cons (.asg (.name 1) (.idx (.var 0) (.int 0))) (.cons (.for_ (.name 2) (.seq (.var 0)) (.cons (.asg (.name 1) (.ife (.tru (.call 13 (.cons (.var 1) (.cons (.var 2) .nil)))) (.var 2) (.var 1))) .nil)) (.cons (.ret (.var 1)) .nil)), rm := false }
def i16 : DI := ⟨c16, ["fractions", "found", "own"], ["fractions"], ⟨("greatest_of", none), "greatest_of", "greatest_of", defArgs (top 22), defBody (top 22), defScope (top 22), [], []⟩⟩
/-- sum_in -/
def c17 : CDef := { np := 1, ns := 3, body := .cons (.asg (.name 1) (.glob 0)) (.cons (.for_ (.name 2) (.seq (.var 0)) (.cons (.asg (.name 1) (.call 9 (.cons (.var 1) (.cons (.var 2) .nil)))) .nil)) (.cons (.ret (.var 1)) .nil)), rm := false }
def i17 : DI := ⟨c17, ["fractions", "found", "own"], ["fractions"], ⟨("sum_in", none), "sum_in", "sum_in", defArgs (top 23), defBody (top 23), defScope (top 23), [], []⟩⟩
/-- is_table_in -/
def c18 : CDef := { np := 1, ns := 3, body := .cons (.ife (.or (.cons (.not (.tru (.isI (.var 0) [.tTuple]))) (.cons (.cmp .Eq (.var 0) (.tup (.nil))) .nil))) (.cons (.ret (.bl false)) .nil) (.nil)) (.cons (.ife (.not (.tru (.blt .all (.cons (.lv (.comp (.call 2 (.cons (.var 1) (.cons (.blt .len (.cons (.var 0) .nil)) .nil))) (.name 1) (.seq (.var 0)) (.none) [1])) .nil)))) (.cons (.ret (.bl false)) .nil) (.nil)) (.cons (.ret (.blt .all (.cons (.lv (.comp (.blt .all (.cons (.lv (.comp (.call 6 (.cons (.var 2) .nil)) (.name 2) (.seq (.var 1)) (.none) [2])) .nil)) (.name 1) (.seq (.var 0)) (.none) [1])) .nil))) .nil)), rm := false }
def i18 : DI := ⟨c18, ["thing", "row", "own"], ["thing"], ⟨("is_table_in", none), "is_table_in", "is_table_in", defArgs (top 25), defBody (top 25), defScope (top 25), [], []⟩⟩
/-- sure_table -/
def c19 : CDef := { np := 1, ns := 2, body := .cons (.asg (.name 1) (.call 4 (.cons (.var 0) .nil))) (.cons (.ife (.not (.tru (.call 18 (.cons (.var 1) .nil)))) (.cons (.raise 1) .nil) (.nil)) (.cons (.ret (.var 1)) .nil)), rm := false }
def i19 : DI := ⟨c19, ["table", "own"], ["table"], ⟨("sure_table", none), "sure_table", "sure_table", defArgs (top 26), defBody (top 26), defScope (top 26), [], []⟩⟩
/-- is_row_in -/
def c20 : CDef := { np := 2, ns := 2, body := .cons (.ret (.andV (.cons (.call 2 (.cons (.var 1) (.cons (.var 0) .nil))) (.cons (.call 3 (.cons (.var 1) .nil)) .nil)))) .nil, rm := false }
def i20 : DI := ⟨c20, ["many", "thing"], ["many", "thing"], ⟨("is_row_in", none), "is_row_in", "is_row_in", defArgs (top 27), defBody (top 27), defScope (top 27), [], []⟩⟩
/-- sure_row -/
def c21 : CDef := { np := 2, ns := 3, body := .cons (.asg (.name 2) (.call 4 (.cons (.var 1) .nil))) (.cons (.ife (.not (.tru (.call 20 (.cons (.var 0) (.cons (.var 2) .nil))))) (.cons (.raise 1) .nil) (.nil)) (.cons (.ret (.var 2)) .nil)), rm := false }
def i21 : DI := ⟨c21, ["many", "row", "own"], ["many", "row"], ⟨("sure_row", none), "sure_row", "sure_row", defArgs (top 28), defBody (top 28), defScope (top 28), [], []⟩⟩
/-- image_in -/
def c22 : CDef := { np := 2, ns := 5, body := .cons (.ret (.blt .toTuple (.cons (.lv (.comp (.call 17 (.cons (.lv (.comp (.call 8 (.cons (.bin .Mult (.idx (.var 3) (.int 0)) (.var 4)) (.cons (.idx (.var 3) (.int 1)) .nil))) (.tup [.name 3, .name 4]) (.zip (.var 2) (.var 1)) (.none) [3, 4])) .nil)) (.name 2) (.seq (.var 0)) (.none) [2])) .nil))) .nil, rm := false }
def i22 : DI := ⟨c22, ["table", "row", "line", "own", "number"], ["table", "row"], ⟨("image_in", none), "image_in", "image_in", defArgs (top 29), defBody (top 29), defScope (top 29), [], []⟩⟩
/-- is_window_in -/
def c23 : CDef := { np := 1, ns := 4, body := .cons (.ife (.or (.cons (.not (.tru (.isI (.var 0) [.tTuple]))) (.cons (.cmp .Eq (.var 0) (.tup (.nil))) (.cons (.not (.tru (.blt .all (.cons (.lv (.comp (.call 2 (.cons (.var 3) (.cons (.int 2) .nil))) (.name 3) (.seq (.var 0)) (.none) [3])) .nil)))) .nil)))) (.cons (.ret (.bl false)) .nil) (.nil)) (.cons (.for_ (.tup [.name 1, .name 2]) (.seq (.var 0)) (.cons (.ife (.or (.cons (.not (.tru (.call 6 (.cons (.var 1) .nil)))) (.cons (.not (.tru (.call 6 (.cons (.var 2) .nil)))) (.cons (.not (.tru (.call 13 (.cons (.var 1) (.cons (.var 2) .nil))))) .nil)))) (.cons (.ret (.bl false)) .nil) (.nil)) .nil)) (.cons (.ret (.bl true)) .nil)), rm := false }
def i23 : DI := ⟨c23, ["thing", "low", "high", "own"], ["thing"], ⟨("is_window_in", none), "is_window_in", "is_window_in", defArgs (top 32), defBody (top 32), defScope (top 32), [], []⟩⟩
/-- sure_window -/
def c24 : CDef := { np := 2, ns := 3, body := .cons (.asg (.name 2) (.call 4 (.cons (.var 1) .nil))) (.cons (.ife (.or (.cons (.not (.tru (.call 23 (.cons (.var 2) .nil)))) (.cons (.cmp .NotEq (.blt .len (.cons (.var 2) .nil)) (.var 0)) .nil))) (.cons (.raise 1) .nil) (.nil)) (.cons (.ret (.var 2)) .nil)), rm := false }
def i24 : DI := ⟨c24, ["many", "window", "own"], ["many", "window"], ⟨("sure_window", none), "sure_window", "sure_window", defArgs (top 33), defBody (top 33), defScope (top 33), [], []⟩⟩
/-- around_in -/
def c25 : CDef := { np := 2, ns := 2, body := .cons (.ret (.bin .Mult (.tup (.cons (.tup (.cons (.call 11 (.cons (.var 1) .nil)) (.cons (.var 1) .nil))) .nil)) (.var 0))) .nil, rm := false }
def i25 : DI := ⟨c25, ["many", "bound"], ["many", "bound"], ⟨("around_in", none), "around_in", "around_in", defArgs (top 34), defBody (top 34), defScope (top 34), [], []⟩⟩
/-- ends_in -/
def c26 : CDef := { np := 2, ns := 5, body := .cons (.ret (.lv (.comp (.tup (.cons (.call 15 (.cons (.call 9 (.cons (.var 2) (.cons (.var 3) .nil))) .nil)) (.cons (.call 14 (.cons (.call 9 (.cons (.var 2) (.cons (.var 4) .nil))) .nil)) .nil))) (.tup [.name 2, .tup [.name 3, .name 4]]) (.zip (.var 0) (.var 1)) (.none) [2, 3, 4]))) .nil, rm := false }
def i26 : DI := ⟨c26, ["point", "window", "own", "low", "high"], ["point", "window"], ⟨("ends_in", none), "ends_in", "ends_in", defArgs (top 35), defBody (top 35), defScope (top 35), [], []⟩⟩
/-- how_many_in -/
def c27 : CDef := { np := 2, ns := 5, body := .cons (.asg (.name 2) (.int 1)) (.cons (.for_ (.tup [.name 3, .name 4]) (.seq (.call 26 (.cons (.var 0) (.cons (.var 1) .nil)))) (.cons (.asg (.name 2) (.bin .Mult (.var 2) (.blt .max2 (.cons (.int 0) (.cons (.bin .Add (.bin .Sub (.var 4) (.var 3)) (.int 1)) .nil))))) .nil)) (.cons (.ret (.var 2)) .nil)), rm := false }
def i27 : DI := ⟨c27, ["point", "window", "found", "low", "high"], ["point", "window"], ⟨("how_many_in", none), "how_many_in", "how_many_in", defArgs (top 36), defBody (top 36), defScope (top 36), [], []⟩⟩
/-- near_in -/
def c28 : CDef := { np := 2, ns := 8, body := .cons (.asg (.name 2) (.lv (.disp (.cons (.tup (.nil)) .nil)))) (.cons (.for_ (.tup [.name 3, .name 4]) (.seq (.call 26 (.cons (.var 0) (.cons (.var 1) .nil)))) (.cons (.asg (.name 5) (.lm (.disp (.nil)))) (.cons (.for_ (.name 6) (.seq (.var 2)) (.cons (.ext (.var 5) (.lv (.comp (.bin .Add (.var 6) (.tup (.cons (.var 7) .nil))) (.name 7) (.rng2 (.var 3) (.bin .Add (.var 4) (.int 1))) (.none) [7]))) .nil)) (.cons (.asg (.name 2) (.var 5)) .nil)))) (.cons (.ret (.var 2)) .nil)), rm := true }
def i28 : DI := ⟨c28, ["point", "window", "found", "low", "high", "later", "own", "number"], ["point", "window"], ⟨("near_in", none), "near_in", "near_in", defArgs (top 37), defBody (top 37), defScope (top 37), [], []⟩⟩
/-- is_near_in -/
def c29 : CDef := { np := 3, ns := 6, body := .cons (.ret (.blt .all (.cons (.lv (.comp (.chain .LtE .LtE (.var 4) (.var 3) (.var 5)) (.tup [.name 3, .tup [.name 4, .name 5]]) (.zip (.var 2) (.call 26 (.cons (.var 0) (.cons (.var 1) .nil)))) (.none) [3, 4, 5])) .nil))) .nil, rm := false }
def i29 : DI := ⟨c29, ["point", "window", "row", "number", "low", "high"], ["point", "window", "row"], ⟨("is_near_in", none), "is_near_in", "is_near_in", defArgs (top 38), defBody (top 38), defScope (top 38), [], []⟩⟩
/-- off_in -/
def c30 : CDef := { np := 2, ns := 4, body := .cons (.ret (.blt .toTuple (.cons (.lv (.comp (.call 10 (.cons (.tup (.cons (.var 3) (.cons (.int 1) .nil))) (.cons (.var 2) .nil))) (.tup [.name 2, .name 3]) (.zip (.var 0) (.var 1)) (.none) [2, 3])) .nil))) .nil, rm := false }
def i30 : DI := ⟨c30, ["point", "row", "own", "number"], ["point", "row"], ⟨("off_in", none), "off_in", "off_in", defArgs (top 39), defBody (top 39), defScope (top 39), [], []⟩⟩
/-- is_window -/
def c31 : CDef := { np := 1, ns := 1, body := .cons (.ret (.call 23 (.cons (.var 0) .nil))) .nil, rm := false }
def i31 : DI := ⟨c31, ["thing"], ["thing"], ⟨("is_window", none), "is_window", "is_window", defArgs (top 40), defBody (top 40), defScope (top 40), [], []⟩⟩
/-- window_around -/
def c32 : CDef := { np := 2, ns := 3, body := .cons (.ife (.not (.tru (.call 1 (.cons (.var 0) (.cons (.int 1) .nil))))) (.cons (.raise 1) .nil) (.nil)) (.cons (.asg (.name 2) (.call 7 (.cons (.var 1) .nil))) (.cons (.ife (.not (.tru (.call 13 (.cons (.glob 0) (.cons (.var 2) .nil))))) (.cons (.raise 1) .nil) (.nil)) (.cons (.ret (.call 25 (.cons (.var 0) (.cons (.var 2) .nil)))) .nil))), rm := false }
def i32 : DI := ⟨c32, ["many", "bound", "own"], ["many", "bound"], ⟨("window_around", none), "window_around", "window_around", defArgs (top 41), defBody (top 41), defScope (top 41), [], []⟩⟩
/-- sure_asked -/
def c33 : CDef := { np := 3, ns := 5, body := .cons (.asg (.name 3) (.call 19 (.cons (.var 0) .nil))) (.cons (.asg (.name 4) (.call 24 (.cons (.blt .len (.cons (.var 3) .nil)) (.cons (.var 1) .nil)))) (.cons (.ret (.tup (.cons (.var 3) (.cons (.var 4) (.cons (.call 21 (.cons (.blt .len (.cons (.var 3) .nil)) (.cons (.var 2) .nil))) .nil))))) .nil)), rm := false }
def i33 : DI := ⟨c33, ["table", "window", "row", "own", "told"], ["table", "window", "row"], ⟨("sure_asked", none), "sure_asked", "sure_asked", defArgs (top 42), defBody (top 42), defScope (top 42), [], []⟩⟩
/-- how_many_near -/
def c34 : CDef := { np := 3, ns := 6, body := .cons (.asg (.tup [.name 3, .name 4, .name 5]) (.call 33 (.cons (.var 0) (.cons (.var 1) (.cons (.var 2) .nil))))) (.cons (.ret (.call 27 (.cons (.call 22 (.cons (.var 3) (.cons (.var 5) .nil))) (.cons (.var 4) .nil)))) .nil), rm := false }
def i34 : DI := ⟨c34, ["table", "window", "row", "own", "told", "here"], ["table", "window", "row"], ⟨("how_many_near", none), "how_many_near", "how_many_near", defArgs (top 43), defBody (top 43), defScope (top 43), [], []⟩⟩
/-- rows_near -/
def c35 : CDef := { np := 3, ns := 7, body := .cons (.asg (.tup [.name 4, .name 5, .name 6]) (.call 33 (.cons (.var 0) (.cons (.var 1) (.cons (.var 2) .nil))))) (.cons (.asg (.name 3) (.call 22 (.cons (.var 4) (.cons (.var 6) .nil)))) (.cons (.ife (.cmp .Gt (.call 27 (.cons (.var 3) (.cons (.var 5) .nil))) (.glob 1)) (.cons (.raise 0) .nil) (.nil)) (.cons (.ret (.call 28 (.cons (.var 3) (.cons (.var 5) .nil)))) .nil))), rm := true }
def i35 : DI := ⟨c35, ["table", "window", "row", "point", "own", "told", "here"], ["table", "window", "row"], ⟨("rows_near", none), "rows_near", "rows_near", defArgs (top 44), defBody (top 44), defScope (top 44), [], []⟩⟩
/-- is_near -/
def c36 : CDef := { np := 4, ns := 7, body := .cons (.asg (.tup [.name 4, .name 5, .name 6]) (.call 33 (.cons (.var 0) (.cons (.var 1) (.cons (.var 2) .nil))))) (.cons (.ret (.call 29 (.cons (.call 22 (.cons (.var 4) (.cons (.var 6) .nil))) (.cons (.var 5) (.cons (.call 21 (.cons (.blt .len (.cons (.var 4) .nil)) (.cons (.var 3) .nil))) .nil))))) .nil), rm := false }
def i36 : DI := ⟨c36, ["table", "window", "row", "other", "own", "told", "here"], ["table", "window", "row", "other"], ⟨("is_near", none), "is_near", "is_near", defArgs (top 45), defBody (top 45), defScope (top 45), [], []⟩⟩
/-- off_by -/
def c37 : CDef := { np := 3, ns := 5, body := .cons (.asg (.name 3) (.call 19 (.cons (.var 0) .nil))) (.cons (.asg (.name 4) (.call 21 (.cons (.blt .len (.cons (.var 3) .nil)) (.cons (.var 1) .nil)))) (.cons (.ret (.call 30 (.cons (.call 22 (.cons (.var 3) (.cons (.var 4) .nil))) (.cons (.call 21 (.cons (.blt .len (.cons (.var 3) .nil)) (.cons (.var 2) .nil))) .nil)))) .nil)), rm := false }
def i37 : DI := ⟨c37, ["table", "row", "other", "own", "here"], ["table", "row", "other"], ⟨("off_by", none), "off_by", "off_by", defArgs (top 46), defBody (top 46), defScope (top 46), [], []⟩⟩
/-- far_by -/
def c38 : CDef := { np := 3, ns := 4, body := .cons (.ret (.call 16 (.cons (.lv (.comp (.call 12 (.cons (.var 3) .nil)) (.name 3) (.seq (.call 37 (.cons (.var 0) (.cons (.var 1) (.cons (.var 2) .nil))))) (.none) [3])) .nil))) .nil, rm := false }
def i38 : DI := ⟨c38, ["table", "row", "other", "own"], ["table", "row", "other"], ⟨("far_by", none), "far_by", "far_by", defArgs (top 47), defBody (top 47), defScope (top 47), [], []⟩⟩
/-- _law_box -/
def c39 : CDef := { np := 2, ns := 3, body := .cons (.asg (.name 2) (.ife (.cmp .Lt (.var 1) (.blt .len (.cons (.var 0) .nil))) (.idx (.var 0) (.var 1)) (.int 0))) (.cons (.ret (.lm (.disp (.cons (.bin .Mult (.blt .abs (.cons (.var 2) .nil)) (.blt .toInt (.cons (.cmp .GtE (.blt .abs (.cons (.var 2) .nil)) (.bin .Pow (.int 10) (.int 18))) .nil))) (.cons (.bin .Add (.bin .Add (.bin .Mod (.blt .toInt (.cons (.var 2) .nil)) (.int 2305843009213693951)) (.bin .Mult (.int 39373) (.var 1))) (.int 6070003)) (.cons (.int 0) .nil)))))) .nil), rm := true }
def i39 : DI := ⟨c39, ["script", "k", "bit_so"], ["script", "k"], ⟨("_law_box", none), "_law_box", "_law_box", defArgs (top 49), defBody (top 49), defScope (top 49), [], []⟩⟩
/-- _law_take -/
def c40 : CDef := { np := 2, ns := 6, body := .cons (.ife (.cmp .Gt (.idx (.var 0) (.int 0)) (.int 0)) (.cons (.asg (.name 5) (.bin .Mod (.blt .toInt (.cons (.idx (.var 0) (.int 0)) .nil)) (.var 1))) (.cons (.setI (.var 0) (.int 0) (.bin .FloorDiv (.idx (.var 0) (.int 0)) (.var 1))) (.cons (.ret (.var 5)) .nil))) (.nil)) (.cons (.setI (.var 0) (.int 2) (.bin .Add (.idx (.var 0) (.int 2)) (.int 1))) (.cons (.asg (.name 2) (.bin .Mod (.blt .toInt (.cons (.bin .Mult (.bin .Add (.idx (.var 0) (.int 1)) (.bin .Mult (.int 48271) (.idx (.var 0) (.int 2)))) (.bin .Add (.int 39373) (.idx (.var 0) (.int 2)))) .nil)) (.int 2147483647))) (.cons (.asg (.name 3) (.bin .Add (.bin .Mod (.blt .toInt (.cons (.var 2) .nil)) (.int 40009)) (.int 7))) (.cons (.asg (.name 4) (.bin .Mod (.blt .toInt (.cons (.bin .Mult (.bin .Add (.bin .Add (.var 2) (.idx (.var 0) (.int 2))) (.bin .FloorDiv (.idx (.var 0) (.int 1)) (.int 1000003))) (.var 3)) .nil)) (.int 2147483629))) (.cons (.ret (.bin .Mod (.blt .toInt (.cons (.bin .FloorDiv (.bin .Mod (.blt .toInt (.cons (.bin .Add (.bin .Mult (.var 4) (.int 48271)) (.var 2)) .nil)) (.int 2147483587)) (.int 64)) .nil)) (.var 1))) .nil))))), rm := false }
def i40 : DI := ⟨c40, ["tin", "below_so", "once_so", "wide_so", "twice_so", "drawn_so"], ["tin", "below_so"], ⟨("_law_take", none), "_law_take", "_law_take", defArgs (top 50), defBody (top 50), defScope (top 50), [], []⟩⟩
/-- _law_cells -/
def c41 : CDef := { np := 2, ns := 6, body := .cons (.asg (.name 2) (.orT (.lm (.lst (.slc (.var 0) .none (.some (.var 1))))) (.lm (.disp (.cons (.int 0) .nil))))) (.cons (.for_ (.tup [.name 3, .name 4]) (.enum (.slc (.var 0) (.some (.var 1)) (.some (.int 63)))) (.cons (.asg (.name 5) (.bin .Mod (.blt .toInt (.cons (.var 3) .nil)) (.var 1))) (.cons (.setI (.var 2) (.var 5) (.bin .Add (.idx (.var 2) (.var 5)) (.bin .Mult (.var 4) (.bin .Add (.var 3) (.int 2))))) .nil))) (.cons (.ret (.var 2)) .nil)), rm := false }
def i41 : DI := ⟨c41, ["script", "most_so", "cells_so", "k", "bit_so", "at_so"], ["script", "most_so"], ⟨("_law_cells", none), "_law_cells", "_law_cells", defArgs (top 51), defBody (top 51), defScope (top 51), [], []⟩⟩
/-- _law_of -/
def c42 : CDef := { np := 2, ns := 2, body := .cons (.ret (.idx (.var 1) (.call 40 (.cons (.var 0) (.cons (.blt .len (.cons (.var 1) .nil)) .nil))))) .nil, rm := false }
def i42 : DI := ⟨c42, ["tin", "goods_so"], ["tin", "goods_so"], ⟨("_law_of", none), "_law_of", "_law_of", defArgs (top 52), defBody (top 52), defScope (top 52), [], []⟩⟩
/-- _law_lists -/
def c43 : CDef := { np := 1, ns := 2, body := .cons (.ret (.ife (.tru (.isI (.var 0) [.tList, .tTuple])) (.lv (.comp (.call 43 (.cons (.var 1) .nil)) (.name 1) (.seq (.var 0)) (.none) [1])) (.var 0))) .nil, rm := false }
def i43 : DI := ⟨c43, ["matter", "bit"], ["matter"], ⟨("_law_lists", none), "_law_lists", "_law_lists", defArgs (top 53), defBody (top 53), defScope (top 53), [], []⟩⟩
/-- _law_same -/
def c44 : CDef := { np := 2, ns := 4, body := .cons (.ife (.tru (.isI (.var 1) [.tList, .tTuple])) (.cons (.ife (.or (.cons (.cmp .NotEq (.isI (.var 0) [.tList]) (.isI (.var 1) [.tList])) (.cons (.cmp .NotEq (.isI (.var 0) [.tTuple]) (.isI (.var 1) [.tTuple])) .nil))) (.cons (.ret (.bl false)) .nil) (.nil)) (.cons (.ret (.andV (.cons (.cmp .Eq (.blt .len (.cons (.var 0) .nil)) (.blt .len (.cons (.var 1) .nil))) (.cons (.blt .all (.cons (.lv (.comp (.call 44 (.cons (.var 2) (.cons (.var 3) .nil))) (.tup [.name 2, .name 3]) (.zip (.var 0) (.var 1)) (.none) [2, 3])) .nil)) .nil)))) .nil)) (.nil)) (.cons (.ife (.cmp .Is (.var 1) (.non)) (.cons (.ret (.cmp .Is (.var 0) (.non))) .nil) (.nil)) (.cons (.ife (.tru (.isI (.var 1) [.tBool, .tStr])) (.cons (.ret (.andV (.cons (.cmp .Eq (.isI (.var 0) [.tBool]) (.isI (.var 1) [.tBool])) (.cons (.cmp .Eq (.isI (.var 0) [.tStr]) (.isI (.var 1) [.tStr])) (.cons (.cmp .Eq (.var 0) (.var 1)) .nil))))) .nil) (.nil)) (.cons (.ret (.andV (.cons (.isI (.var 0) [.tInt]) (.cons (.notV (.isI (.var 0) [.tBool])) (.cons (.cmp .Eq (.var 0) (.var 1)) .nil))))) .nil))), rm := false }
def i44 : DI := ⟨c44, ["got", "due", "mine", "its"], ["got", "due"], ⟨("_law_same", none), "_law_same", "_law_same", defArgs (top 54), defBody (top 54), defScope (top 54), [], []⟩⟩
/-- _law_unmarked -/
def c45 : CDef := { np := 1, ns := 1, body := .cons (.ret (.ife (.and (.cons (.tru (.isI (.var 0) [.tList])) (.cons (.cmp .Gt (.blt .len (.cons (.var 0) .nil)) (.int 0)) (.cons (.tru (.isI (.idx (.var 0) (.int 0)) [.tStr])) .nil)))) (.lv (.disp (.cons (.str "told") (.cons (.str "a mark") .nil)))) (.var 0))) .nil, rm := false }
def i45 : DI := ⟨c45, ["told_so"], ["told_so"], ⟨("_law_unmarked", none), "_law_unmarked", "_law_unmarked", defArgs (top 55), defBody (top 55), defScope (top 55), [], []⟩⟩
/-- _law_spoil -/
def c46 : CDef := { np := 1, ns := 1, body := .cons (.ife (.tru (.isI (.var 0) [.tList])) (.cons (.app (.var 0) (.tup (.nil))) .nil) (.nil)) .nil, rm := false }
def i46 : DI := ⟨c46, ["matter"], ["matter"], ⟨("_law_spoil", none), "_law_spoil", "_law_spoil", defArgs (top 56), defBody (top 56), defScope (top 56), [], []⟩⟩
/-- _law_call -/
def c47 : CDef := { np := 2, ns := 2, body := .cons (.ife (.cmp .Eq (.blt .len (.cons (.var 1) .nil)) (.int 1)) (.cons (.ret (.callL 0 (.cons (.idx (.var 1) (.int 0)) .nil))) .nil) (.nil)) (.cons (.ife (.cmp .Eq (.blt .len (.cons (.var 1) .nil)) (.int 2)) (.cons (.ret (.callL 0 (.cons (.idx (.var 1) (.int 0)) (.cons (.idx (.var 1) (.int 1)) .nil)))) .nil) (.nil)) (.cons (.ife (.cmp .Eq (.blt .len (.cons (.var 1) .nil)) (.int 3)) (.cons (.ret (.callL 0 (.cons (.idx (.var 1) (.int 0)) (.cons (.idx (.var 1) (.int 1)) (.cons (.idx (.var 1) (.int 2)) .nil))))) .nil) (.nil)) (.cons (.ife (.cmp .Eq (.blt .len (.cons (.var 1) .nil)) (.int 4)) (.cons (.ret (.callL 0 (.cons (.idx (.var 1) (.int 0)) (.cons (.idx (.var 1) (.int 1)) (.cons (.idx (.var 1) (.int 2)) (.cons (.idx (.var 1) (.int 3)) .nil)))))) .nil) (.nil)) (.cons (.ret (.callL 0 (.cons (.idx (.var 1) (.int 0)) (.cons (.idx (.var 1) (.int 1)) (.cons (.idx (.var 1) (.int 2)) (.cons (.idx (.var 1) (.int 3)) (.cons (.idx (.var 1) (.int 4)) .nil))))))) .nil)))), rm := true }
def i47 : DI := ⟨c47, ["door", "goods_so"], ["door", "goods_so"], ⟨("_law_call", none), "_law_call", "_law_call", defArgs (top 57), defBody (top 57), defScope (top 57), [], []⟩⟩
/-- _law_told_anew -/
def c48 : CDef := { np := 3, ns := 5, body := .cons (.asg (.name 3) (.call 43 (.cons (.var 1) .nil))) (.cons (.asg (.name 4) (.call 47 (.cons (.var 0) (.cons (.var 3) .nil)))) (.cons (.ife (.or (.cons (.not (.tru (.callP 44 (.cons (.var 4) (.cons (.var 2) .nil))))) (.cons (.not (.tru (.call 44 (.cons (.var 3) (.cons (.call 43 (.cons (.var 1) .nil)) .nil))))) .nil))) (.cons (.ret (.bl false)) .nil) (.nil)) (.cons (.expr (.call 46 (.cons (.var 4) .nil))) (.cons (.ret (.callP 44 (.cons (.call 47 (.cons (.var 0) (.cons (.var 1) .nil))) (.cons (.var 2) .nil)))) .nil)))), rm := false }
def i48 : DI := ⟨c48, ["door", "goods_so", "due", "thin_so", "told_so"], ["door", "goods_so", "due"], ⟨("_law_told_anew", none), "_law_told_anew", "_law_told_anew", defArgs (top 58), defBody (top 58), defScope (top 58), [], []⟩⟩
/-- _law_cut -/
def c49 : CDef := { np := 2, ns := 5, body := .cons (.par2 3 4 (.blt .abs (.cons (.var 0) .nil)) (.blt .abs (.cons (.var 1) .nil))) (.cons (.while_ (.cmp .Gt (.var 4) (.int 0)) (.cons (.par2 3 4 (.var 4) (.bin .Mod (.var 3) (.var 4))) .nil)) (.cons (.asg (.name 2) (.ife (.cmp .Gt (.var 1) (.int 0)) (.int 1) (.neg (.int 1)))) (.cons (.ret (.tup (.cons (.bin .FloorDiv (.bin .Mult (.var 2) (.var 0)) (.var 3)) (.cons (.bin .FloorDiv (.bin .Mult (.var 2) (.var 1)) (.var 3)) .nil)))) .nil))), rm := false }
def i49 : DI := ⟨c49, ["upper_so", "lower_so", "sign_so", "a", "b"], ["upper_so", "lower_so"], ⟨("_law_cut", none), "_law_cut", "_law_cut", defArgs (top 59), defBody (top 59), defScope (top 59), [], []⟩⟩
/-- _law_plus -/
def c50 : CDef := { np := 2, ns := 2, body := .cons (.ret (.call 49 (.cons (.bin .Add (.bin .Mult (.idx (.var 0) (.int 0)) (.idx (.var 1) (.int 1))) (.bin .Mult (.idx (.var 1) (.int 0)) (.idx (.var 0) (.int 1)))) (.cons (.bin .Mult (.idx (.var 0) (.int 1)) (.idx (.var 1) (.int 1))) .nil)))) .nil, rm := false }
def i50 : DI := ⟨c50, ["one", "two"], ["one", "two"], ⟨("_law_plus", none), "_law_plus", "_law_plus", defArgs (top 60), defBody (top 60), defScope (top 60), [], []⟩⟩
/-- _law_by -/
def c51 : CDef := { np := 2, ns := 2, body := .cons (.ret (.call 49 (.cons (.bin .Mult (.idx (.var 0) (.int 0)) (.idx (.var 1) (.int 0))) (.cons (.bin .Mult (.idx (.var 0) (.int 1)) (.idx (.var 1) (.int 1))) .nil)))) .nil, rm := false }
def i51 : DI := ⟨c51, ["one", "two"], ["one", "two"], ⟨("_law_by", none), "_law_by", "_law_by", defArgs (top 61), defBody (top 61), defScope (top 61), [], []⟩⟩
/-- _law_less -/
def c52 : CDef := { np := 2, ns := 2, body := .cons (.ret (.call 49 (.cons (.bin .Sub (.bin .Mult (.idx (.var 0) (.int 0)) (.idx (.var 1) (.int 1))) (.bin .Mult (.idx (.var 1) (.int 0)) (.idx (.var 0) (.int 1)))) (.cons (.bin .Mult (.idx (.var 0) (.int 1)) (.idx (.var 1) (.int 1))) .nil)))) .nil, rm := false }
def i52 : DI := ⟨c52, ["one", "two"], ["one", "two"], ⟨("_law_less", none), "_law_less", "_law_less", defArgs (top 62), defBody (top 62), defScope (top 62), [], []⟩⟩
/-- _law_up_to -/
def c53 : CDef := { np := 2, ns := 2, body := .cons (.ret (.cmp .LtE (.bin .Mult (.idx (.var 0) (.int 0)) (.idx (.var 1) (.int 1))) (.bin .Mult (.idx (.var 1) (.int 0)) (.idx (.var 0) (.int 1))))) .nil, rm := false }
def i53 : DI := ⟨c53, ["one", "two"], ["one", "two"], ⟨("_law_up_to", none), "_law_up_to", "_law_up_to", defArgs (top 63), defBody (top 63), defScope (top 63), [], []⟩⟩
/-- _law_sum -/
def c54 : CDef := { np := 1, ns := 3, body := .cons (.asg (.name 1) (.tup (.cons (.int 0) (.cons (.int 1) .nil)))) (.cons (.for_ (.name 2) (.seq (.var 0)) (.cons (.asg (.name 1) (.call 50 (.cons (.var 1) (.cons (.var 2) .nil)))) .nil)) (.cons (.ret (.var 1)) .nil)), rm := false }
def i54 : DI := ⟨c54, ["goods_so", "found", "own"], ["goods_so"], ⟨("_law_sum", none), "_law_sum", "_law_sum", defArgs (top 64), defBody (top 64), defScope (top 64), [], []⟩⟩
/-- _law_image -/
def c55 : CDef := { np := 2, ns := 5, body := .cons (.ret (.blt .toTuple (.cons (.lv (.comp (.call 54 (.cons (.lv (.comp (.call 51 (.cons (.var 3) (.cons (.tup (.cons (.var 4) (.cons (.int 1) .nil))) .nil))) (.tup [.name 3, .name 4]) (.zip (.var 2) (.var 1)) (.none) [3, 4])) .nil)) (.name 2) (.seq (.var 0)) (.none) [2])) .nil))) .nil, rm := false }
def i55 : DI := ⟨c55, ["table_so", "row_so", "line_so", "own", "k"], ["table_so", "row_so"], ⟨("_law_image", none), "_law_image", "_law_image", defArgs (top 65), defBody (top 65), defScope (top 65), [], []⟩⟩
/-- _law_product -/
def c56 : CDef := { np := 2, ns := 8, body := .cons (.asg (.name 2) (.lv (.comp (.lv (.comp (.idx (.var 4) (.var 3)) (.name 4) (.seq (.var 1)) (.none) [4])) (.name 3) (.rng1 (.blt .len (.cons (.var 1) .nil))) (.none) [3]))) (.cons (.ret (.blt .toTuple (.cons (.lv (.comp (.blt .toTuple (.cons (.lv (.comp (.call 54 (.cons (.lv (.comp (.call 51 (.cons (.var 6) (.cons (.var 7) .nil))) (.tup [.name 6, .name 7]) (.zip (.var 4) (.var 5)) (.none) [6, 7])) .nil)) (.name 5) (.seq (.var 2)) (.none) [5])) .nil)) (.name 4) (.seq (.var 0)) (.none) [4])) .nil))) .nil), rm := false }
def i56 : DI := ⟨c56, ["one", "two", "columns_so", "k", "line_so", "column_so", "a", "b"], ["one", "two"], ⟨("_law_product", none), "_law_product", "_law_product", defArgs (top 66), defBody (top 66), defScope (top 66), [], []⟩⟩
/-- _law_unit -/
def c57 : CDef := { np := 1, ns := 3, body := .cons (.ret (.blt .toTuple (.cons (.lv (.comp (.blt .toTuple (.cons (.lv (.comp (.tup (.cons (.blt .toInt (.cons (.cmp .Eq (.var 1) (.var 2)) .nil)) (.cons (.int 1) .nil))) (.name 2) (.rng1 (.var 0)) (.none) [2])) .nil)) (.name 1) (.rng1 (.var 0)) (.none) [1])) .nil))) .nil, rm := false }
def i57 : DI := ⟨c57, ["many", "k", "j"], ["many"], ⟨("_law_unit", none), "_law_unit", "_law_unit", defArgs (top 67), defBody (top 67), defScope (top 67), [], []⟩⟩
/-- _law_ends -/
def c58 : CDef := { np := 2, ns := 8, body := .cons (.asg (.name 2) (.lm (.disp (.nil)))) (.cons (.for_ (.tup [.name 3, .tup [.name 4, .name 5]]) (.zip (.var 0) (.var 1)) (.cons (.par2 6 7 (.call 50 (.cons (.var 3) (.cons (.var 4) .nil))) (.call 50 (.cons (.var 3) (.cons (.var 5) .nil)))) (.cons (.app (.var 2) (.tup (.cons (.bin .Sub (.int 0) (.bin .FloorDiv (.bin .Sub (.int 0) (.idx (.var 6) (.int 0))) (.idx (.var 6) (.int 1)))) (.cons (.bin .FloorDiv (.idx (.var 7) (.int 0)) (.idx (.var 7) (.int 1))) .nil)))) .nil))) (.cons (.ret (.var 2)) .nil)), rm := false }
def i58 : DI := ⟨c58, ["point_so", "window_so", "found", "own", "low_so", "high_so", "low", "high"], ["point_so", "window_so"], ⟨("_law_ends", none), "_law_ends", "_law_ends", defArgs (top 68), defBody (top 68), defScope (top 68), [], []⟩⟩
/-- _law_near -/
def c59 : CDef := { np := 2, ns := 8, body := .cons (.asg (.name 2) (.lv (.disp (.cons (.tup (.nil)) .nil)))) (.cons (.for_ (.tup [.name 3, .name 4]) (.seq (.call 58 (.cons (.var 0) (.cons (.var 1) .nil)))) (.cons (.asg (.name 5) (.lv (.disp (.nil)))) (.cons (.for_ (.name 6) (.seq (.var 2)) (.cons (.asg (.name 5) (.bin .Add (.var 5) (.lv (.comp (.bin .Add (.var 6) (.tup (.cons (.var 7) .nil))) (.name 7) (.rng2 (.var 3) (.bin .Add (.var 4) (.int 1))) (.none) [7])))) .nil)) (.cons (.asg (.name 2) (.var 5)) .nil)))) (.cons (.ret (.var 2)) .nil)), rm := false }
def i59 : DI := ⟨c59, ["point_so", "window_so", "found", "low", "high", "longer", "own", "k"], ["point_so", "window_so"], ⟨("_law_near", none), "_law_near", "_law_near", defArgs (top 69), defBody (top 69), defScope (top 69), [], []⟩⟩
/-- _law_fraction -/
def c60 : CDef := { np := 2, ns := 2, body := .cons (.ret (.call 49 (.cons (.bin .Sub (.call 40 (.cons (.var 0) (.cons (.bin .Add (.bin .Mult (.int 2) (.var 1)) (.int 1)) .nil))) (.var 1)) (.cons (.call 42 (.cons (.var 0) (.cons (.lv (.disp (.cons (.int 1) (.cons (.int 1) (.cons (.int 2) (.cons (.int 2) (.cons (.int 3) (.cons (.int 4) .nil)))))))) .nil))) .nil)))) .nil, rm := false }
def i60 : DI := ⟨c60, ["tin", "wide_so"], ["tin", "wide_so"], ⟨("_law_fraction", none), "_law_fraction", "_law_fraction", defArgs (top 70), defBody (top 70), defScope (top 70), [], []⟩⟩
/-- _law_turns -/
def c61 : CDef := { np := 0, ns := 0, body := .cons (.ret (.lv (.disp (.cons (.tup (.cons (.tup (.cons (.int 3) (.cons (.int 4) .nil))) (.cons (.int 5) .nil))) (.cons (.tup (.cons (.tup (.cons (.neg (.int 4)) (.cons (.int 3) .nil))) (.cons (.int 5) .nil))) (.cons (.tup (.cons (.tup (.cons (.int 5) (.cons (.int 12) .nil))) (.cons (.int 13) .nil))) (.cons (.tup (.cons (.tup (.cons (.int 0) (.cons (.int 1) .nil))) (.cons (.int 1) .nil))) (.cons (.tup (.cons (.tup (.cons (.neg (.int 1)) (.cons (.int 0) .nil))) (.cons (.int 1) .nil))) .nil)))))))) .nil, rm := false }
def i61 : DI := ⟨c61, [], [], ⟨("_law_turns", none), "_law_turns", "_law_turns", defArgs (top 71), defBody (top 71), defScope (top 71), [], []⟩⟩
/-- _law_table -/
def c62 : CDef := { np := 2, ns := 12, body := .cons (.asg (.name 2) (.call 40 (.cons (.var 0) (.cons (.int 6) .nil)))) (.cons (.ife (.and (.cons (.cmp .Eq (.var 1) (.int 2)) (.cons (.cmp .Eq (.var 2) (.int 0)) .nil))) (.cons (.asg (.tup [.tup [.name 7, .name 8], .name 5]) (.call 42 (.cons (.var 0) (.cons (.call 61 (.nil)) .nil)))) (.cons (.ret (.tup (.cons (.tup (.cons (.call 49 (.cons (.var 7) (.cons (.var 5) .nil))) (.cons (.call 49 (.cons (.bin .Sub (.int 0) (.var 8)) (.cons (.var 5) .nil))) .nil))) (.cons (.tup (.cons (.call 49 (.cons (.var 8) (.cons (.var 5) .nil))) (.cons (.call 49 (.cons (.var 7) (.cons (.var 5) .nil))) .nil))) .nil)))) .nil)) (.nil)) (.cons (.ife (.cmp .Lt (.var 2) (.int 3)) (.cons (.asg (.name 3) (.call 57 (.cons (.var 1) .nil))) (.cons (.for_ (.name 4) (.rng1 (.bin .Add (.int 1) (.call 40 (.cons (.var 0) (.cons (.int 2) .nil))))) (.cons (.asg (.name 6) (.lv (.comp (.lm (.lst (.var 11))) (.name 11) (.seq (.call 57 (.cons (.var 1) .nil))) (.none) [11]))) (.cons (.par2 9 10 (.call 40 (.cons (.var 0) (.cons (.var 1) .nil))) (.call 40 (.cons (.var 0) (.cons (.var 1) .nil)))) (.cons (.setI (.idx (.var 6) (.var 9)) (.var 10) (.ife (.cmp .NotEq (.var 9) (.var 10)) (.call 60 (.cons (.var 0) (.cons (.int 2) .nil))) (.call 42 (.cons (.var 0) (.cons (.lv (.disp (.cons (.tup (.cons (.neg (.int 1)) (.cons (.int 1) .nil))) (.cons (.tup (.cons (.int 2) (.cons (.int 1) .nil))) (.cons (.tup (.cons (.int 1) (.cons (.int 2) .nil))) (.cons (.tup (.cons (.int 3) (.cons (.int 2) .nil))) (.cons (.tup (.cons (.int 1) (.cons (.int 1) .nil))) .nil))))))) .nil))))) (.cons (.asg (.name 3) (.call 56 (.cons (.lv (.comp (.blt .toTuple (.cons (.var 11) .nil)) (.name 11) (.seq (.var 6)) (.none) [11])) (.cons (.var 3) .nil)))) .nil))))) (.cons (.ret (.var 3)) .nil))) (.nil)) (.cons (.ret (.blt .toTuple (.cons (.lv (.comp (.blt .toTuple (.cons (.lv (.comp (.ife (.cmp .NotEq (.var 2) (.int 3)) (.call 60 (.cons (.var 0) (.cons (.int 3) .nil))) (.call 42 (.cons (.var 0) (.cons (.lv (.disp (.cons (.tup (.cons (.int 0) (.cons (.int 1) .nil))) (.cons (.tup (.cons (.int 1) (.cons (.int 1) .nil))) (.cons (.tup (.cons (.neg (.int 1)) (.cons (.int 1) .nil))) (.cons (.tup (.cons (.int 1) (.cons (.int 2) .nil))) .nil)))))) .nil)))) (.name 10) (.rng1 (.var 1)) (.none) [10])) .nil)) (.name 9) (.rng1 (.var 1)) (.none) [9])) .nil))) .nil))), rm := false }
def i62 : DI := ⟨c62, ["tin", "many", "kind_so", "found", "lap", "long_so", "step_so", "a", "b", "k", "j", "own"], ["tin", "many"], ⟨("_law_table", none), "_law_table", "_law_table", defArgs (top 72), defBody (top 72), defScope (top 72), [], []⟩⟩
/-- _law_window -/
def c63 : CDef := { np := 3, ns := 7, body := .cons (.ife (.cmp .Eq (.call 40 (.cons (.var 0) (.cons (.int 2) .nil))) (.int 0)) (.cons (.asg (.name 5) (.call 49 (.cons (.call 40 (.cons (.var 0) (.cons (.bin .Add (.var 2) (.int 1)) .nil))) (.cons (.call 42 (.cons (.var 0) (.cons (.lv (.disp (.cons (.int 2) (.cons (.int 3) (.cons (.int 5) (.cons (.int 4) .nil)))))) .nil))) .nil)))) (.cons (.ret (.bin .Mult (.tup (.cons (.tup (.cons (.tup (.cons (.bin .Sub (.int 0) (.idx (.var 5) (.int 0))) (.cons (.idx (.var 5) (.int 1)) .nil))) (.cons (.var 5) .nil))) .nil)) (.var 1))) .nil)) (.nil)) (.cons (.asg (.name 3) (.lm (.disp (.nil)))) (.cons (.for_ (.name 4) (.rng1 (.var 1)) (.cons (.asg (.name 6) (.call 49 (.cons (.bin .Sub (.call 40 (.cons (.var 0) (.cons (.bin .Add (.var 2) (.int 1)) .nil))) (.var 2)) (.cons (.call 42 (.cons (.var 0) (.cons (.lv (.disp (.cons (.int 2) (.cons (.int 3) (.cons (.int 4) .nil))))) .nil))) .nil)))) (.cons (.app (.var 3) (.tup (.cons (.var 6) (.cons (.call 50 (.cons (.var 6) (.cons (.call 49 (.cons (.call 40 (.cons (.var 0) (.cons (.bin .Mult (.int 2) (.var 2)) .nil))) (.cons (.call 42 (.cons (.var 0) (.cons (.lv (.disp (.cons (.int 2) (.cons (.int 3) (.cons (.int 4) .nil))))) .nil))) .nil))) .nil))) .nil)))) .nil))) (.cons (.ret (.blt .toTuple (.cons (.var 3) .nil))) .nil))), rm := false }
def i63 : DI := ⟨c63, ["tin", "many", "wide_so", "found", "lap", "bound_so", "low_so"], ["tin", "many", "wide_so"], ⟨("_law_window", none), "_law_window", "_law_window", defArgs (top 73), defBody (top 73), defScope (top 73), [], []⟩⟩
/-- _law_heard -/
def c64 : CDef := { np := 2, ns := 6, body := .cons (.asg (.tup [.name 4, .name 5]) (.tup (.cons (.non) (.cons (.non) .nil)))) (.cons (.try_ (.cons (.asg (.name 5) (.call 45 (.cons (.call 47 (.cons (.var 0) (.cons (.var 1) .nil))) .nil))) .nil) (.cons 0 (some 2) (.asg 4 (.lv (.disp (.cons (.str "many") (.cons (.excIs 2) .nil))))) (.cons 1 (some 3) (.asg 4 (.lv (.disp (.cons (.str "unfit") (.cons (.excIs 3) .nil))))) (.nil)))) (.cons (.ret (.ife (.cmp .Is (.var 4) (.non)) (.var 5) (.var 4))) .nil)), rm := false }
def i64 : DI := ⟨c64, ["door", "goods_so", "error_a", "error_b", "caught", "told_so"], ["door", "goods_so"], ⟨("_law_heard", none), "_law_heard", "_law_heard", defArgs (top 74), defBody (top 74), defScope (top 74), [], []⟩⟩
/-- _law_offs -/
def c65 : CDef := { np := 3, ns := 5, body := .cons (.ret (.blt .toTuple (.cons (.lv (.comp (.call 52 (.cons (.tup (.cons (.var 4) (.cons (.int 1) .nil))) (.cons (.var 3) .nil))) (.tup [.name 3, .name 4]) (.zip (.call 55 (.cons (.var 0) (.cons (.var 1) .nil))) (.var 2)) (.none) [3, 4])) .nil))) .nil, rm := false }
def i65 : DI := ⟨c65, ["table_so", "row_so", "other_so", "own", "k"], ["table_so", "row_so", "other_so"], ⟨("_law_offs", none), "_law_offs", "_law_offs", defArgs (top 75), defBody (top 75), defScope (top 75), [], []⟩⟩
/-- _law_greatest -/
def c66 : CDef := { np := 1, ns := 4, body := .cons (.asg (.name 1) (.tup (.cons (.int 0) (.cons (.int 1) .nil)))) (.cons (.for_ (.name 2) (.seq (.var 0)) (.cons (.asg (.name 3) (.tup (.cons (.blt .abs (.cons (.idx (.var 2) (.int 0)) .nil)) (.cons (.idx (.var 2) (.int 1)) .nil)))) (.cons (.asg (.name 1) (.ife (.tru (.call 53 (.cons (.var 1) (.cons (.var 3) .nil)))) (.var 3) (.var 1))) .nil))) (.cons (.ret (.var 1)) .nil)), rm := false }
def i66 : DI := ⟨c66, ["goods_so", "found", "own", "size_so"], ["goods_so"], ⟨("_law_greatest", none), "_law_greatest", "_law_greatest", defArgs (top 76), defBody (top 76), defScope (top 76), [], []⟩⟩
/-- law -/
def c67 : CDef := { np := 1, ns := 18, body := .cons (.asg (.name 1) (.call 39 (.cons (.call 41 (.cons (.var 0) (.cons (.int 1) .nil))) (.cons (.int 0) .nil)))) (.cons (.asg (.name 2) (.bin .Add (.int 1) (.call 40 (.cons (.var 1) (.cons (.int 3) .nil))))) (.cons (.asg (.tup [.name 9, .name 10]) (.tup (.cons (.call 62 (.cons (.var 1) (.cons (.var 2) .nil))) (.cons (.call 63 (.cons (.var 1) (.cons (.var 2) (.cons (.int 4) .nil)))) .nil)))) (.cons (.for_ (.name 3) (.rng1 (.int 3)) (.cons (.asg (.name 11) (.blt .toTuple (.cons (.lv (.comp (.bin .Sub (.call 40 (.cons (.var 1) (.cons (.int 19) .nil))) (.int 9)) (.name 17) (.rng1 (.var 2)) (.none) [17])) .nil))) (.cons (.asg (.name 12) (.call 55 (.cons (.var 9) (.cons (.var 11) .nil)))) (.cons (.asg (.name 13) (.call 59 (.cons (.var 12) (.cons (.var 10) .nil)))) (.cons (.ife (.not (.tru (.call 48 (.cons (.fn 35) (.cons (.tup (.cons (.var 9) (.cons (.var 10) (.cons (.var 11) .nil)))) (.cons (.var 13) .nil)))))) (.cons (.ret (.bl false)) .nil) (.nil)) (.cons (.asg (.name 14) (.bin .Add (.bin .Add (.slc (.var 13) .none (.some (.int 2))) (.slc (.var 13) (.some (.neg (.int 1))) .none)) (.lv (.disp (.cons (.blt .toTuple (.cons (.lv (.comp (.bin .Sub (.bin .Add (.bin .FloorDiv (.idx (.var 16) (.int 0)) (.idx (.var 16) (.int 1))) (.call 40 (.cons (.var 1) (.cons (.int 5) .nil)))) (.int 2)) (.name 16) (.seq (.var 12)) (.none) [16])) .nil)) .nil))))) (.cons (.asg (.name 7) (.lv (.disp (.cons (.callK 34 (.nil) (.cons (.var 11) (.cons (.call 43 (.cons (.var 9) .nil)) (.cons (.var 10) .nil))) [1, 2, 0]) (.cons (.lv (.comp (.call 36 (.cons (.var 9) (.cons (.call 43 (.cons (.var 10) .nil)) (.cons (.var 11) (.cons (.var 16) .nil))))) (.name 16) (.seq (.var 14)) (.none) [16])) .nil))))) (.cons (.asg (.name 7) (.bin .Add (.var 7) (.lv (.disp (.cons (.lv (.comp (.callK 37 (.nil) (.cons (.var 9) (.cons (.var 11) (.cons (.lv (.lst (.var 16))) .nil))) [0, 1, 2]) (.name 16) (.seq (.var 14)) (.none) [16])) (.cons (.lv (.comp (.call 38 (.cons (.var 9) (.cons (.var 11) (.cons (.var 16) .nil)))) (.name 16) (.seq (.var 14)) (.none) [16])) .nil)))))) (.cons (.asg (.name 15) (.lv (.comp (.call 65 (.cons (.var 9) (.cons (.var 11) (.cons (.var 16) .nil)))) (.name 16) (.seq (.var 14)) (.none) [16]))) (.cons (.ife (.not (.tru (.call 44 (.cons (.var 7) (.cons (.lv (.disp (.cons (.blt .len (.cons (.var 13) .nil)) (.cons (.lv (.comp (.cmp .In (.var 16) (.var 13)) (.name 16) (.seq (.var 14)) (.none) [16])) (.cons (.var 15) (.cons (.lv (.comp (.call 66 (.cons (.var 16) .nil)) (.name 16) (.seq (.var 15)) (.none) [16])) .nil)))))) .nil))))) (.cons (.ret (.bl false)) .nil) (.nil)) .nil)))))))))) (.cons (.asg (.name 4) (.call 49 (.cons (.call 40 (.cons (.var 1) (.cons (.int 30) .nil))) (.cons (.bin .Add (.int 1) (.call 40 (.cons (.var 1) (.cons (.int 9) .nil)))) .nil)))) (.cons (.asg (.name 5) (.bin .Mult (.tup (.cons (.tup (.cons (.tup (.cons (.bin .Sub (.int 0) (.idx (.var 4) (.int 0))) (.cons (.idx (.var 4) (.int 1)) .nil))) (.cons (.var 4) .nil))) .nil)) (.var 2))) (.cons (.asg (.name 6) (.lv (.disp (.cons (.var 10) (.cons (.lv (.lst (.var 10))) (.cons (.tup (.nil)) (.cons (.bin .Add (.var 10) (.tup (.cons (.tup (.cons (.tup (.cons (.int 1) (.cons (.int 2) .nil))) (.cons (.tup (.cons (.int 0) (.cons (.int 1) .nil))) .nil))) .nil))) (.cons (.tup (.cons (.tup (.cons (.tup (.cons (.int 2) (.cons (.int 4) .nil))) (.cons (.tup (.cons (.int 1) (.cons (.int 1) .nil))) .nil))) .nil)) (.cons (.non) (.cons (.tup (.cons (.tup (.cons (.tup (.cons (.int 0) (.cons (.int 1) .nil))) .nil)) .nil)) (.cons (.tup (.cons (.tup (.cons (.tup (.cons (.int 0) (.cons (.int 1) .nil))) (.cons (.tup (.cons (.int 1) (.cons (.bl true) .nil))) .nil))) .nil)) .nil))))))))))) (.cons (.asg (.name 7) (.lv (.disp (.cons (.callK 32 (.nil) (.cons (.call 43 (.cons (.var 4) .nil)) (.cons (.var 2) .nil)) [1, 0]) (.cons (.lv (.comp (.callK 31 (.nil) (.cons (.var 16) .nil) [0]) (.name 16) (.seq (.var 6)) (.none) [16])) .nil))))) (.cons (.ife (.not (.tru (.call 44 (.cons (.var 7) (.cons (.lv (.disp (.cons (.var 5) (.cons (.bin .Add (.lv (.disp (.cons (.bl true) .nil))) (.bin .Mult (.lv (.disp (.cons (.bl false) .nil))) (.int 7))) .nil)))) .nil))))) (.cons (.ret (.bl false)) .nil) (.nil)) (.cons (.asg (.name 8) (.tup (.cons (.tup (.cons (.tup (.cons (.neg (.int 16)) (.cons (.int 1) .nil))) (.cons (.tup (.cons (.int 16) (.cons (.int 1) .nil))) .nil))) .nil))) (.cons (.asg (.name 7) (.lv (.disp (.cons (.call 64 (.cons (.fn 35) (.cons (.tup (.cons (.call 57 (.cons (.int 2) .nil)) (.cons (.bin .Mult (.var 8) (.int 2)) (.cons (.tup (.cons (.int 0) (.cons (.int 0) .nil))) .nil)))) .nil))) (.cons (.call 34 (.cons (.call 57 (.cons (.int 2) .nil)) (.cons (.bin .Mult (.var 8) (.int 2)) (.cons (.tup (.cons (.int 0) (.cons (.int 0) .nil))) .nil)))) (.cons (.blt .len (.cons (.call 35 (.cons (.call 57 (.cons (.int 1) .nil)) (.cons (.tup (.cons (.tup (.cons (.tup (.cons (.int 0) (.cons (.int 1) .nil))) (.cons (.tup (.cons (.int 999) (.cons (.int 1) .nil))) .nil))) .nil)) (.cons (.tup (.cons (.int 5) .nil)) .nil)))) .nil)) .nil)))))) (.cons (.asg (.name 7) (.bin .Add (.var 7) (.lv (.disp (.cons (.call 64 (.cons (.fn 32) (.cons (.tup (.cons (.int 2) (.cons (.tup (.cons (.neg (.int 1)) (.cons (.int 2) .nil))) .nil))) .nil))) (.cons (.call 64 (.cons (.fn 32) (.cons (.tup (.cons (.int 0) (.cons (.tup (.cons (.int 1) (.cons (.int 2) .nil))) .nil))) .nil))) (.cons (.call 64 (.cons (.fn 35) (.cons (.tup (.cons (.call 57 (.cons (.int 2) .nil)) (.cons (.var 8) (.cons (.tup (.cons (.int 0) (.cons (.int 0) .nil))) .nil)))) .nil))) (.cons (.call 64 (.cons (.fn 37) (.cons (.tup (.cons (.call 57 (.cons (.int 2) .nil)) (.cons (.tup (.cons (.int 0) (.cons (.int 0) .nil))) (.cons (.tup (.cons (.int 0) .nil)) .nil)))) .nil))) .nil)))))))) (.cons (.ret (.call 44 (.cons (.var 7) (.cons (.bin .Add (.lv (.disp (.cons (.lv (.disp (.cons (.str "many") (.cons (.bl true) .nil)))) (.cons (.int 1089) (.cons (.int 1000) .nil))))) (.bin .Mult (.lv (.disp (.cons (.lv (.disp (.cons (.str "unfit") (.cons (.bl true) .nil)))) .nil))) (.int 4))) .nil)))) .nil)))))))))))), rm := false }
def i67 : DI := ⟨c67, ["script", "tin", "many", "lap", "bound_so", "around_so", "odd_so", "got", "wide_so", "table_so", "window_so", "row_so", "point_so", "near_so", "others_so", "offs_so", "own", "k"], ["script"], ⟨("law", none), "law", "law", defArgs (top 77), defBody (top 77), defScope (top 77), [], []⟩⟩
def t : Txt := ⟨[i0, i1, i2, i3, i4, i5, i6, i7, i8, i9, i10, i11, i12, i13, i14, i15, i16, i17, i18, i19, i20, i21, i22, i23, i24, i25, i26, i27, i28, i29, i30, i31, i32, i33, i34, i35, i36, i37, i38, i39, i40, i41, i42, i43, i44, i45, i46, i47, i48, i49, i50, i51, i52, i53, i54, i55, i56, i57, i58, i59, i60, i61, i62, i63, i64, i65, i66, i67], ["TooMany", "Unfit"], [("NOUGHT", .tup [.int (0), .int (1)]), ("MOST_NEAR", .int (1000))], ["ValueError", "abs", "all", "bool", "enumerate", "int", "isinstance", "len", "list", "max", "range", "str", "tuple", "zip"], [(34, 0, ["row", "table", "window"], [1, 2, 0]), (37, 0, ["table", "row", "other"], [0, 1, 2]), (32, 0, ["bound", "many"], [1, 0]), (31, 0, ["thing"], [0])]⟩
theorem okDefs : t.L.all t.okDI = true := by decide +kernel
abbrev Bnd (i : DI) : Prop := ∀ (kV doc pm : Value) (an : Option Addr) (cdv ct : Value) (us : List Value), us.length = i.ps.length → bindArgs (PySem.W.fnOf i.d.name i.d.qual i.d.params i.d.body i.d.scope .none kV doc pm an cdv ct) ⟨us, []⟩ = pure (i.ps.zip us)
abbrev Bkw (n : Nat) (ks : List Str) (p : List Nat) (i : DI) : Prop := ∀ (kV doc pm : Value) (an : Option Addr) (cdv ct : Value) (us ws zs : List Value), us.length = n → ws.length = ks.length → pickL (us ++ ws) p = some zs → zs.length = i.ps.length → bindArgs (PySem.W.fnOf i.d.name i.d.qual i.d.params i.d.body i.d.scope .none kV doc pm an cdv ct) ⟨us, ks.zip ws⟩ = pure (i.ps.zip zs)
theorem b0 : Bnd i0 := fun _ _ _ _ _ _ us hl => match us, hl with | [_], _ => rfl
theorem b1 : Bnd i1 := fun _ _ _ _ _ _ us hl => match us, hl with | [_, _], _ => rfl
theorem b2 : Bnd i2 := fun _ _ _ _ _ _ us hl => match us, hl with | [_, _], _ => rfl
theorem b3 : Bnd i3 := fun _ _ _ _ _ _ us hl => match us, hl with | [_], _ => rfl
theorem b4 : Bnd i4 := fun _ _ _ _ _ _ us hl => match us, hl with | [_], _ => rfl
theorem b5 : Bnd i5 := fun _ _ _ _ _ _ us hl => match us, hl with | [_, _], _ => rfl
theorem b6 : Bnd i6 := fun _ _ _ _ _ _ us hl => match us, hl with | [_], _ => rfl
theorem b7 : Bnd i7 := fun _ _ _ _ _ _ us hl => match us, hl with | [_], _ => rfl
theorem b8 : Bnd i8 := fun _ _ _ _ _ _ us hl => match us, hl with | [_, _], _ => rfl
theorem b9 : Bnd i9 := fun _ _ _ _ _ _ us hl => match us, hl with | [_, _], _ => rfl
theorem b10 : Bnd i10 := fun _ _ _ _ _ _ us hl => match us, hl with | [_, _], _ => rfl
theorem b11 : Bnd i11 := fun _ _ _ _ _ _ us hl => match us, hl with | [_], _ => rfl
theorem b12 : Bnd i12 := fun _ _ _ _ _ _ us hl => match us, hl with | [_], _ => rfl
theorem b13 : Bnd i13 := fun _ _ _ _ _ _ us hl => match us, hl with | [_, _], _ => rfl
theorem b14 : Bnd i14 := fun _ _ _ _ _ _ us hl => match us, hl with | [_], _ => rfl
theorem b15 : Bnd i15 := fun _ _ _ _ _ _ us hl => match us, hl with | [_], _ => rfl
theorem b16 : Bnd i16 := fun _ _ _ _ _ _ us hl => match us, hl with | [_], _ => rfl
theorem b17 : Bnd i17 := fun _ _ _ _ _ _ us hl => match us, hl with | [_], _ => rfl
theorem b18 : Bnd i18 := fun _ _ _ _ _ _ us hl => match us, hl with | [_], _ => rfl
theorem b19 : Bnd i19 := fun _ _ _ _ _ _ us hl => match us, hl with | [_], _ => rfl
theorem b20 : Bnd i20 := fun _ _ _ _ _ _ us hl => match us, hl with | [_, _], _ => rfl
theorem b21 : Bnd i21 := fun _ _ _ _ _ _ us hl => match us, hl with | [_, _], _ => rfl
theorem b22 : Bnd i22 := fun _ _ _ _ _ _ us hl => match us, hl with | [_, _], _ => rfl
theorem b23 : Bnd i23 := fun _ _ _ _ _ _ us hl => match us, hl with | [_], _ => rfl
theorem b24 : Bnd i24 := fun _ _ _ _ _ _ us hl => match us, hl with | [_, _], _ => rfl
theorem b25 : Bnd i25 := fun _ _ _ _ _ _ us hl => match us, hl with | [_, _], _ => rfl
theorem b26 : Bnd i26 := fun _ _ _ _ _ _ us hl => match us, hl with | [_, _], _ => rfl
theorem b27 : Bnd i27 := fun _ _ _ _ _ _ us hl => match us, hl with | [_, _], _ => rfl
theorem b28 : Bnd i28 := fun _ _ _ _ _ _ us hl => match us, hl with | [_, _], _ => rfl
theorem b29 : Bnd i29 := fun _ _ _ _ _ _ us hl => match us, hl with | [_, _, _], _ => rfl
theorem b30 : Bnd i30 := fun _ _ _ _ _ _ us hl => match us, hl with | [_, _], _ => rfl
theorem b31 : Bnd i31 := fun _ _ _ _ _ _ us hl => match us, hl with | [_], _ => rfl
theorem b32 : Bnd i32 := fun _ _ _ _ _ _ us hl => match us, hl with | [_, _], _ => rfl
theorem b33 : Bnd i33 := fun _ _ _ _ _ _ us hl => match us, hl with | [_, _, _], _ => rfl
theorem b34 : Bnd i34 := fun _ _ _ _ _ _ us hl => match us, hl with | [_, _, _], _ => rfl
theorem b35 : Bnd i35 := fun _ _ _ _ _ _ us hl => match us, hl with | [_, _, _], _ => rfl
theorem b36 : Bnd i36 := fun _ _ _ _ _ _ us hl => match us, hl with | [_, _, _, _], _ => rfl
theorem b37 : Bnd i37 := fun _ _ _ _ _ _ us hl => match us, hl with | [_, _, _], _ => rfl
theorem b38 : Bnd i38 := fun _ _ _ _ _ _ us hl => match us, hl with | [_, _, _], _ => rfl
theorem b39 : Bnd i39 := fun _ _ _ _ _ _ us hl => match us, hl with | [_, _], _ => rfl
theorem b40 : Bnd i40 := fun _ _ _ _ _ _ us hl => match us, hl with | [_, _], _ => rfl
theorem b41 : Bnd i41 := fun _ _ _ _ _ _ us hl => match us, hl with | [_, _], _ => rfl
theorem b42 : Bnd i42 := fun _ _ _ _ _ _ us hl => match us, hl with | [_, _], _ => rfl
theorem b43 : Bnd i43 := fun _ _ _ _ _ _ us hl => match us, hl with | [_], _ => rfl
theorem b44 : Bnd i44 := fun _ _ _ _ _ _ us hl => match us, hl with | [_, _], _ => rfl
theorem b45 : Bnd i45 := fun _ _ _ _ _ _ us hl => match us, hl with | [_], _ => rfl
theorem b46 : Bnd i46 := fun _ _ _ _ _ _ us hl => match us, hl with | [_], _ => rfl
theorem b47 : Bnd i47 := fun _ _ _ _ _ _ us hl => match us, hl with | [_, _], _ => rfl
theorem b48 : Bnd i48 := fun _ _ _ _ _ _ us hl => match us, hl with | [_, _, _], _ => rfl
theorem b49 : Bnd i49 := fun _ _ _ _ _ _ us hl => match us, hl with | [_, _], _ => rfl
theorem b50 : Bnd i50 := fun _ _ _ _ _ _ us hl => match us, hl with | [_, _], _ => rfl
theorem b51 : Bnd i51 := fun _ _ _ _ _ _ us hl => match us, hl with | [_, _], _ => rfl
theorem b52 : Bnd i52 := fun _ _ _ _ _ _ us hl => match us, hl with | [_, _], _ => rfl
theorem b53 : Bnd i53 := fun _ _ _ _ _ _ us hl => match us, hl with | [_, _], _ => rfl
theorem b54 : Bnd i54 := fun _ _ _ _ _ _ us hl => match us, hl with | [_], _ => rfl
theorem b55 : Bnd i55 := fun _ _ _ _ _ _ us hl => match us, hl with | [_, _], _ => rfl
theorem b56 : Bnd i56 := fun _ _ _ _ _ _ us hl => match us, hl with | [_, _], _ => rfl
theorem b57 : Bnd i57 := fun _ _ _ _ _ _ us hl => match us, hl with | [_], _ => rfl
theorem b58 : Bnd i58 := fun _ _ _ _ _ _ us hl => match us, hl with | [_, _], _ => rfl
theorem b59 : Bnd i59 := fun _ _ _ _ _ _ us hl => match us, hl with | [_, _], _ => rfl
theorem b60 : Bnd i60 := fun _ _ _ _ _ _ us hl => match us, hl with | [_, _], _ => rfl
theorem b61 : Bnd i61 := fun _ _ _ _ _ _ us hl => match us, hl with | [], _ => rfl
theorem b62 : Bnd i62 := fun _ _ _ _ _ _ us hl => match us, hl with | [_, _], _ => rfl
theorem b63 : Bnd i63 := fun _ _ _ _ _ _ us hl => match us, hl with | [_, _, _], _ => rfl
theorem b64 : Bnd i64 := fun _ _ _ _ _ _ us hl => match us, hl with | [_, _], _ => rfl
theorem b65 : Bnd i65 := fun _ _ _ _ _ _ us hl => match us, hl with | [_, _, _], _ => rfl
theorem b66 : Bnd i66 := fun _ _ _ _ _ _ us hl => match us, hl with | [_], _ => rfl
theorem b67 : Bnd i67 := fun _ _ _ _ _ _ us hl => match us, hl with | [_], _ => rfl
theorem kw0 : Bkw 0 ["row", "table", "window"] [1, 2, 0] i34 := fun _ _ _ _ _ _ us ws zs h1 h2 h3 _ => match us, ws, h1, h2, h3 with | [], [_, _, _], _, _, h3 => by cases h3; rfl
theorem kw1 : Bkw 0 ["table", "row", "other"] [0, 1, 2] i37 := fun _ _ _ _ _ _ us ws zs h1 h2 h3 _ => match us, ws, h1, h2, h3 with | [], [_, _, _], _, _, h3 => by cases h3; rfl
theorem kw2 : Bkw 0 ["bound", "many"] [1, 0] i32 := fun _ _ _ _ _ _ us ws zs h1 h2 h3 _ => match us, ws, h1, h2, h3 with | [], [_, _], _, _, h3 => by cases h3; rfl
theorem kw3 : Bkw 0 ["thing"] [0] i31 := fun _ _ _ _ _ _ us ws zs h1 h2 h3 _ => match us, ws, h1, h2, h3 with | [], [_], _, _, h3 => by cases h3; rfl
theorem binds : ∀ i ∈ t.L, Bnd i := List.forall_mem_cons.mpr ⟨b0, List.forall_mem_cons.mpr ⟨b1, List.forall_mem_cons.mpr ⟨b2, List.forall_mem_cons.mpr ⟨b3, List.forall_mem_cons.mpr ⟨b4, List.forall_mem_cons.mpr ⟨b5, List.forall_mem_cons.mpr ⟨b6, List.forall_mem_cons.mpr ⟨b7, List.forall_mem_cons.mpr ⟨b8, List.forall_mem_cons.mpr ⟨b9, List.forall_mem_cons.mpr ⟨b10, List.forall_mem_cons.mpr ⟨b11, List.forall_mem_cons.mpr ⟨b12, List.forall_mem_cons.mpr ⟨b13, List.forall_mem_cons.mpr ⟨b14, List.forall_mem_cons.mpr ⟨b15, List.forall_mem_cons.mpr ⟨b16, List.forall_mem_cons.mpr ⟨b17, List.forall_mem_cons.mpr ⟨b18, List.forall_mem_cons.mpr ⟨b19, List.forall_mem_cons.mpr ⟨b20, List.forall_mem_cons.mpr ⟨b21, List.forall_mem_cons.mpr ⟨b22, List.forall_mem_cons.mpr ⟨b23, List.forall_mem_cons.mpr ⟨b24, List.forall_mem_cons.mpr ⟨b25, List.forall_mem_cons.mpr ⟨b26, List.forall_mem_cons.mpr ⟨b27, List.forall_mem_cons.mpr ⟨b28, List.forall_mem_cons.mpr ⟨b29, List.forall_mem_cons.mpr ⟨b30, List.forall_mem_cons.mpr ⟨b31, List.forall_mem_cons.mpr ⟨b32, List.forall_mem_cons.mpr ⟨b33, List.forall_mem_cons.mpr ⟨b34, List.forall_mem_cons.mpr ⟨b35, List.forall_mem_cons.mpr ⟨b36, List.forall_mem_cons.mpr ⟨b37, List.forall_mem_cons.mpr ⟨b38, List.forall_mem_cons.mpr ⟨b39, List.forall_mem_cons.mpr ⟨b40, List.forall_mem_cons.mpr ⟨b41, List.forall_mem_cons.mpr ⟨b42, List.forall_mem_cons.mpr ⟨b43, List.forall_mem_cons.mpr ⟨b44, List.forall_mem_cons.mpr ⟨b45, List.forall_mem_cons.mpr ⟨b46, List.forall_mem_cons.mpr ⟨b47, List.forall_mem_cons.mpr ⟨b48, List.forall_mem_cons.mpr ⟨b49, List.forall_mem_cons.mpr ⟨b50, List.forall_mem_cons.mpr ⟨b51, List.forall_mem_cons.mpr ⟨b52, List.forall_mem_cons.mpr ⟨b53, List.forall_mem_cons.mpr ⟨b54, List.forall_mem_cons.mpr ⟨b55, List.forall_mem_cons.mpr ⟨b56, List.forall_mem_cons.mpr ⟨b57, List.forall_mem_cons.mpr ⟨b58, List.forall_mem_cons.mpr ⟨b59, List.forall_mem_cons.mpr ⟨b60, List.forall_mem_cons.mpr ⟨b61, List.forall_mem_cons.mpr ⟨b62, List.forall_mem_cons.mpr ⟨b63, List.forall_mem_cons.mpr ⟨b64, List.forall_mem_cons.mpr ⟨b65, List.forall_mem_cons.mpr ⟨b66, List.forall_mem_cons.mpr ⟨b67, fun _ h => nomatch h⟩⟩⟩⟩⟩⟩⟩⟩⟩⟩⟩⟩⟩⟩⟩⟩⟩⟩⟩⟩⟩⟩⟩⟩⟩⟩⟩⟩⟩⟩⟩⟩⟩⟩⟩⟩⟩⟩⟩⟩⟩⟩⟩⟩⟩⟩⟩⟩⟩⟩⟩⟩⟩⟩⟩⟩⟩⟩⟩⟩⟩⟩⟩⟩⟩⟩⟩⟩
theorem kws : ∀ e ∈ t.kws, ∀ i, t.L[e.1]? = some i → Bkw e.2.1 e.2.2.1 e.2.2.2 i := List.forall_mem_cons.mpr ⟨fun i h => by cases h; exact kw0, List.forall_mem_cons.mpr ⟨fun i h => by cases h; exact kw1, List.forall_mem_cons.mpr ⟨fun i h => by cases h; exact kw2, List.forall_mem_cons.mpr ⟨fun i h => by cases h; exact kw3, fun _ h => nomatch h⟩⟩⟩⟩
theorem ok : t.Ok := ⟨okDefs, by decide +kernel, binds, kws⟩
end K3
namespace K3
open PySem PySem.Spec PyProof.Rows L2 Dx
def lo0 : List Str := ["TooMany", "Unfit", "is_number", "is_from", "is_long", "are_numbers", "tupled", "common_divisor", "NOUGHT", "is_fraction_in", "sure_fraction", "reduced", "plus", "less", "contrary", "size", "is_at_most", "floor_in", "ceiling_in", "greatest_of", "sum_in", "is_table_in", "sure_table", "is_row_in", "sure_row", "image_in", "MOST_NEAR", "is_window_in", "sure_window", "around_in"]
def lo1 : List Str := ["ends_in", "how_many_in", "near_in", "is_near_in", "off_in", "is_window", "window_around", "sure_asked", "how_many_near", "rows_near", "is_near", "off_by", "far_by", "_law_box", "_law_take", "_law_cells", "_law_of", "_law_lists", "_law_same", "_law_unmarked", "_law_spoil", "_law_call", "_law_told_anew", "_law_cut", "_law_plus", "_law_by", "_law_less", "_law_up_to", "_law_sum", "_law_image"]
def lo2 : List Str := ["_law_product", "_law_unit", "_law_ends", "_law_near", "_law_fraction", "_law_turns", "_law_table", "_law_window", "_law_heard", "_law_offs", "_law_greatest"]
def loose : List Str := lo0 ++ lo1 ++ lo2
abbrev Row0 : PySem.W.OpenRow := PySem.W.OpenLaw.row PySem.Challenge.rw_wholenear_k03_whole_windows
theorem run (w : World) : HandSHeadRun.RunEq Row0 (PySem.W.view Row0.prog [77]) (t.hk 4) (t.ob 4) 6000 loose w := by
  intro os
  kernel_rfl
theorem law_of (ok1 : ∀ l : List Int, l.length ≤ 63 → ∃ m, t.call 60 67 [scrD l] [] = .ok (.bl true) m) : PySem.Challenge.rw_wholenear_k03_whole_windows.Holds := by
  w_on; o_law
  refine HandSHeadRun.head_any (r := PySem.W.OpenLaw.row PySem.Challenge.rw_wholenear_k03_whole_windows) (q := PySem.W.view (PySem.W.OpenLaw.row PySem.Challenge.rw_wholenear_k03_whole_windows).prog [77]) (H := t.hk 4) (ob := t.ob 4) (M := 6000) (loose := loose) (d := HandSHeadRun.topDef (PySem.W.OpenLaw.row PySem.Challenge.rw_wholenear_k03_whole_windows).prog 77) (kwd := []) (t.ob_eq 4)
    (by kernel_rfl) (fun s => by kernel_rfl) run (by kernel_rfl) (by kernel_rfl) (by kernel_rfl) (by rfl) (by first | assumption | decide +kernel) (by decide +kernel) ⟨rfl, rfl, rfl, rfl, rfl, by decide +kernel⟩ ?hw ?hc
  case hw => w_witness2
  case hc => exact law_end (l := PySem.Challenge.rw_wholenear_k03_whole_windows) (n := 63) (k := 60) (i := 67) (t := t) (x := "script") (Di := i67) ok rfl rfl (by kernel_rfl) rfl (by decide) (by kernel_rfl) ⟨rfl, by decide, by decide⟩ ok1
end K3
namespace K3
open PySem Dx
def cf (k : Nat) (m : M) : Cfg := ⟨t.call k, t.glob, m.length, 68, 2⟩
@[simp] theorem cf_call (k : Nat) (m : M) : (cf k m).call = t.call k := (rfl)
@[simp] theorem cf_glob (k : Nat) (m : M) : (cf k m).glob = t.glob := (rfl)
@[simp] theorem cf_base (k : Nat) (m : M) : (cf k m).base = m.length := (rfl)
@[simp] theorem cf_nf (k : Nat) (m : M) : (cf k m).nf = 68 := (rfl)
@[simp] theorem cf_nc (k : Nat) (m : M) : (cf k m).nc = 2 := (rfl)
theorem call_S {f k : Nat} {ds : List D} {m : M} (d : CDef) (hd : t.defs[f]? = some d) (hl : ds.length = d.np) :
    t.call (k + 1) f ds m = endC d.rm m.length (evSs (cf k m) d.body (ds.map some ++ List.replicate (d.ns - d.np) none) m) := by
  show callF t.defs t.glob 2 (k + 1) f ds m = _
  unfold callF
  rw [hd]
  dsimp only
  rw [if_pos hl]
  show (match evSs (cf k m) _ _ _ with | .ret v m' => _ | .nx _ m' => _ | .err x _ m' => _ | _ => _) = _
  cases evSs (cf k m) d.body (ds.map some ++ List.replicate (d.ns - d.np) none) m <;> rfl
theorem seq_nx {c : Cfg} {s : CS} {ss : CSs} {e e' : Env'} {m m' : M} (h : evS c s e m = .nx e' m') : evSs c (.cons s ss) e m = evSs c ss e' m' := by
  show (match evS c s e m with | .nx e m => evSs c ss e m | r => r) = _
  rw [h]
abbrev I (a : Int) : D := .int a
abbrev F (p q : Int) : D := .tup [.int p, .int q]
abbrev B (b : Bool) : D := .bl b
abbrev tru : D := .bl true
/-! ### sizes -/
def Sz (n : Nat) (a : Int) : Prop := a.natAbs < 2 ^ n
theorem Sz.mono {n k : Nat} {a : Int} (h : Sz n a) (hk : n ≤ k) : Sz k a := Nat.lt_of_lt_of_le h (Nat.pow_le_pow_right (by decide) hk)
theorem Sz.mul {n k : Nat} {a b : Int} (h : Sz n a) (w : Sz k b) : Sz (n + k) (a * b) := by
  unfold Sz at *
  rw [Int.natAbs_mul, Nat.pow_add]
  exact Nat.mul_lt_mul'' h w
theorem Sz.add {n k : Nat} {a b : Int} (h : Sz n a) (w : Sz k b) : Sz (max n k + 1) (a + b) := by
  have h := h.mono (Nat.le_max_left n k); have w := w.mono (Nat.le_max_right n k)
  unfold Sz at *
  have := Int.natAbs_add_le a b
  rw [Nat.pow_succ]; omega
theorem Sz.neg {n : Nat} {a : Int} (h : Sz n a) : Sz n (-a) := by unfold Sz at *; omega
theorem Sz.sub {n k : Nat} {a b : Int} (h : Sz n a) (w : Sz k b) : Sz (max n k + 1) (a - b) := by
  have := h.add w.neg
  rwa [← Int.sub_eq_add_neg] at this
theorem log_le {n x : Nat} (h : x < 2 ^ n) : x.log2 ≤ n := by
  by_cases h0 : x = 0
  · subst h0; simp
  · exact Nat.le_of_lt ((Nat.log2_lt h0).mpr h)
theorem mul_ok {n k : Nat} {a b : Int} (h : Sz n a) (w : Sz k b) (hn : n + k < 1000000) : mulOk a b = true := by
  have h1 := log_le h; have h2 := log_le w
  unfold mulOk
  rw [show decide (a.natAbs.log2 + b.natAbs.log2 < 1000000) = true from decide_eq_true (by omega)]
  simp
abbrev Small (a : Int) : Prop := -(2 ^ 62) ≤ a ∧ a ≤ 2 ^ 62
theorem mul_l {i j : Int} (h : Small i) : mulOk i j = true := by
  have := h.1; have := h.2
  unfold mulOk
  rw [show decide (-(2 ^ 64) < i) = true from decide_eq_true (by omega), show decide (i < 2 ^ 64) = true from decide_eq_true (by omega)]
  rfl
theorem mul_r {i j : Int} (h : Small j) : mulOk i j = true := by
  have := h.1; have := h.2
  unfold mulOk
  rw [show decide (-(2 ^ 64) < j) = true from decide_eq_true (by omega), show decide (j < 2 ^ 64) = true from decide_eq_true (by omega)]
  simp
theorem div_sz {j : Int} (h0 : 0 < j) (h : Sz 8500 j) : divOk j = true := by
  have : j.natAbs.log2 < 9000 := by
    rw [Nat.log2_lt (by omega)]
    exact Nat.lt_of_lt_of_le h (Nat.pow_le_pow_right (by decide) (by decide))
  unfold divOk
  rw [decide_eq_true h0, decide_eq_true this]; rfl
theorem small_sz {a : Int} (h : Small a) : Sz 63 a := by
  have := h.1; have := h.2
  unfold Sz; omega
theorem div_ok {j : Int} (h0 : 0 < j) (h : Small j) : divOk j = true := div_sz h0 ((small_sz h).mono (by omega))
theorem abs_nat (a : Int) : (if a < 0 then -a else a) = (a.natAbs : Int) := by
  split <;> omega
/-! ### numbers -/
theorem num_int (k : Nat) (a : Int) (m : M) : t.call (k + 1) 0 [I a] m = .ok tru m := by
  rw [call_S c0 rfl rfl]
  simp [c0]
theorem long_tup (k : Nat) (xs : List D) (n : Int) (m : M) : t.call (k + 1) 2 [.tup xs, I n] m = .ok (B (decide ((xs.length : Int) = n))) m := by
  rw [call_S c2 rfl rfl]
  simp [c2]
theorem long_lst (k : Nat) (xs : List D) (n : Int) (m : M) : t.call (k + 1) 2 [.lst xs, I n] m = .ok (B false) m := by
  rw [call_S c2 rfl rfl]
  simp [c2]
/-- the loop of both divisor functions -/
theorem gcd_loop {T : Env' → M → Res Bool} {b : Env' → M → SRes} {E : Int → Int → Env'} {m : M} (hT : ∀ x y, T (E x y) m = .ok (decide (0 < y)) m) (hb : ∀ x y, 0 < y → b (E x y) m = .nx (E y (x % y)) m) :
    ∀ (n : Nat) (x y : Nat), y < n → whileN T b n (E x y) m = .nx (E (Nat.gcd x y : Nat) 0) m
  | 0, x, y, h => by omega
  | n + 1, x, y, h => by
    unfold whileN
    rw [hT]
    by_cases hy : y = 0
    · subst hy
      simp
    · have hp : (0 : Int) < y := by omega
      have hl : x % y < y := Nat.mod_lt _ (by omega)
      have ih := gcd_loop hT hb n y (x % y) (by omega)
      have e : ((x : Int) % (y : Int)) = ((x % y : Nat) : Int) := by omega
      simp only [hp, decide_true, hb _ _ hp]
      rw [e, ih, Nat.gcd_comm x y, Nat.gcd_rec y x, Nat.gcd_comm]
theorem whileMost_big {n : Nat} (h : n < 2 ^ 8500) : n < whileMost := Nat.lt_of_lt_of_le h (Nat.pow_le_pow_right (by decide) (by decide))
def g (a b : Int) : Int := (Int.gcd a b : Nat)
theorem cd (k : Nat) (a b : Int) (m : M) (h : Sz 8500 b) : t.call (k + 1) 5 [I a, I b] m = .ok (I (g a b)) m := by
  rw [call_S c5 rfl rfl]
  have L := gcd_loop (m := m) (T := evT (cf k m) (.cmp .Gt (.var 1) (.int 0))) (b := evSs (cf k m) (.cons (.par2 0 1 (.var 1) (.bin .Mod (.var 0) (.var 1))) .nil)) (E := fun x y => [some (I x), some (I y)])
    (fun x y => by simp ) (fun x y hy => by simp [hy]) whileMost a.natAbs b.natAbs (whileMost_big h)
  refine (congrArg (endC false m.length) ?_).trans (b := endC false m.length (.ret (I (g a b)) m)) (by simp)
  show evSs (cf k m) c5.body [some (I a), some (I b)] m = _
  refine (seq_nx (e' := [some (I a.natAbs), some (I b.natAbs)]) (m' := m) (by simp [abs_nat])).trans ?_
  refine (seq_nx (s := .while_ (.cmp .Gt (.var 1) (.int 0)) (.cons (.par2 0 1 (.var 1) (.bin .Mod (.var 0) (.var 1))) .nil)) (e' := [some (I (g a b)), some (I 0)]) (m' := m) L).trans ?_
  simp 
/-! ### fractions -/
/-- a fraction as data -/
def qD (x : Rat) : D := .tup [.int x.num, .int x.den]
/-- at most n bits above and below -/
def Bq (n : Nat) (x : Rat) : Prop := Sz n x.num ∧ x.den < 2 ^ n
theorem Bq.mono {n k : Nat} {x : Rat} (h : Bq n x) (hk : n ≤ k) : Bq k x := ⟨h.1.mono hk, Nat.lt_of_lt_of_le h.2 (Nat.pow_le_pow_right (by decide) hk)⟩
theorem Bq.den {n : Nat} {x : Rat} (h : Bq n x) : Sz n (x.den : Int) := h.2
def sg (l : Int) : Int := if 0 < l then 1 else -1
theorem g_pos {u l : Int} (h : l ≠ 0) : 0 < g u l := by
  have := Int.gcd_pos_of_ne_zero_right u h
  unfold g; omega
theorem g_sz {u l : Int} {n : Nat} (h : l ≠ 0) (hs : Sz n l) : Sz n (g u l) := by
  have h1 := Int.gcd_le_natAbs_right u h
  unfold g Sz at *
  omega
theorem sg_sign {l : Int} (h : l ≠ 0) : l.sign = sg l := by
  unfold sg
  split
  · rename_i p; exact Int.sign_eq_one_of_pos p
  · exact Int.sign_eq_neg_one_of_neg (by omega)
theorem divInt_n (u : Int) {l : Int} (h : l ≠ 0) : (Rat.divInt u l).num = sg l * u / g u l := by
  rw [Rat.num_divInt, sg_sign h, Int.gcd_comm]; rfl
theorem divInt_d (u : Int) {l : Int} (h : l ≠ 0) : ((Rat.divInt u l).den : Int) = sg l * l / g u l := by
  rw [Rat.den_divInt, if_neg h, Int.gcd_comm, Int.natCast_ediv]
  have : (l.natAbs : Int) = sg l * l := by unfold sg; split <;> omega
  rw [this]; rfl
theorem Bq.divInt {n : Nat} {u l : Int} (hu : Sz n u) (hl : Sz n l) (h0 : l ≠ 0) : Bq n (Rat.divInt u l) := by
  have hg : 0 < Int.gcd l u := Int.gcd_pos_of_ne_zero_left u h0
  constructor
  · rw [Rat.num_divInt]
    unfold Sz at *
    have e : (l.sign * u / (Int.gcd l u : Int)).natAbs ≤ (l.sign * u).natAbs := by
      rcases Int.natAbs_eq (l.sign * u) with q | q
      all_goals
        have := Int.natAbs_ediv_le_natAbs (l.sign * u) (Int.gcd l u : Int)
        exact this
    have e2 : (l.sign * u).natAbs ≤ u.natAbs := by
      rw [Int.natAbs_mul, Int.natAbs_sign_of_ne_zero h0, Nat.one_mul]; exact Nat.le_refl _
    omega
  · rw [Rat.den_divInt, if_neg h0]
    exact Nat.lt_of_le_of_lt (Nat.div_le_self _ _) hl
theorem red_ (k : Nat) (u l : Int) (m : M) (hl : Sz 8500 l) (h0 : l ≠ 0) : t.call (k + 2) 8 [I u, I l] m = .ok (qD (Rat.divInt u l)) m := by
  rw [call_S c8 rfl rfl]
  have e1 := div_sz (g_pos (u := u) h0) (g_sz h0 hl)
  have m1 := fun j => mul_l (i := 1) (j := j) ⟨by omega, by omega⟩
  have m2 := fun j => mul_l (i := -1) (j := j) ⟨by omega, by omega⟩
  by_cases h : 0 < l <;> simp [c8, cd k u l m hl, qD, divInt_n u h0, divInt_d u h0, sg, h, e1, m1, m2]
theorem cut_ (k : Nat) (u l : Int) (m : M) (hl : Sz 8500 l) (h0 : l ≠ 0) : t.call (k + 1) 49 [I u, I l] m = .ok (qD (Rat.divInt u l)) m := by
  rw [call_S c49 rfl rfl]
  have e1 := div_sz (g_pos (u := u) h0) (g_sz h0 hl)
  have m1 := fun j => mul_l (i := 1) (j := j) ⟨by omega, by omega⟩
  have m2 := fun j => mul_l (i := -1) (j := j) ⟨by omega, by omega⟩
  have L := gcd_loop (m := m) (T := evT (cf k m) (.cmp .Gt (.var 4) (.int 0))) (b := evSs (cf k m) (.cons (.par2 3 4 (.var 4) (.bin .Mod (.var 3) (.var 4))) .nil)) (E := fun x y => [some (I u), some (I l), none, some (I x), some (I y)])
    (fun x y => by simp ) (fun x y hy => by simp [hy]) whileMost u.natAbs l.natAbs (whileMost_big hl)
  refine (congrArg (endC false m.length) ?_).trans (b := endC false m.length (.ret (qD (Rat.divInt u l)) m)) (by simp)
  show evSs (cf k m) c49.body [some (I u), some (I l), none, none, none] m = _
  refine (seq_nx (e' := [some (I u), some (I l), none, some (I u.natAbs), some (I l.natAbs)]) (m' := m) (by simp [abs_nat])).trans ?_
  refine (seq_nx (s := .while_ (.cmp .Gt (.var 4) (.int 0)) (.cons (.par2 3 4 (.var 4) (.bin .Mod (.var 3) (.var 4))) .nil)) (e' := [some (I u), some (I l), none, some (I (g u l)), some (I 0)]) (m' := m) L).trans ?_
  by_cases h : 0 < l <;> simp [qD, divInt_n u h0, divInt_d u h0, sg, h, e1, m1, m2]
end K3
namespace K3
open PySem Dx
/-! ### fractions: what the operations give -/
theorem add_dv (x y : Rat) : Rat.divInt (x.num * y.den + y.num * x.den) (x.den * y.den) = x + y := by
  rw [Rat.add_def', ← Rat.divInt_ofNat]; simp
theorem sub_dv (x y : Rat) : Rat.divInt (x.num * y.den - y.num * x.den) (x.den * y.den) = x - y := by
  rw [Rat.sub_def', ← Rat.divInt_ofNat]; simp
theorem mul_dv (x y : Rat) : Rat.divInt (x.num * y.num) (x.den * y.den) = x * y := by
  rw [Rat.mul_def', ← Rat.divInt_ofNat]; simp
theorem mulz_dv (x : Rat) (n : Int) : Rat.divInt (x.num * n) x.den = x * n := by
  rw [Rat.mul_def', ← Rat.divInt_ofNat]; simp
theorem div_dv (x y : Rat) (h : y ≠ 0) : Rat.divInt (x.num * y.den) (x.den * y.num) = x / y := by
  rw [Rat.div_def, Rat.inv_def]
  conv => rhs; rw [← Rat.num_divInt_den x]
  rw [Rat.divInt_mul_divInt]
theorem den_ne (x : Rat) : (x.den : Int) ≠ 0 := by have := x.den_nz; omega
theorem den_pos (x : Rat) : 0 < (x.den : Int) := by have := x.den_nz; omega
theorem dd_ne (x y : Rat) : (x.den : Int) * y.den ≠ 0 := Int.mul_ne_zero (den_ne x) (den_ne y)
theorem num_ne {x : Rat} (h : x ≠ 0) : x.num ≠ 0 := fun e => h (Rat.num_eq_zero.mp e)
section
variable {a b : Nat} {x y : Rat} (h : Bq a x) (w : Bq b y)
include h w
theorem Bq.nd : Sz (a + b) (x.num * y.den) := h.1.mul w.den
theorem Bq.dn : Sz (a + b) (y.num * x.den) := by rw [Nat.add_comm]; exact w.1.mul h.den
theorem Bq.dd : Sz (a + b) ((x.den : Int) * y.den) := h.den.mul w.den
theorem Bq.dn' : Sz (a + b) (x.den * y.num) := by rw [Int.mul_comm]; exact h.dn w
theorem Bq.nn : Sz (a + b) (x.num * y.num) := h.1.mul w.1
theorem Bq.add : Bq (a + b + 1) (x + y) := by
  rw [← add_dv]
  refine Bq.divInt ?_ ((h.dd w).mono (by omega)) (dd_ne x y)
  have := (h.nd w).add (h.dn w)
  rwa [Nat.max_self] at this
theorem Bq.sub : Bq (a + b + 1) (x - y) := by
  rw [← sub_dv]
  refine Bq.divInt ?_ ((h.dd w).mono (by omega)) (dd_ne x y)
  have := (h.nd w).sub (h.dn w)
  rwa [Nat.max_self] at this
theorem Bq.mul : Bq (a + b) (x * y) := by
  rw [← mul_dv]
  exact Bq.divInt (h.nn w) (h.dd w) (dd_ne x y)
theorem Bq.div (hy : y ≠ 0) : Bq (a + b) (x / y) := by
  rw [← div_dv x y hy]
  exact Bq.divInt (h.nd w) (h.dn' w) (Int.mul_ne_zero (den_ne x) (num_ne hy))
end
theorem Bq.neg {a : Nat} {x : Rat} (h : Bq a x) : Bq a (-x) := ⟨h.1.neg, h.2⟩
theorem Bq.int {n : Nat} {z : Int} (h : Sz n z) : Bq (n + 1) (z : Rat) := ⟨h.mono (by omega), by
  show 1 < 2 ^ (n + 1)
  have := Nat.one_le_two_pow (n := n)
  omega⟩
theorem Bq.mulz {a n : Nat} {x : Rat} {z : Int} (h : Bq a x) (hz : Sz n z) : Bq (a + n) (x * z) := by
  rw [← mulz_dv]
  exact Bq.divInt (h.1.mul hz) (h.den.mono (by omega)) (den_ne x)
theorem Bq.zero : Bq 1 (0 : Rat) := ⟨by unfold Sz; decide, by decide⟩
theorem Bq.one : Bq 1 (1 : Rat) := ⟨by unfold Sz; decide, by decide⟩
/-! the program's -/
section
variable {a b : Nat} {x y : Rat} (k : Nat) (m : M) (h : Bq a x) (w : Bq b y) (hb : a + b ≤ 8400)
include h w hb
theorem plus_ : t.call (k + 3) 9 [qD x, qD y] m = .ok (qD (x + y)) m := by
  have r := red_ k (x.num * y.den + y.num * x.den) (x.den * y.den) m ((h.dd w).mono (by omega)) (dd_ne x y)
  rw [add_dv] at r
  rw [call_S c9 rfl rfl]
  simp [c9, qD, mul_ok h.1 w.den (by omega), mul_ok w.1 h.den (by omega), mul_ok h.den w.den (by omega), r]
theorem less_ : t.call (k + 3) 10 [qD x, qD y] m = .ok (qD (x - y)) m := by
  have r := red_ k (x.num * y.den - y.num * x.den) (x.den * y.den) m ((h.dd w).mono (by omega)) (dd_ne x y)
  rw [sub_dv] at r
  rw [call_S c10 rfl rfl]
  simp [c10, qD, mul_ok h.1 w.den (by omega), mul_ok w.1 h.den (by omega), mul_ok h.den w.den (by omega), r]
theorem atmost_ : t.call (k + 1) 13 [qD x, qD y] m = .ok (B (decide (x ≤ y))) m := by
  rw [call_S c13 rfl rfl]
  simp [c13, qD, mul_ok h.1 w.den (by omega), mul_ok w.1 h.den (by omega), Rat.le_iff]
theorem lplus_ : t.call (k + 2) 50 [qD x, qD y] m = .ok (qD (x + y)) m := by
  have r := cut_ k (x.num * y.den + y.num * x.den) (x.den * y.den) m ((h.dd w).mono (by omega)) (dd_ne x y)
  rw [add_dv] at r
  rw [call_S c50 rfl rfl]
  simp [c50, qD, mul_ok h.1 w.den (by omega), mul_ok w.1 h.den (by omega), mul_ok h.den w.den (by omega), r]
theorem lby_ : t.call (k + 2) 51 [qD x, qD y] m = .ok (qD (x * y)) m := by
  have r := cut_ k (x.num * y.num) (x.den * y.den) m ((h.dd w).mono (by omega)) (dd_ne x y)
  rw [mul_dv] at r
  rw [call_S c51 rfl rfl]
  simp [c51, qD, mul_ok h.1 w.1 (by omega), mul_ok h.den w.den (by omega), r]
end
theorem contrary_ (k : Nat) (m : M) (x : Rat) : t.call (k + 1) 11 [qD x] m = .ok (qD (-x)) m := by
  rw [call_S c11 rfl rfl]
  simp [c11, qD]
theorem abs_n (x : Rat) : x.abs.num = x.num.natAbs := by
  unfold Rat.abs
  split
  · rename_i h; have := Rat.num_nonneg.mpr h; omega
  · rename_i h; have : ¬ 0 ≤ x.num := fun q => h (Rat.num_nonneg.mp q)
    rw [Rat.neg_num]; omega
theorem abs_d (x : Rat) : x.abs.den = x.den := by unfold Rat.abs; split <;> rfl
theorem Bq.abs {a : Nat} {x : Rat} (h : Bq a x) : Bq a x.abs := ⟨by rw [abs_n]; unfold Sz at *; exact h.1, by rw [abs_d]; exact h.2⟩
theorem size_ (k : Nat) (m : M) (x : Rat) : t.call (k + 1) 12 [qD x] m = .ok (qD x.abs) m := by
  rw [call_S c12 rfl rfl]
  simp [c12, qD, abs_n, abs_d]
theorem floor_ (k : Nat) (m : M) (x : Rat) {a : Nat} (h : Bq a x) (hb : a ≤ 8400) : t.call (k + 1) 14 [qD x] m = .ok (I x.floor) m := by
  rw [call_S c14 rfl rfl]
  simp [c14, qD, div_sz (den_pos x) (h.den.mono (by omega)), Rat.floor_def]
theorem ceil_ (k : Nat) (m : M) (x : Rat) {a : Nat} (h : Bq a x) (hb : a ≤ 8400) : t.call (k + 1) 15 [qD x] m = .ok (I x.ceil) m := by
  rw [call_S c15 rfl rfl]
  simp [c15, qD, div_sz (den_pos x) (h.den.mono (by omega)), Rat.ceil_eq_neg_floor_neg, Rat.floor_def]
theorem frac_in (k : Nat) (x : Rat) (m : M) {a : Nat} (h : Bq a x) (hb : a ≤ 8400) : t.call (k + 2) 6 [qD x] m = .ok tru m := by
  have h1 : g x.num x.den = 1 := by
    have := x.reduced
    unfold g Int.gcd
    rw [Int.natAbs_natCast]
    exact congrArg Int.ofNat this
  have hq := den_pos x
  have hq' : 1 ≤ (x.den : Int) := by omega
  rw [call_S c6 rfl rfl]
  simp [c6, qD, long_tup, num_int, cd k x.num x.den m (h.den.mono (by omega)), h1, hq']
end K3
namespace K3
open PySem Dx
/-! ### plain data: the same as itself; as lists, as tuples -/
mutual
/-- plain data, at most n deep -/
def plainD : Nat → D → Bool
  | _, .non | _, .bl _ | _, .int _ => true
  | _, .str x => PyData.strOk x
  | n + 1, .tup xs => plainDs n xs && decide (xs.length ≤ 1000000)
  | n + 1, .lst xs => plainDs n xs && decide (xs.length ≤ 1000000)
  | _, _ => false
def plainDs : Nat → List D → Bool
  | _, [] => true
  | n, x :: xs => plainD n x && plainDs n xs
end
@[simp] theorem plain_n (n : Nat) : plainD n .non = true := by cases n <;> rfl
@[simp] theorem plain_b (n : Nat) (b : Bool) : plainD n (.bl b) = true := by cases n <;> rfl
@[simp] theorem plain_i (n : Nat) (b : Int) : plainD n (.int b) = true := by cases n <;> rfl
@[simp] theorem plain_s (n : Nat) (b : Str) : plainD n (.str b) = PyData.strOk b := by cases n <;> rfl
@[simp] theorem plain_t (n : Nat) (xs : List D) : plainD (n + 1) (.tup xs) = (plainDs n xs && decide (xs.length ≤ 1000000)) := (rfl)
@[simp] theorem plain_l (n : Nat) (xs : List D) : plainD (n + 1) (.lst xs) = (plainDs n xs && decide (xs.length ≤ 1000000)) := (rfl)
@[simp] theorem plains_n (n : Nat) : plainDs n [] = true := (rfl)
@[simp] theorem plains_c (n : Nat) (x : D) (xs : List D) : plainDs n (x :: xs) = (plainD n x && plainDs n xs) := (rfl)
theorem plainDs_iff (n : Nat) : ∀ xs : List D, plainDs n xs = true ↔ ∀ x ∈ xs, plainD n x = true
  | [] => by simp
  | x :: xs => by rw [plains_c, Bool.and_eq_true, plainDs_iff n xs]; simp
/-- plain data in induction -/
theorem plain_ind {P : Nat → D → Prop} (leaf : ∀ n d, plainD n d = true → (∀ xs, d ≠ .tup xs) → (∀ xs, d ≠ .lst xs) → P n d)
    (tup : ∀ n xs, xs.length ≤ 1000000 → (∀ x ∈ xs, plainD n x = true) → (∀ x ∈ xs, P n x) → P (n + 1) (.tup xs))
    (lst : ∀ n xs, xs.length ≤ 1000000 → (∀ x ∈ xs, plainD n x = true) → (∀ x ∈ xs, P n x) → P (n + 1) (.lst xs)) : ∀ n d, plainD n d = true → P n d := by
  intro n
  induction n with
  | zero =>
    intro d h
    refine leaf 0 d h (fun xs e => ?_) (fun xs e => ?_) <;> subst e <;> cases h
  | succ n ih =>
    intro d h
    cases d with
    | tup xs =>
      rw [plain_t, Bool.and_eq_true, decide_eq_true_eq, plainDs_iff] at h
      exact tup n xs h.2 h.1 fun x hx => ih x (h.1 x hx)
    | lst xs =>
      rw [plain_l, Bool.and_eq_true, decide_eq_true_eq, plainDs_iff] at h
      exact lst n xs h.2 h.1 fun x hx => ih x (h.1 x hx)
    | _ => exact leaf _ _ h (by simp) (by simp)
theorem plain_mono : ∀ n d, plainD n d = true → ∀ k, plainD (n + k) d = true := plain_ind
  (fun n d h h1 h2 k => by
    cases d with
    | tup xs => exact absurd rfl (h1 xs)
    | lst xs => exact absurd rfl (h2 xs)
    | non => simp
    | bl b => simp
    | int b => simp
    | str b => simpa using h
    | ref i => cases n <;> cases h
    | fn i => cases n <;> cases h
    | scr i => cases n <;> cases h)
  (fun n xs hl _ ih k => by
    rw [show n + 1 + k = n + k + 1 by omega, plain_t, Bool.and_eq_true, decide_eq_true_eq, plainDs_iff]
    exact ⟨fun x hx => ih x hx k, hl⟩)
  (fun n xs hl _ ih k => by
    rw [show n + 1 + k = n + k + 1 by omega, plain_l, Bool.and_eq_true, decide_eq_true_eq, plainDs_iff]
    exact ⟨fun x hx => ih x hx k, hl⟩)
theorem plain_pure : ∀ n d, plainD n d = true → pure? d = true := plain_ind
  (fun n d h h1 h2 => by
    cases d with
    | tup xs => exact absurd rfl (h1 xs)
    | lst xs => exact absurd rfl (h2 xs)
    | ref i => cases n <;> cases h
    | scr i => cases n <;> cases h
    | _ => rfl)
  (fun n xs _ _ ih => (pures_iff xs).mpr ih) (fun n xs _ _ ih => (pures_iff xs).mpr ih)
theorem plain_ok : ∀ n d, plainD n d = true → okD d n = true := plain_ind
  (fun n d h h1 h2 => by
    cases d with
    | tup xs => exact absurd rfl (h1 xs)
    | lst xs => exact absurd rfl (h2 xs)
    | non => simp
    | bl b => simp
    | int b => simp
    | str b => simpa using h
    | ref i => cases n <;> cases h
    | fn i => cases n <;> cases h
    | scr i => cases n <;> cases h)
  (fun n xs _ _ ih => (okDs_iff xs n).mpr ih) (fun n xs _ _ ih => (okDs_iff xs n).mpr ih)
theorem okD_mono : ∀ (n k : Nat) (d : D), okD d n = true → n ≤ k → okD d k = true := by
  intro n
  induction n with
  | zero =>
    intro k d h _
    cases d with
    | non => simp
    | bl b => simp
    | int b => simp
    | str b => rw [okD_s] at h ⊢; exact h
    | tup xs => cases h
    | lst xs => cases h
    | ref i => cases h
    | fn i => cases h
    | scr i => cases h
  | succ n ih =>
    intro k d h hk
    obtain ⟨j, rfl⟩ : ∃ j, k = j + 1 := ⟨k - 1, by omega⟩
    cases d with
    | tup xs =>
      rw [okD_t, okDs_iff] at h ⊢
      exact fun d hd => ih j d (h d hd) (by omega)
    | lst xs =>
      rw [okD_l, okDs_iff] at h ⊢
      exact fun d hd => ih j d (h d hd) (by omega)
    | non => simp
    | bl b => simp
    | int b => simp
    | str b => simpa using h
    | ref i => cases h
    | fn i => cases h
    | scr i => cases h
theorem same_seq (k : Nat) (m : M) (xs : List D) (hl : xs.length ≤ 1000000) (ih : ∀ x ∈ xs, t.call (k + 1) 44 [x, x] m = .ok tru m) :
    t.call (k + 2) 44 [.tup xs, .tup xs] m = .ok tru m ∧ t.call (k + 2) 44 [.lst xs, .lst xs] m = .ok tru m := by
  constructor
  · rw [call_S c44 rfl rfl]
    simp [c44]
    rw [comp_enc (xs := xs) (enc := fun a => .tup [a, a]) (q := fun _ => tru) (by simp) hl (fun x hx => ⟨_, by simp; rfl, by simp [ih x hx]⟩)]
    simp [allBl_map (fun _ => true)]
  · rw [call_S c44 rfl rfl]
    simp [c44]
    rw [comp_enc (xs := xs) (enc := fun a => .tup [a, a]) (q := fun _ => tru) (by simp) hl (fun x hx => ⟨_, by simp; rfl, by simp [ih x hx]⟩)]
    simp [allBl_map (fun _ => true)]
/-- plain data is the same as itself -/
theorem same_all : ∀ n d, plainD n d = true → ∀ k m, t.call (k + n + 1) 44 [d, d] m = .ok tru m := plain_ind
  (fun n d h h1 h2 k m => by
    rw [call_S c44 rfl rfl]
    cases d with
    | tup xs => exact absurd rfl (h1 xs)
    | lst xs => exact absurd rfl (h2 xs)
    | non => simp [c44]
    | bl b => simp [c44, evEq]
    | int b => simp [c44]
    | str b =>
      have : PyData.strOk b = true := by simpa using h
      simp [c44, evEq, this]
    | ref i => cases n <;> cases h
    | fn i => cases n <;> cases h
    | scr i => cases n <;> cases h)
  (fun n xs hl _ ih k m => (same_seq (k + n) m xs hl fun x hx => ih x hx k m).1)
  (fun n xs hl _ ih k m => (same_seq (k + n) m xs hl fun x hx => ih x hx k m).2)
mutual
def toL : D → D
  | .tup xs => .lst (toLs xs)
  | .lst xs => .lst (toLs xs)
  | d => d
def toLs : List D → List D
  | [] => []
  | x :: xs => toL x :: toLs xs
end
mutual
def toT : D → D
  | .tup xs => .tup (toTs xs)
  | .lst xs => .tup (toTs xs)
  | d => d
def toTs : List D → List D
  | [] => []
  | x :: xs => toT x :: toTs xs
end
theorem toLs_map : ∀ xs, toLs xs = xs.map toL
  | [] => rfl
  | x :: xs => by rw [toLs, toLs_map xs]; rfl
theorem toTs_map : ∀ xs, toTs xs = xs.map toT
  | [] => rfl
  | x :: xs => by rw [toTs, toTs_map xs]; rfl
@[simp] theorem toL_t (xs : List D) : toL (.tup xs) = .lst (xs.map toL) := by rw [← toLs_map]; rfl
@[simp] theorem toL_l (xs : List D) : toL (.lst xs) = .lst (xs.map toL) := by rw [← toLs_map]; rfl
@[simp] theorem toT_t (xs : List D) : toT (.tup xs) = .tup (xs.map toT) := by rw [← toTs_map]; rfl
@[simp] theorem toT_l (xs : List D) : toT (.lst xs) = .tup (xs.map toT) := by rw [← toTs_map]; rfl
@[simp] theorem toL_n : toL .non = .non := (rfl)
@[simp] theorem toL_b (b : Bool) : toL (.bl b) = .bl b := (rfl)
@[simp] theorem toL_i (b : Int) : toL (.int b) = .int b := (rfl)
@[simp] theorem toL_s (b : Str) : toL (.str b) = .str b := (rfl)
@[simp] theorem toT_n : toT .non = .non := (rfl)
@[simp] theorem toT_b (b : Bool) : toT (.bl b) = .bl b := (rfl)
@[simp] theorem toT_i (b : Int) : toT (.int b) = .int b := (rfl)
@[simp] theorem toT_s (b : Str) : toT (.str b) = .str b := (rfl)
theorem lists_all : ∀ n d, plainD n d = true → ∀ k m, t.call (k + n + 1) 43 [d] m = .ok (toL d) m ∧ t.call (k + n + 1) 4 [d] m = .ok (toT d) m := plain_ind
  (fun n d h h1 h2 k m => by
    rw [call_S c43 rfl rfl, call_S c4 rfl rfl]
    cases d with
    | tup xs => exact absurd rfl (h1 xs)
    | lst xs => exact absurd rfl (h2 xs)
    | non => simp [c43, c4]
    | bl b => simp [c43, c4]
    | int b => simp [c43, c4]
    | str b => simp [c43, c4, fin_pure _ _ _ _ (show pure? (.str b) = true from rfl)]
    | ref i => cases n <;> cases h
    | fn i => cases n <;> cases h
    | scr i => cases n <;> cases h)
  (fun n xs hl _ ih k m => by
    rw [show k + (n + 1) + 1 = k + n + 1 + 1 by omega, call_S c43 rfl rfl, call_S c4 rfl rfl]
    simp [c43, c4]
    rw [comp_enc (xs := xs) (enc := id) (q := toL) (by simp) hl (fun x hx => ⟨_, by simp; rfl, by simp [(ih x hx k m).1]⟩),
      comp_enc (xs := xs) (enc := id) (q := toT) (by simp) hl (fun x hx => ⟨_, by simp; rfl, by simp [(ih x hx k m).2]⟩)]
    simp)
  (fun n xs hl _ ih k m => by
    rw [show k + (n + 1) + 1 = k + n + 1 + 1 by omega, call_S c43 rfl rfl, call_S c4 rfl rfl]
    simp [c43, c4]
    rw [comp_enc (xs := xs) (enc := id) (q := toL) (by simp) hl (fun x hx => ⟨_, by simp; rfl, by simp [(ih x hx k m).1]⟩),
      comp_enc (xs := xs) (enc := id) (q := toT) (by simp) hl (fun x hx => ⟨_, by simp; rfl, by simp [(ih x hx k m).2]⟩)]
    simp)
theorem lists_ {n k : Nat} {d : D} {m : M} (h : plainD n d = true) (hk : n < k) : t.call k 43 [d] m = .ok (toL d) m := by
  obtain ⟨j, rfl⟩ : ∃ j, k = j + n + 1 := ⟨k - n - 1, by omega⟩
  exact (lists_all n d h j m).1
theorem tupled_ {n k : Nat} {d : D} {m : M} (h : plainD n d = true) (hk : n < k) : t.call k 4 [d] m = .ok (toT d) m := by
  obtain ⟨j, rfl⟩ : ∃ j, k = j + n + 1 := ⟨k - n - 1, by omega⟩
  exact (lists_all n d h j m).2
theorem same_ {n k : Nat} {d : D} {m : M} (h : plainD n d = true) (hk : n < k) : t.call k 44 [d, d] m = .ok tru m := by
  obtain ⟨j, rfl⟩ : ∃ j, k = j + n + 1 := ⟨k - n - 1, by omega⟩
  exact same_all n d h j m
theorem plain_toL : ∀ n d, plainD n d = true → plainD n (toL d) = true := plain_ind
  (fun n d h h1 h2 => by
    cases d with
    | tup xs => exact absurd rfl (h1 xs)
    | lst xs => exact absurd rfl (h2 xs)
    | _ => exact h)
  (fun n xs hl _ ih => by simp [plainDs_iff, hl]; exact ih) (fun n xs hl _ ih => by simp [plainDs_iff, hl]; exact ih)
theorem toT_toL : ∀ n d, plainD n d = true → toT (toL d) = toT d := plain_ind
  (fun n d h h1 h2 => by
    cases d with
    | tup xs => exact absurd rfl (h1 xs)
    | lst xs => exact absurd rfl (h2 xs)
    | _ => rfl)
  (fun n xs hl _ ih => by simp; exact ih) (fun n xs hl _ ih => by simp; exact ih)
end K3
namespace K3
open PySem Dx
/-! ### the box of draws -/
abbrev tn (a b c : Int) : M := [.lst [I a, I b, I c]]
/-- the box, at most n draws made; what stands behind it -/
def Tin (n : Nat) (ρ : M) (m : M) : Prop := ∃ a b c : Int, m = .lst [I a, I b, I c] :: ρ ∧ 0 ≤ c ∧ c ≤ n
theorem Tin.mono {n k : Nat} {ρ m : M} (h : Tin n ρ m) (hk : n ≤ k) : Tin k ρ m := by
  obtain ⟨a, b, c, e, h1, h2⟩ := h
  exact ⟨a, b, c, e, h1, by omega⟩
theorem Tin.len {n : Nat} {ρ m : M} (h : Tin n ρ m) : m.length = ρ.length + 1 := by
  obtain ⟨a, b, c, rfl, _⟩ := h; rfl
theorem Tin.app {n : Nat} {ρ m : M} (h : Tin n ρ m) (g : M) : Tin n (ρ ++ g) (m ++ g) := by
  obtain ⟨a, b, c, rfl, h⟩ := h
  exact ⟨a, b, c, rfl, h⟩
theorem Tin.take {n : Nat} {ρ m g : M} (h : Tin n (ρ ++ g) m) : Tin n ρ (m.take (ρ.length + 1)) := by
  obtain ⟨a, b, c, rfl, h⟩ := h
  exact ⟨a, b, c, by simp, h⟩
theorem d64 : divOk 64 = true := by decide +kernel
theorem dmi : divOk 1000003 = true := by decide +kernel
theorem take_ (k : Nat) (w : Int) {n : Nat} {ρ m : M} (hw : 0 < w) (hs : Small w) (h : Tin n ρ m) (hn : n ≤ 2 ^ 40) :
    ∃ d m', t.call (k + 1) 40 [.ref 0, I w] m = .ok (I d) m' ∧ 0 ≤ d ∧ d < w ∧ Tin (n + 1) ρ m' := by
  obtain ⟨a, b, c, rfl, hc, hc2⟩ := h
  have dw := div_ok hw hs
  by_cases ha : 0 < a
  · refine ⟨a % w, .lst [I (a / w), I b, I c] :: ρ, ?_, Int.emod_nonneg _ (by omega), Int.emod_lt_of_pos _ hw, a / w, b, c, rfl, hc, by omega⟩
    rw [call_S c40 rfl rfl]
    simp [c40, storeI, store, ixD, ha, hw, dw, nrD]
  · have o1 := mul_l (i := 48271) (j := c + 1) ⟨by omega, by omega⟩
    have o2 := mul_r (i := b + 48271 * (c + 1)) (j := 39373 + (c + 1)) ⟨by omega, by omega⟩
    have r2 := Int.emod_nonneg ((b + 48271 * (c + 1)) * (39373 + (c + 1)) % 2147483647) (show (40009 : Int) ≠ 0 by decide)
    have r3 := Int.emod_lt_of_pos ((b + 48271 * (c + 1)) * (39373 + (c + 1)) % 2147483647) (show (0 : Int) < 40009 by decide)
    have o3 := fun i => mul_r (i := i) (j := (b + 48271 * (c + 1)) * (39373 + (c + 1)) % 2147483647 % 40009 + 7) ⟨by omega, by omega⟩
    have o4 := fun i => mul_r (i := i) (j := 48271) ⟨by omega, by omega⟩
    refine ⟨(((((b + 48271 * (c + 1)) * (39373 + (c + 1)) % 2147483647) + (c + 1) + b / 1000003) * ((b + 48271 * (c + 1)) * (39373 + (c + 1)) % 2147483647 % 40009 + 7) % 2147483629 * 48271 + ((b + 48271 * (c + 1)) * (39373 + (c + 1)) % 2147483647)) % 2147483587 / 64) % w, .lst [I a, I b, I (c + 1)] :: ρ, ?_, Int.emod_nonneg _ (show w ≠ 0 by omega), Int.emod_lt_of_pos _ hw, a, b, c + 1, rfl, by omega, by omega⟩
    rw [call_S c40 rfl rfl]
    simp [c40, storeI, store, ixD, ha, hw, o1, o2, o3, o4, d64, dmi, nrD]
theorem of_ (k : Nat) (xs : List D) {n : Nat} {ρ m : M} (h0 : 0 < xs.length) (h1 : xs.length ≤ 1000) (h : Tin n ρ m) (hn : n ≤ 2 ^ 40) :
    ∃ (i : Nat) (hi : i < xs.length) (m' : M), (pures? xs = true → t.call (k + 2) 42 [.ref 0, .lst xs] m = .ok xs[i] m') ∧ Tin (n + 1) ρ m' := by
  obtain ⟨d, m', e, d0, d1, p⟩ := take_ k xs.length (by omega) ⟨by omega, by omega⟩ h hn
  refine ⟨d.toNat, by omega, m', fun hpu => ?_, p⟩
  rw [call_S c42 rfl rfl]
  have hx : xs[d.toNat]? = some xs[d.toNat] := List.getElem?_eq_getElem (by omega)
  have hd : d = (d.toNat : Int) := by omega
  have hq : evIdx m' (.lst xs) (I d) = some xs[d.toNat] := by
    conv => lhs; rw [hd, idx_nat]
    simpa using hx
  have e' : t.call (k + 1) 40 [.ref 0, .int xs.length] m = .ok (I d) m' := e
  simp [c42, e', hq]
  rw [fin_pure _ _ _ _ ((pures_iff xs).mp hpu _ (List.getElem_mem _)), h.len, ← p.len, List.take_length]
theorem of_mem (k : Nat) (xs : List D) {n : Nat} {ρ m : M} (hp : pures? xs = true) (h0 : 0 < xs.length) (h1 : xs.length ≤ 1000) (h : Tin n ρ m) (hn : n ≤ 2 ^ 40) :
    ∃ x ∈ xs, ∃ (m' : M), t.call (k + 2) 42 [.ref 0, .lst xs] m = .ok x m' ∧ Tin (n + 1) ρ m' := by
  obtain ⟨i, hi, m', e, p⟩ := of_ k xs h0 h1 h hn
  exact ⟨xs[i], List.getElem_mem _, m', e hp, p⟩
theorem p9 : powOk 10 9 = true := by decide +kernel
theorem p18 : powOk 10 18 = true := by decide +kernel
theorem box_ (k : Nat) (x : Int) : ∃ m, t.call (k + 1) 39 [.lst [I x], I 0] [] = .ok (.ref 0) m ∧ Tin 0 [] m := by
  have o1 := fun i => mul_r (i := i) (j := 1) ⟨by omega, by omega⟩
  have o0 := fun i => mul_r (i := i) (j := 0) ⟨by omega, by omega⟩
  have ob := fun j => mul_l (i := 39373) (j := j) ⟨by omega, by omega⟩
  by_cases h : (1000000000000000000 : Int) ≤ (x.natAbs : Int)
  · refine ⟨tn x.natAbs (x % 2305843009213693951 + 6070003) 0, ?_, _, _, _, rfl, by omega, by omega⟩
    rw [call_S c39 rfl rfl]
    simp [c39, p18, h, o1, ob]
    simp [Dx.finish, ownTop, nrD, nrDs]
  · refine ⟨tn 0 (x % 2305843009213693951 + 6070003) 0, ?_, _, _, _, rfl, by omega, by omega⟩
    rw [call_S c39 rfl rfl]
    simp [c39, p18, h, o0, ob]
    simp [Dx.finish, ownTop, nrD, nrDs]
/-! ### the cells -/
theorem cut_mem {xs : List D} {lo hi : Option Int} {x : D} (h : x ∈ cutD xs lo hi) : x ∈ xs := List.mem_of_mem_drop (List.mem_of_mem_take h)
theorem cut_len {xs : List D} {lo hi : Option Int} : (cutD xs lo hi).length ≤ xs.length := by unfold cutD; simp; omega
def QC (x : D) : Prop := ∃ (j v : Int), x = .tup [I j, I v] ∧ 0 ≤ j ∧ j ≤ 1000
abbrev bodyC : CSs := .cons (.asg (.name 5) (.bin .Mod (.blt .toInt (.cons (.var 3) .nil)) (.var 1))) (.cons (.setI (.var 2) (.var 5) (.bin .Add (.idx (.var 2) (.var 5)) (.bin .Mult (.var 4) (.bin .Add (.var 3) (.int 2))))) .nil)
theorem cells_loop {k : Nat} {s : D} {r : Nat} {mk : Int → M} (h1 : ∀ v, (mk v)[r]? = some (.lst [I v])) (h2 : ∀ v w, (mk v).set r (.lst [I w]) = mk w) (xs : List D) (hx : ∀ x ∈ xs, QC x) (e3 e4 e5 : Option D) (v : Int) :
    ∃ e3' e4' e5' v', forL (forF (cf k []) (.tup [.name 3, .name 4]) bodyC) xs [some s, some (I 1), some (.ref r), e3, e4, e5] (mk v) = .nx [some s, some (I 1), some (.ref r), e3', e4', e5'] (mk v') := by
  obtain ⟨e', m', q, p⟩ := forL_inv (P := fun e m => ∃ e3 e4 e5 v, e = [some s, some (I 1), some (.ref r), e3, e4, e5] ∧ m = mk v) (Q := QC) (step := forF (cf k []) (.tup [.name 3, .name 4]) bodyC) (fun x e m hq hp => by
    obtain ⟨j, u, rfl, j0, j1⟩ := hq
    obtain ⟨e3, e4, e5, v, rfl, rfl⟩ := hp
    have o := mul_r (i := u) (j := j + 2) ⟨by omega, by omega⟩
    refine ⟨[some s, some (I 1), some (.ref r), some (I j), some (I u), some (I 0)], mk (v + u * (j + 2)), ?_, _, _, _, _, rfl, rfl⟩
    simp [forF, bodyC, storeI, store, ixD, h1, h2, o, Int.emod_one]) xs [some s, some (I 1), some (.ref r), e3, e4, e5] (mk v) hx ⟨_, _, _, _, rfl, rfl⟩
  obtain ⟨a, b, c, d, rfl, rfl⟩ := p
  exact ⟨a, b, c, d, q⟩
theorem cells_ (k : Nat) (l : List Int) (hl : l.length ≤ 63) : ∃ x, t.call (k + 1) 41 [scrD l, I 1] [] = .ok (.lst [I x]) [] := by
  have hq : ∀ x ∈ ((cutD (l.map .int) (some 1) (some 63)).zipIdx.map fun p => D.tup [.int p.2, p.1]), QC x := fun x hx => by
    obtain ⟨⟨d, j⟩, hm, rfl⟩ := List.mem_map.mp hx
    have h3 := List.mem_zipIdx hm
    have h4 := cut_len (xs := l.map D.int) (lo := some 1) (hi := some 63)
    rw [List.length_map] at h4
    have h5 : d ∈ cutD (l.map D.int) (some 1) (some 63) := by rw [h3.2.2]; exact List.getElem_mem _
    obtain ⟨v, _, rfl⟩ := List.mem_map.mp (cut_mem h5)
    exact ⟨j, v, rfl, by omega, by omega⟩
  have hi : ∀ m e, e = [some (scrD l), some (I 1), some (.ref m), none, none, none] → ∀ mm, evI (cf k []) (.enum (.slc (.var 0) (.some (.var 1)) (.some (.int 63)))) e mm = .ok (.seq ((cutD (l.map .int) (some 1) (some 63)).zipIdx.map fun p => D.tup [.int p.2, p.1])) mm := fun m e he mm => by
    subst he; simp [scrD]
  cases l with
  | nil =>
    obtain ⟨e3, e4, e5, v, q⟩ := cells_loop (k := k) (s := scrD []) (r := 1) (mk := fun v => [.lst [], .lst [I v]]) (fun v => rfl) (fun v w => rfl) _ hq none none none 0
    refine ⟨v, ?_⟩
    rw [call_S c41 rfl rfl]
    refine (congrArg (endC false 0) (a₂ := .ret (.ref 1) [.lst [], .lst [I v]]) ?_).trans (by simp [Dx.finish, ownTop, fz, mapRef, mapRefs])
    refine (seq_nx (e' := [some (scrD []), some (I 1), some (.ref 1), none, none, none]) (m' := [.lst [], .lst [I 0]]) (by simp [c41, scrD, cutD, cutIx])).trans ?_
    refine (seq_nx (s := .for_ (.tup [.name 3, .name 4]) (.enum (.slc (.var 0) (.some (.var 1)) (.some (.int 63)))) bodyC) (e' := [some (scrD []), some (I 1), some (.ref 1), e3, e4, e5]) (m' := [.lst [], .lst [I v]]) ?_).trans ?_
    · rw [v_for _ _ _ _ _ _ _ (hi 1 _ rfl _)]
      exact q
    · simp
  | cons y l =>
    obtain ⟨e3, e4, e5, v, q⟩ := cells_loop (k := k) (s := scrD (y :: l)) (r := 0) (mk := fun v => [.lst [I v]]) (fun v => rfl) (fun v w => rfl) _ hq none none none y
    refine ⟨v, ?_⟩
    rw [call_S c41 rfl rfl]
    refine (congrArg (endC false 0) (a₂ := .ret (.ref 0) [.lst [I v]]) ?_).trans (by simp [Dx.finish, ownTop, fz, mapRef, mapRefs])
    refine (seq_nx (e' := [some (scrD (y :: l)), some (I 1), some (.ref 0), none, none, none]) (m' := [.lst [I y]]) (by simp [c41, scrD, cutD, cutIx])).trans ?_
    refine (seq_nx (s := .for_ (.tup [.name 3, .name 4]) (.enum (.slc (.var 0) (.some (.var 1)) (.some (.int 63)))) bodyC) (e' := [some (scrD (y :: l)), some (I 1), some (.ref 0), e3, e4, e5]) (m' := [.lst [I v]]) ?_).trans ?_
    · rw [v_for _ _ _ _ _ _ _ (hi 0 _ rfl _)]
      exact q
    · simp
end K3
namespace K3
open PySem Dx
/-! ### rows, points, tables -/
def rowD (r : List Int) : D := .tup (r.map .int)
def ptD (p : List Rat) : D := .tup (p.map qD)
def tbD (T : List (List Rat)) : D := .tup (T.map ptD)
structure Tb (n b : Nat) (T : List (List Rat)) : Prop where
  len : T.length = n
  row : ∀ r ∈ T, r.length = n
  bq : ∀ r ∈ T, ∀ x ∈ r, Bq b x
theorem Tb.mono {n b c : Nat} {T : List (List Rat)} (h : Tb n b T) (hc : b ≤ c) : Tb n c T := ⟨h.len, h.row, fun r hr x hx => (h.bq r hr x hx).mono hc⟩
@[simp] theorem qD_plain (n : Nat) (x : Rat) : plainD (n + 1) (qD x) = true := by simp [qD]
theorem rowD_plain (n : Nat) (r : List Int) (h : r.length ≤ 1000000) : plainD (n + 1) (rowD r) = true := by
  simp [rowD, plainDs_iff, h]
theorem ptD_plain (n : Nat) (r : List Rat) (h : r.length ≤ 1000000) : plainD (n + 2) (ptD r) = true := by
  simp [ptD, plainDs_iff, h]
theorem tbD_plain (n : Nat) (T : List (List Rat)) (h : T.length ≤ 1000000) (w : ∀ r ∈ T, r.length ≤ 1000000) : plainD (n + 3) (tbD T) = true := by
  simp [tbD, plainDs_iff, h]
  exact fun r hr => ptD_plain n r (w r hr)
@[simp] theorem qD_T (x : Rat) : toT (qD x) = qD x := by simp [qD]
@[simp] theorem rowD_T (r : List Int) : toT (rowD r) = rowD r := by simp [rowD]
@[simp] theorem ptD_T (r : List Rat) : toT (ptD r) = ptD r := by simp [ptD]
@[simp] theorem tbD_T (r : List (List Rat)) : toT (tbD r) = tbD r := by simp [tbD]
@[simp] theorem rowD_L (r : List Int) : toL (rowD r) = .lst (r.map .int) := by simp [rowD]
/-- a value as it is handed in: itself or as lists -/
def As (n : Nat) (d v : D) : Prop := plainD n v = true ∧ toT v = d
theorem As.self {n : Nat} {d : D} (h : plainD n d = true) (ht : toT d = d) : As n d d := ⟨h, ht⟩
theorem As.lists {n : Nat} {d : D} (h : plainD n d = true) (ht : toT d = d) : As n d (toL d) := ⟨plain_toL n d h, by rw [toT_toL n d h, ht]⟩
theorem As.tup {n k : Nat} {d v : D} {m : M} (h : As n d v) (hk : n < k) : t.call k 4 [v] m = .ok d m := by
  rw [tupled_ h.1 hk, h.2]
theorem allB (m : M) {α : Type} (xs : List α) : evBlt m .all [.lst (xs.map fun _ => tru)] = some tru := by
  simp [allBl_map (fun _ => true)]
theorem all_map (m : M) {α : Type} (xs : List α) (p : α → Bool) : evBlt m .all [.lst (xs.map fun x => .bl (p x))] = some (.bl (xs.all p)) := by
  simp [allBl_map, List.all_map]
theorem frac_ {k : Nat} {x : Rat} {m : M} {a : Nat} (h : Bq a x) (hb : a ≤ 8400) (hk : 2 ≤ k) : t.call k 6 [qD x] m = .ok tru m := by
  obtain ⟨j, rfl⟩ : ∃ j, k = j + 2 := ⟨k - 2, by omega⟩
  exact frac_in j x m h hb
theorem sure_frac {k : Nat} {x : Rat} {v : D} {m : M} {a : Nat} (h : Bq a x) (hb : a ≤ 8400) (hv : As 1 (qD x) v) : t.call (k + 3) 7 [v] m = .ok (qD x) m := by
  rw [call_S c7 rfl rfl]
  simp [c7, hv.tup (k := k + 2) (by omega), frac_ h hb (show 2 ≤ k + 2 by omega)]
theorem ne_nil {n : Nat} {xs : List D} (m : M) (h : ∀ x ∈ xs, okD x 39 = true) (h0 : xs ≠ []) : evEq (.tup xs) (.tup []) = some false := by
  rw [evEq_ _ _ (by rw [okD_t, okDs_iff]; exact h) (by simp)]
  cases xs with
  | nil => exact absurd rfl h0
  | cons x xs => simp
theorem table_in {k n b : Nat} {T : List (List Rat)} {m : M} (h : Tb n b T) (hn : 1 ≤ n) (hn2 : n ≤ 1000) (hb : b ≤ 8400) : t.call (k + 3) 18 [tbD T] m = .ok tru m := by
  have hne : evEq (.tup (T.map ptD)) (.tup []) = some false := ne_nil (n := 0) m (fun x hx => by
    obtain ⟨r, hr, rfl⟩ := List.mem_map.mp hx
    exact okD_mono 2 39 _ (plain_ok 2 _ (ptD_plain 0 r (by have := h.row r hr; omega))) (by omega)) (by
    intro e; have := congrArg List.length e; simp [h.len] at this; omega)
  have hl := h.len
  rw [call_S c18 rfl rfl]
  simp [c18, tbD, hne]
  rw [comp_enc T ptD (fun _ => tru) (by simp) (by omega) (fun r hr => ⟨_, by simp; rfl, by
    have := h.row r hr
    simp [ptD, long_tup, this, hl]⟩)]
  simp [allBl_map (fun _ => true)]
  rw [comp_enc T ptD (fun _ => tru) (by simp) (by omega) (fun r hr => ⟨_, by simp; rfl, by
    have := h.row r hr
    simp [ptD]
    rw [comp_enc r qD (fun _ => tru) (by simp) (by omega) (fun x hx => ⟨_, by simp; rfl, by simp [frac_ (h.bq r hr x hx) hb (show 2 ≤ k + 2 by omega)]⟩)]
    simp [allBl_map (fun _ => true)]⟩)]
  simp [allBl_map (fun _ => true)]
theorem Tb.as {n b : Nat} {T : List (List Rat)} (h : Tb n b T) (hn2 : n ≤ 1000) : plainD 3 (tbD T) = true := tbD_plain 0 T (by have := h.len; omega) (fun r hr => by have := h.row r hr; omega)
theorem sure_table_ {k n b : Nat} {T : List (List Rat)} {v : D} {m : M} (h : Tb n b T) (hn : 1 ≤ n) (hn2 : n ≤ 1000) (hb : b ≤ 8400) (hv : As 3 (tbD T) v) : t.call (k + 5) 19 [v] m = .ok (tbD T) m := by
  rw [call_S c19 rfl rfl]
  simp [c19, hv.tup (k := k + 4) (by omega), table_in (k := k + 1) h hn hn2 hb]
theorem row_in {k : Nat} {r : List Int} {m : M} (n : Int) (h : (r.length : Int) = n) (hl : r.length ≤ 1000000) : t.call (k + 3) 20 [I n, rowD r] m = .ok tru m := by
  have e1 : t.call (k + 2) 3 [rowD r] m = .ok tru m := by
    rw [call_S c3 rfl rfl]
    simp [c3, rowD]
    rw [comp_enc r .int (fun _ => tru) (by simp) hl (fun x hx => ⟨_, by simp; rfl, by simp [num_int]⟩)]
    simp [allBl_map (fun _ => true)]
  have e2 : t.call (k + 2) 2 [rowD r, I n] m = .ok tru m := by
    unfold rowD; rw [long_tup]; simp [h]
  rw [call_S c20 rfl rfl]
  simp [c20, e1, e2]
theorem sure_row_ {k : Nat} {r : List Int} {v : D} {m : M} (n : Int) (h : (r.length : Int) = n) (hl : r.length ≤ 1000000) (hv : As 1 (rowD r) v) : t.call (k + 4) 21 [I n, v] m = .ok (rowD r) m := by
  rw [call_S c21 rfl rfl]
  simp [c21, hv.tup (k := k + 3) (by omega), row_in n h hl]
/-! ### sums, images -/
def sumQ (xs : List Rat) : Rat := xs.foldl (· + ·) 0
theorem Bq.foldl {a b : Nat} : ∀ (xs : List Rat) (s : Rat), (∀ x ∈ xs, Bq a x) → Bq b s → Bq (b + xs.length * (a + 1)) (xs.foldl (· + ·) s)
  | [], s, _, h => by simpa using h
  | x :: xs, s, hx, h => by
    have h1 := h.add (hx x List.mem_cons_self)
    have := Bq.foldl xs (s + x) (fun y hy => hx y (List.mem_cons_of_mem _ hy)) h1
    refine this.mono ?_
    rw [List.length_cons, Nat.add_mul]; omega
theorem Bq.sum {a : Nat} {xs : List Rat} (h : ∀ x ∈ xs, Bq a x) : Bq (1 + xs.length * (a + 1)) (sumQ xs) := Bq.foldl xs 0 h Bq.zero
theorem zero_q : D.tup [.int 0, .int 1] = qD 0 := rfl
theorem one_q : D.tup [.int 1, .int 1] = qD 1 := rfl
theorem fst_fold : ∀ (xs : List Rat) (s : Rat × Option D), (xs.foldl (fun s x => (s.1 + x, some (qD x))) s).1 = xs.foldl (· + ·) s.1 := by
  intro xs
  induction xs with
  | nil => intro s; rfl
  | cons x xs ih => intro s; exact ih _
theorem sum_step {a b : Nat} (xs : List Rat) (hx : ∀ x ∈ xs, Bq a x) (n : Nat) (hn : 1 + n * (a + 1) ≤ 8000) (ha : a ≤ 400) (i : Nat) (hi : i < n) (s : Rat) (hs : Bq (1 + i * (a + 1)) s) (x : Rat) (h : Bq a x) : Bq (1 + (i + 1) * (a + 1)) (s + x) ∧ (1 + i * (a + 1)) + a ≤ 8400 := by
  have : (i + 1) * (a + 1) ≤ n * (a + 1) := Nat.mul_le_mul_right _ hi
  have e : (i + 1) * (a + 1) = i * (a + 1) + (a + 1) := by rw [Nat.add_mul, Nat.one_mul]
  exact ⟨(hs.add h).mono (by omega), by omega⟩
theorem sum_ {k a : Nat} {m : M} (xs : List Rat) (hx : ∀ x ∈ xs, Bq a x) (hb : 1 + xs.length * (a + 1) ≤ 8000) (ha : a ≤ 400) : t.call (k + 4) 17 [.lst (xs.map qD)] m = .ok (qD (sumQ xs)) m := by
  rw [call_S c17 rfl rfl]
  have g0 : t.glob 0 = some (qD 0) := rfl
  simp [c17, g0]
  rw [s_for' (xs.map qD) (m' := m) (by simp), (forL_state (E := fun s : Rat × Option D => [some (.lst (xs.map qD)), some (qD s.1), s.2]) (mm := fun _ => m) (f := fun s x => (s.1 + x, some (qD x))) (enc := qD)
    (Inv := fun i s => Bq (1 + i * (a + 1)) s.1) xs 0 (0, none) (by simpa using Bq.zero) ?_).1]
  · simp [fst_fold, sumQ]
  · intro i x s _ hi hm hs
    obtain ⟨h1, h2⟩ := sum_step (b := 0) xs hx xs.length hb ha i (by omega) s.1 hs x (hx x hm)
    exact ⟨by simp [forF, plus_ k m hs (hx x hm) h2], h1⟩
theorem lsum_ {k a : Nat} {m : M} (xs : List Rat) (hx : ∀ x ∈ xs, Bq a x) (hb : 1 + xs.length * (a + 1) ≤ 8000) (ha : a ≤ 400) : t.call (k + 3) 54 [.lst (xs.map qD)] m = .ok (qD (sumQ xs)) m := by
  rw [call_S c54 rfl rfl]
  simp [c54, zero_q]
  rw [s_for' (xs.map qD) (m' := m) (by simp), (forL_state (E := fun s : Rat × Option D => [some (.lst (xs.map qD)), some (qD s.1), s.2]) (mm := fun _ => m) (f := fun s x => (s.1 + x, some (qD x))) (enc := qD)
    (Inv := fun i s => Bq (1 + i * (a + 1)) s.1) xs 0 (0, none) (by simpa using Bq.zero) ?_).1]
  · simp [fst_fold, sumQ]
  · intro i x s _ hi hm hs
    obtain ⟨h1, h2⟩ := sum_step (b := 0) xs hx xs.length hb ha i (by omega) s.1 hs x (hx x hm)
    exact ⟨by simp [forF, lplus_ k m hs (hx x hm) h2], h1⟩
/-- the products of a line with a row -/
def dotZ (l : List Rat) (r : List Int) : List Rat := (l.zip r).map fun p => p.1 * (p.2 : Rat)
def img (T : List (List Rat)) (r : List Int) : List Rat := T.map fun l => sumQ (dotZ l r)
theorem dotZ_bq {a s : Nat} {l : List Rat} {r : List Int} (hl : ∀ x ∈ l, Bq a x) (hr : ∀ x ∈ r, Sz s x) : ∀ x ∈ dotZ l r, Bq (a + s) x := by
  intro x hx
  obtain ⟨⟨p, z⟩, hp, rfl⟩ := List.mem_map.mp hx
  have := List.of_mem_zip hp
  exact (hl p this.1).mulz (hr z this.2)
theorem dotZ_len {l : List Rat} {r : List Int} : (dotZ l r).length ≤ l.length := by unfold dotZ; simp; omega
theorem img_bq {a s n : Nat} {T : List (List Rat)} {r : List Int} (h : Tb n a T) (hr : ∀ x ∈ r, Sz s x) : ∀ x ∈ img T r, Bq (1 + n * (a + s + 1)) x := by
  intro x hx
  obtain ⟨l, hl, rfl⟩ := List.mem_map.mp hx
  have e := h.row l hl
  refine (Bq.sum (dotZ_bq (h.bq l hl) hr)).mono ?_
  have := Nat.mul_le_mul_right (a + s + 1) (Nat.le_trans dotZ_len (Nat.le_of_eq e) : (dotZ l r).length ≤ n)
  omega
theorem img_len {T : List (List Rat)} {r : List Int} : (img T r).length = T.length := by simp [img]
theorem image_ {k a s n : Nat} {m : M} {T : List (List Rat)} {r : List Int} (h : Tb n a T) (hn : n ≤ 3) (hr : ∀ x ∈ r, Sz s x) (ha : a ≤ 200) (hs : s ≤ 200) : t.call (k + 5) 22 [tbD T, rowD r] m = .ok (ptD (img T r)) m := by
  have hl := h.len
  rw [call_S c22 rfl rfl]
  simp [c22, tbD]
  rw [comp_enc T ptD (fun l => qD (sumQ (dotZ l r))) (by simp) (by omega) (fun l hm => ⟨_, by simp; rfl, by
    have hrow := h.row l hm
    simp [ptD, rowD]
    rw [comp_enc (l.zip r) (fun p => .tup [qD p.1, .int p.2]) (fun p => qD (p.1 * (p.2 : Rat))) (by simp [zip_W]) (by simp; omega) (fun p hp => ⟨_, by simp; rfl, by
      obtain ⟨x, z⟩ := p
      have hz := List.of_mem_zip hp
      have bx := h.bq l hm x hz.1
      have r1 := red_ (k + 2) (x.num * z) x.den m (bx.den.mono (by omega)) (den_ne x)
      rw [mulz_dv] at r1
      simp [qD, mul_ok bx.1 (hr z hz.2) (by omega)]
      rw [r1]; simp [qD]⟩)]
    have L := sum_ (k := k) (m := m) (dotZ l r) (dotZ_bq (h.bq l hm) hr) (by
      have h1 := dotZ_len (l := l) (r := r)
      have h2 := Nat.mul_le_mul_right (a + s + 1) (Nat.le_trans h1 (Nat.le_of_eq hrow))
      have h3 : n * (a + s + 1) ≤ 3 * 401 := Nat.mul_le_mul hn (by omega)
      omega) (by omega)
    unfold dotZ at L
    rw [List.map_map] at L
    simp only [Function.comp_def] at L
    simp [L, dotZ]⟩)]
  simp [ptD, img]
theorem limage_ {k a s n : Nat} {m : M} {T : List (List Rat)} {r : List Int} (h : Tb n a T) (hn : n ≤ 3) (hr : ∀ x ∈ r, Sz s x) (ha : a ≤ 200) (hs : s ≤ 198) : t.call (k + 5) 55 [tbD T, rowD r] m = .ok (ptD (img T r)) m := by
  have hl := h.len
  rw [call_S c55 rfl rfl]
  simp [c55, tbD]
  rw [comp_enc T ptD (fun l => qD (sumQ (dotZ l r))) (by simp) (by omega) (fun l hm => ⟨_, by simp; rfl, by
    have hrow := h.row l hm
    simp [ptD, rowD]
    rw [comp_enc (l.zip r) (fun p => .tup [qD p.1, .int p.2]) (fun p => qD (p.1 * (p.2 : Rat))) (by simp [zip_W]) (by simp; omega) (fun p hp => ⟨_, by simp; rfl, by
      obtain ⟨x, z⟩ := p
      have hz := List.of_mem_zip hp
      have bx := h.bq l hm x hz.1
      have r1 := lby_ (k + 2) m bx (Bq.int (hr z hz.2)) (by omega)
      have e : qD (z : Rat) = .tup [.int z, .int 1] := rfl
      rw [e] at r1
      simp [r1]⟩)]
    have L := lsum_ (k := k + 1) (m := m) (dotZ l r) (dotZ_bq (h.bq l hm) hr) (by
      have h1 := dotZ_len (l := l) (r := r)
      have h2 := Nat.mul_le_mul_right (a + s + 1) (Nat.le_trans h1 (Nat.le_of_eq hrow))
      have h3 : n * (a + s + 1) ≤ 3 * 401 := Nat.mul_le_mul hn (by omega)
      omega) (by omega)
    unfold dotZ at L
    rw [List.map_map] at L
    simp only [Function.comp_def] at L
    simp [L, dotZ]⟩)]
  simp [ptD, img]
end K3
namespace K3
open PySem Dx
/-! ### how great a fraction is -/
def Mg (B : Nat) (x : Rat) : Prop := -(B : Rat) ≤ x ∧ x ≤ B
theorem Mg.mono {a b : Nat} {x : Rat} (h : Mg a x) (w : a ≤ b) : Mg b x := by
  have : (a : Rat) ≤ (b : Rat) := Rat.natCast_le_natCast.mpr w
  unfold Mg at *
  grind
theorem Mg.add {a b : Nat} {x y : Rat} (h : Mg a x) (w : Mg b y) : Mg (a + b) (x + y) := by
  unfold Mg at *
  grind
theorem Mg.neg {a : Nat} {x : Rat} (h : Mg a x) : Mg a (-x) := by
  unfold Mg at *
  grind
theorem Mg.mul {a b : Nat} {x y : Rat} (h : Mg a x) (w : Mg b y) : Mg (a * b) (x * y) := by
  unfold Mg at *
  obtain ⟨h1, h2⟩ := h
  obtain ⟨w1, w2⟩ := w
  have a0 : (0 : Rat) ≤ a := by exact Rat.natCast_nonneg
  have b0 : (0 : Rat) ≤ b := by exact Rat.natCast_nonneg
  have e : ((a * b : Nat) : Rat) = (a : Rat) * b := by grind
  rw [e]
  have p1 := Rat.mul_nonneg (show 0 ≤ (a : Rat) - x by grind) (show 0 ≤ (b : Rat) + y by grind)
  have p2 := Rat.mul_nonneg (show 0 ≤ (a : Rat) + x by grind) (show 0 ≤ (b : Rat) - y by grind)
  have p3 := Rat.mul_nonneg (show 0 ≤ (a : Rat) - x by grind) (show 0 ≤ (b : Rat) - y by grind)
  have p4 := Rat.mul_nonneg (show 0 ≤ (a : Rat) + x by grind) (show 0 ≤ (b : Rat) + y by grind)
  constructor <;> grind
theorem cst (b : Nat) : (((b : Nat) : Int) : Rat) = (b : Rat) := rfl
theorem Mg.int {z : Int} {b : Nat} (h : z.natAbs ≤ b) : Mg b (z : Rat) := by
  have h1 : ((-(b : Int) : Int) : Rat) ≤ (z : Rat) := Rat.intCast_le_intCast.mpr (by omega)
  have h2 : (z : Rat) ≤ ((b : Int) : Rat) := Rat.intCast_le_intCast.mpr (by omega)
  have := cst b
  unfold Mg
  grind
theorem Mg.floor {b : Nat} {x : Rat} (h : Mg b x) : -(b : Int) ≤ x.floor ∧ x.floor ≤ b := by
  obtain ⟨h1, h2⟩ := h
  constructor
  · have := cst b
    rw [Rat.le_floor_iff]; grind
  · have q := Rat.floor_le x
    have := cst b
    have : (x.floor : Rat) ≤ (((b : Nat) : Int) : Rat) := by grind
    exact Rat.intCast_le_intCast.mp this
theorem Mg.ceil {b : Nat} {x : Rat} (h : Mg b x) : -(b : Int) ≤ x.ceil ∧ x.ceil ≤ b := by
  have := Mg.floor h.neg
  rw [Rat.ceil_eq_neg_floor_neg]
  omega
theorem Mg.foldl {a b : Nat} : ∀ (xs : List Rat) (s : Rat), (∀ x ∈ xs, Mg a x) → Mg b s → Mg (b + xs.length * a) (xs.foldl (· + ·) s)
  | [], s, _, h => by simpa using h
  | x :: xs, s, hx, h => by
    have := Mg.foldl xs (s + x) (fun y hy => hx y (List.mem_cons_of_mem _ hy)) (h.add (hx x List.mem_cons_self))
    rw [List.length_cons, Nat.add_mul, Nat.one_mul, show b + (xs.length * a + a) = b + a + xs.length * a by omega]
    exact this
theorem Mg.sum {a : Nat} {xs : List Rat} (h : ∀ x ∈ xs, Mg a x) : Mg (xs.length * a) (sumQ xs) := by
  have := Mg.foldl (b := 0) xs 0 h (by unfold Mg; decide)
  rwa [Nat.zero_add] at this
def Tm (g : Nat) (T : List (List Rat)) : Prop := ∀ r ∈ T, ∀ x ∈ r, Mg g x
theorem img_mg {g s n b : Nat} {T : List (List Rat)} {r : List Int} (h : Tm g T) (hT : Tb n b T) (hr : ∀ z ∈ r, z.natAbs ≤ s) : ∀ x ∈ img T r, Mg (n * (g * s)) x := by
  intro x hx
  obtain ⟨l, hl, rfl⟩ := List.mem_map.mp hx
  have e := hT.row l hl
  refine (Mg.sum (a := g * s) ?_).mono (Nat.mul_le_mul_right _ (Nat.le_trans dotZ_len (Nat.le_of_eq e)))
  intro x hx
  obtain ⟨⟨p, z⟩, hp, rfl⟩ := List.mem_map.mp hx
  have := List.of_mem_zip hp
  exact (h l hl p this.1).mul (Mg.int (hr z this.2))
/-! ### windows -/
def wpD (p : Rat × Rat) : D := .tup [qD p.1, qD p.2]
def wnD (w : List (Rat × Rat)) : D := .tup (w.map wpD)
structure Wn (n b : Nat) (w : List (Rat × Rat)) : Prop where
  len : w.length = n
  lo : ∀ p ∈ w, Bq b p.1
  hi : ∀ p ∈ w, Bq b p.2
  le : ∀ p ∈ w, p.1 ≤ p.2
theorem wpD_plain (n : Nat) (p : Rat × Rat) : plainD (n + 2) (wpD p) = true := by simp [wpD]
theorem wnD_plain (n : Nat) (w : List (Rat × Rat)) (h : w.length ≤ 1000000) : plainD (n + 3) (wnD w) = true := by
  simp [wnD, plainDs_iff, h]
  rintro d a b _ rfl
  exact wpD_plain n (a, b)
@[simp] theorem wnD_T (w : List (Rat × Rat)) : toT (wnD w) = wnD w := by simp [wnD, wpD]
theorem window_in {k n b : Nat} {w : List (Rat × Rat)} {m : M} (h : Wn n b w) (hn : 1 ≤ n) (hn2 : n ≤ 1000) (hb : b ≤ 4000) : t.call (k + 3) 23 [wnD w] m = .ok tru m := by
  have hl := h.len
  have hne : evEq (.tup (w.map wpD)) (.tup []) = some false := ne_nil (n := 0) m (fun x hx => by
    obtain ⟨r, hr, rfl⟩ := List.mem_map.mp hx
    exact okD_mono 2 39 _ (plain_ok 2 _ (wpD_plain 0 r)) (by omega)) (by
    intro e; have := congrArg List.length e; simp at this; subst this; simp at hl; omega)
  rw [call_S c23 rfl rfl]
  simp [c23, wnD, hne]
  rw [comp_enc w wpD (fun _ => tru) (by simp) (by omega) (fun p hp => ⟨_, by simp; rfl, by simp [wpD, long_tup]⟩)]
  simp [allBl_map (fun _ => true)]
  rw [s_for' (w.map wpD) (m' := m) (by simp), (forL_state (E := fun s : Option D × Option D => [some (.tup (w.map wpD)), s.1, s.2, none]) (mm := fun _ => m) (f := fun s x => (some (qD x.1), some (qD x.2))) (enc := wpD)
    (Inv := fun _ _ => True) w 0 (none, none) trivial ?_).1]
  · simp
  · intro i x s _ hi hm hs
    have q1 := h.lo x hm; have q2 := h.hi x hm; have q3 := h.le x hm
    refine ⟨?_, trivial⟩
    simp [forF, wpD, frac_ (k := k + 2) q1 (by omega) (by omega), frac_ (k := k + 2) q2 (by omega) (by omega), atmost_ (k + 1) m q1 q2 (by omega), q3]
theorem sure_window_ {k n b : Nat} {w : List (Rat × Rat)} {v : D} {m : M} (h : Wn n b w) (hn : 1 ≤ n) (hn2 : n ≤ 1000) (hb : b ≤ 4000) (hv : As 3 (wnD w) v) : t.call (k + 5) 24 [I n, v] m = .ok (wnD w) m := by
  have hl := h.len
  rw [call_S c24 rfl rfl]
  simp [c24, hv.tup (k := k + 4) (by omega), window_in (k := k + 1) h hn hn2 hb]
  simp [wnD, hl]
/-! ### what is near -/
def ends (p : List Rat) (w : List (Rat × Rat)) : List (Int × Int) := (p.zip w).map fun q => ((q.1 + q.2.1).ceil, (q.1 + q.2.2).floor)
def enD (e : Int × Int) : D := .tup [.int e.1, .int e.2]
theorem ends_ {k a b n : Nat} {p : List Rat} {w : List (Rat × Rat)} {m : M} (h : Wn n b w) (hn : n ≤ 1000) (hp : ∀ x ∈ p, Bq a x) (ha : a + b ≤ 8000) : t.call (k + 5) 26 [ptD p, wnD w] m = .ok (.lst ((ends p w).map enD)) m := by
  have hl := h.len
  rw [call_S c26 rfl rfl]
  simp [c26, ptD, wnD]
  rw [comp_enc (p.zip w) (fun q => .tup [qD q.1, wpD q.2]) (fun q => enD ((q.1 + q.2.1).ceil, (q.1 + q.2.2).floor)) (by simp [zip_W]) (by simp; omega) (fun q hq => ⟨_, by simp [wpD]; rfl, by
    obtain ⟨x, y, z⟩ := q
    have hz := List.of_mem_zip hq
    have b1 := hp x hz.1; have b2 := h.lo (y, z) hz.2; have b3 := h.hi (y, z) hz.2
    simp [plus_ (k + 1) m b1 b2 (by omega), plus_ (k + 1) m b1 b3 (by omega), ceil_ (k + 3) m (x + y) (b1.add b2) (by omega), floor_ (k + 3) m (x + z) (b1.add b3) (by omega), enD]⟩)]
  simp [ends, fin_pure _ _ _ _ (show pure? (.lst ((p.zip w).map fun q => enD ((q.1 + q.2.1).ceil, (q.1 + q.2.2).floor))) = true by
    simp [pure?, pures_iff, enD]
    rintro d x y z _ rfl; rfl)]
end K3
namespace K3
open PySem Dx
/-! ### the rows near a point -/
def rngZ (a b : Int) : List Int := (List.range (b + 1 - a).toNat).map fun k : Nat => a + k
def cntE (e : Int × Int) : Nat := (e.2 + 1 - e.1).toNat
def ext1 (e : Int × Int) (r : List Int) : List (List Int) := (rngZ e.1 e.2).map fun k => r ++ [k]
def grow (S : List (List Int)) (e : Int × Int) : List (List Int) := S.flatMap (ext1 e)
def nearL (es : List (Int × Int)) : List (List Int) := es.foldl grow [[]]
theorem ext1_len (e : Int × Int) (r : List Int) : (ext1 e r).length = cntE e := by simp [ext1, rngZ, cntE]
theorem grow_len (S : List (List Int)) (e : Int × Int) : (grow S e).length = S.length * cntE e := by
  unfold grow
  induction S with
  | nil => simp
  | cons x S ih => rw [List.flatMap_cons, List.length_append, ih, ext1_len, List.length_cons, Nat.add_mul]; omega
theorem near_succ (es : List (Int × Int)) (i : Nat) (e : Int × Int) (h : es[i]? = some e) : nearL (es.take (i + 1)) = grow (nearL (es.take i)) e := by
  obtain ⟨hi, rfl⟩ := List.getElem?_eq_some_iff.mp h
  rw [List.take_succ_eq_append_getElem hi]
  unfold nearL
  rw [List.foldl_append]; rfl
theorem near_le {c : Nat} {es : List (Int × Int)} (hc : ∀ e ∈ es, cntE e ≤ c) : ∀ i, (nearL (es.take i)).length ≤ c ^ (min i es.length) := by
  intro i
  induction i with
  | zero => simp [nearL]
  | succ i ih =>
    rcases Nat.lt_or_ge i es.length with h | h
    · rw [near_succ es i es[i] (List.getElem?_eq_getElem h), grow_len, show min (i + 1) es.length = min i es.length + 1 by omega, Nat.pow_succ]
      exact Nat.mul_le_mul ih (hc _ (List.getElem_mem h))
    · rw [List.take_of_length_le (show es.length ≤ i + 1 by omega), show min (i + 1) es.length = min i es.length by omega]
      rw [List.take_of_length_le h] at ih
      exact ih
theorem near_le' {c : Nat} {es : List (Int × Int)} (hc : ∀ e ∈ es, cntE e ≤ c) (h1 : 1 ≤ c) (i : Nat) : (nearL (es.take i)).length ≤ c ^ es.length :=
  Nat.le_trans (near_le hc i) (Nat.pow_le_pow_right h1 (Nat.min_le_right _ _))
theorem sq_ctx {C : SRes → Prop} {r r' : SRes} (h : r = r') (hc : C r') : C r := by rw [h]; exact hc
theorem how_many_ {k a b n c : Nat} {p : List Rat} {w : List (Rat × Rat)} {m : M} (h : Wn n b w) (hn : n ≤ 1000) (hp : ∀ x ∈ p, Bq a x) (ha : a + b ≤ 8000) (hc : ∀ e ∈ ends p w, cntE e ≤ c) (h1 : 1 ≤ c) (hcn : c ^ (ends p w).length ≤ 10 ^ 9) :
    t.call (k + 6) 27 [ptD p, wnD w] m = .ok (I (nearL (ends p w)).length) m := by
  rw [call_S c27 rfl rfl]
  simp [c27]
  rw [s_for' ((ends p w).map enD) (m' := m) (by simp [ends_ h hn hp ha])]
  refine forL_C (C := fun r => endC _ _ (sqK _ _ r) = _) (P := fun i e m' => m' = m ∧ ∃ o3 o4, e = [some (ptD p), some (wnD w), some (I (nearL ((ends p w).take i)).length), o3, o4]) ⟨rfl, none, none, by simp [nearL]⟩ ?_ ?_
  · rintro i x e m' hx ⟨rfl, o3, o4, rfl⟩
    rw [List.getElem?_map] at hx
    obtain ⟨y, hy, rfl⟩ := Option.map_eq_some_iff.mp hx
    refine ⟨_, _, ?_, rfl, some (I y.1), some (I y.2), rfl⟩
    have e1 : ((nearL ((ends p w).take (i + 1))).length : Int) = (nearL ((ends p w).take i)).length * max 0 (y.2 - y.1 + 1) := by
      rw [near_succ _ i y hy, grow_len, Int.natCast_mul]
      congr 1
      unfold cntE; omega
    have hl := near_le' hc h1 i
    have o := mul_l (i := ((nearL ((ends p w).take i)).length : Int)) (j := max 0 (y.2 - y.1 + 1)) ⟨by omega, by omega⟩
    simp [forF, enD, o, e1]
  · rintro e m' ⟨rfl, o3, o4, rfl⟩
    rw [List.length_map, List.take_length]
    simp
/-- one place more -/
theorem near_inner {k : Nat} {pt wn : D} {b : M} {n0 : Nat} (hb : n0 ≤ b.length) (S : List (List Int)) (y : Int × Int) (hS : S.length * cntE y ≤ 1000) (h1 : -(2 ^ 60) ≤ y.1) (h2 : y.1 ≤ 2 ^ 60) (h3 : -(2 ^ 60) ≤ y.2) (h4 : y.2 ≤ 2 ^ 60) (m : M) (hm : m.length = n0) (hS2 : ∀ s ∈ S, s.length ≤ 1000)
    (F : D) (hF : F = .lst (S.map rowD) ∨ ∃ r, F = .ref r ∧ b[r]? = some (.lst (S.map rowD))) (o3 o4 o6 : Option D) (C : SRes → Prop)
    (hC : ∀ o6, C (.nx [some pt, some wn, some F, some (I y.1), some (I y.2), some (.ref b.length), o6, none] (b ++ [.lst ((grow S y).map rowD)]))) :
    C (evS (cf k m) (.for_ (.name 6) (.seq (.var 2)) (.cons (.ext (.var 5) (.lv (.comp (.bin .Add (.var 6) (.tup (.cons (.var 7) .nil))) (.name 7) (.rng2 (.var 3) (.bin .Add (.var 4) (.int 1))) (.none) [7]))) .nil)) [some pt, some wn, some F, some (I y.1), some (I y.2), some (.ref b.length), o6, none] (b ++ [.lst []])) := by
  have step : ∀ (i : Nat) (x : D) (e : Env') (m' : M), (S.map rowD)[i]? = some x →
      (∃ o6, e = [some pt, some wn, some F, some (I y.1), some (I y.2), some (.ref b.length), o6, none] ∧ m' = b ++ [.lst (((S.take i).flatMap (ext1 y)).map rowD)]) →
      ∃ e' m'', forF (cf k m) (.name 6) (.cons (.ext (.var 5) (.lv (.comp (.bin .Add (.var 6) (.tup (.cons (.var 7) .nil))) (.name 7) (.rng2 (.var 3) (.bin .Add (.var 4) (.int 1))) (.none) [7]))) .nil) x e m' = .nx e' m'' ∧ (∃ o6, e' = [some pt, some wn, some F, some (I y.1), some (I y.2), some (.ref b.length), o6, none] ∧ m'' = b ++ [.lst (((S.take (i + 1)).flatMap (ext1 y)).map rowD)]) := by
    rintro i x e m' hx ⟨o6, rfl, rfl⟩
    rw [List.getElem?_map] at hx
    obtain ⟨s, hs, rfl⟩ := Option.map_eq_some_iff.mp hx
    obtain ⟨hi, hsi⟩ := List.getElem?_eq_some_iff.mp hs
    have hmem : s ∈ S := hsi ▸ List.getElem_mem hi
    have ev : ∀ mm, evL (cf k m) (.comp (.bin .Add (.var 6) (.tup (.cons (.var 7) .nil))) (.name 7) (.rng2 (.var 3) (.bin .Add (.var 4) (.int 1))) (.none) [7]) [some pt, some wn, some F, some (I y.1), some (I y.2), some (.ref b.length), some (rowD s), none] mm = .ok ((ext1 y s).map rowD) mm := by
      intro mm
      rw [comp_enc (List.range (y.2 + 1 - y.1).toNat) (fun k => .int (y.1 + k)) (fun k => rowD (s ++ [y.1 + k])) (by simp; rw [rng2_ _ _ _ (by omega) (by omega) (by omega) (by omega)]) (by
        rw [List.length_range]
        have : S ≠ [] := by intro e; subst e; cases hmem
        have : 1 ≤ S.length := List.length_pos_iff.mpr this
        have := Nat.mul_le_mul_right (cntE y) this
        unfold cntE at *; omega) (fun j hj => ⟨_, by simp; rfl, by
          have := hS2 s hmem
          simp [rowD, show s.length + 1 ≤ 1000000 by omega]⟩)]
      simp [ext1, rngZ]
    have ln : (((S.take i).flatMap (ext1 y)).map rowD).length ≤ 1000 ∧ ((ext1 y s).map rowD).length ≤ 1000 := by
      have e1 := grow_len (S.take i) y
      unfold grow at e1
      rw [List.length_map, List.length_map, e1, ext1_len]
      have l1 : (S.take i).length ≤ S.length := by rw [List.length_take]; omega
      have := Nat.mul_le_mul_right (cntE y) l1
      have l2 : 1 ≤ S.length := by omega
      have := Nat.mul_le_mul_right (cntE y) l2
      omega
    refine ⟨_, _, ?_, some (rowD s), rfl, rfl⟩
    rw [List.take_succ_eq_append_getElem hi, hsi, List.flatMap_append]
    simp [forF]
    rw [ext_ _ _ _ _ _ _ ((ext1 y s).map rowD) (get_last b _) (by simp [ev]) (by omega) (.inl (by simp [hm, hb])), set_last]
    simp
  rcases hF with rfl | ⟨r, rfl, hr⟩
  · rw [s_for' (S.map rowD) (m' := b ++ [.lst []]) (by simp)]
    refine forL_C (C := C) (P := fun i e m' => ∃ o6, e = [some pt, some wn, some (.lst (S.map rowD)), some (I y.1), some (I y.2), some (.ref b.length), o6, none] ∧ m' = b ++ [.lst (((S.take i).flatMap (ext1 y)).map rowD)]) ⟨o6, rfl, by simp⟩ step ?_
    rintro e m' ⟨o6, rfl, rfl⟩
    rw [List.length_map, List.take_length]
    exact hC o6
  · have hlt : r < b.length := by
      rcases Nat.lt_or_ge r b.length with h | h
      · exact h
      · rw [List.getElem?_eq_none h] at hr; cases hr
    have hr' : ∀ o, (b ++ [o])[r]? = some (.lst (S.map rowD)) := fun o => by rw [List.getElem?_append_left hlt]; exact hr
    rw [s_forR _ _ _ _ _ _ r (S.map rowD).length (m' := b ++ [.lst []]) (by simp [seqV_r _ r (S.map rowD) (hr' _)])]
    refine forR_C (C := C) (P := fun i e m' => ∃ o6, e = [some pt, some wn, some (.ref r), some (I y.1), some (I y.2), some (.ref b.length), o6, none] ∧ m' = b ++ [.lst (((S.take i).flatMap (ext1 y)).map rowD)]) (xs := S.map rowD) rfl ⟨o6, rfl, by simp⟩ (by rintro i e m' ⟨o6, rfl, rfl⟩; exact hr' _) step ?_
    rintro e m' ⟨o6, rfl, rfl⟩
    rw [List.length_map, List.take_length]
    exact hC o6
theorem near_lens (es : List (Int × Int)) : ∀ i, ∀ s ∈ nearL (es.take i), s.length ≤ i := by
  intro i
  induction i with
  | zero => simp [nearL]
  | succ i ih =>
    rcases Nat.lt_or_ge i es.length with h | h
    · rw [near_succ es i es[i] (List.getElem?_eq_getElem h)]
      intro s hs
      obtain ⟨r, hr, hs⟩ := List.mem_flatMap.mp hs
      obtain ⟨z, _, rfl⟩ := List.mem_map.mp hs
      have := ih r hr
      simp; omega
    · rw [List.take_of_length_le (show es.length ≤ i + 1 by omega)]
      rw [List.take_of_length_le h] at ih
      exact fun s hs => Nat.le_succ_of_le (ih s hs)
theorem near_body {k a b n c : Nat} {p : List Rat} {w : List (Rat × Rat)} {m : M} (h : Wn n b w) (hn0 : 1 ≤ n) (hpl : p.length = n) (hn : n ≤ 100) (hp : ∀ x ∈ p, Bq a x) (ha : a + b ≤ 8000) (hc : ∀ e ∈ ends p w, cntE e ≤ c) (h1 : 1 ≤ c) (hcn : c ^ n ≤ 1000)
    (hz : ∀ e ∈ ends p w, (-(2 ^ 60) ≤ e.1 ∧ e.1 ≤ 2 ^ 60) ∧ -(2 ^ 60) ≤ e.2 ∧ e.2 ≤ 2 ^ 60) :
    ∃ g : M, evSs (cf (k + 5) m) c28.body [some (ptD p), some (wnD w), none, none, none, none, none, none] m = .ret (.ref (m ++ g).length) ((m ++ g) ++ [.lst ((nearL (ends p w)).map rowD)]) := by
  have el : (ends p w).length = n := by simp [ends, h.len, hpl]
  simp [c28]
  rw [s_for' ((ends p w).map enD) (m' := m) (by simp [ends_ h (by omega) hp ha])]
  refine forL_C (C := fun r => ∃ g : M, sqK _ _ r = SRes.ret (D.ref (m.length + g.length)) (m ++ (g ++ [.lst ((nearL (ends p w)).map rowD)])))
    (P := fun i e m' => ∃ F o3 o4 o5 o6, e = [some (ptD p), some (wnD w), some F, o3, o4, o5, o6, none] ∧ ((i = 0 ∧ m' = m ∧ F = .lst ((nearL ((ends p w).take i)).map rowD)) ∨ ∃ g : M, m' = (m ++ g) ++ [.lst ((nearL ((ends p w).take i)).map rowD)] ∧ F = .ref (m ++ g).length))
    ⟨.lst [.tup []], none, none, none, none, rfl, .inl ⟨rfl, rfl, by simp [nearL, rowD]⟩⟩ ?_ ?_
  · rintro i x e m' hx ⟨F, o3, o4, o5, o6, rfl, hF⟩
    rw [List.getElem?_map] at hx
    obtain ⟨y, hy, rfl⟩ := Option.map_eq_some_iff.mp hx
    obtain ⟨hi, hyi⟩ := List.getElem?_eq_some_iff.mp hy
    have hmem : y ∈ ends p w := hyi ▸ List.getElem_mem hi
    obtain ⟨⟨z1, z2⟩, z3, z4⟩ := hz y hmem
    have hl : (nearL ((ends p w).take i)).length * cntE y ≤ 1000 := by
      have q := near_le' hc h1 (i + 1)
      rw [near_succ _ i y hy, grow_len, el] at q
      omega
    have hlens : ∀ s ∈ nearL ((ends p w).take i), s.length ≤ 1000 := fun s hs => by
      have := near_lens (ends p w) i s hs
      omega
    have hbm : m.length ≤ m'.length := by
      rcases hF with ⟨_, rfl, _⟩ | ⟨g, rfl, _⟩ <;> simp
    have hs : forF (cf (k + 5) m) (.tup [.name 3, .name 4]) (.cons (.asg (.name 5) (.lm (.disp (.nil)))) (.cons (.for_ (.name 6) (.seq (.var 2)) (.cons (.ext (.var 5) (.lv (.comp (.bin .Add (.var 6) (.tup (.cons (.var 7) .nil))) (.name 7) (.rng2 (.var 3) (.bin .Add (.var 4) (.int 1))) (.none) [7]))) .nil)) (.cons (.asg (.name 2) (.var 5)) .nil))) (enD y) [some (ptD p), some (wnD w), some F, o3, o4, o5, o6, none] m' = sqK (cf (k + 5) m) (.cons (.asg (.name 2) (.var 5)) .nil) (evS (cf (k + 5) m) (.for_ (.name 6) (.seq (.var 2)) (.cons (.ext (.var 5) (.lv (.comp (.bin .Add (.var 6) (.tup (.cons (.var 7) .nil))) (.name 7) (.rng2 (.var 3) (.bin .Add (.var 4) (.int 1))) (.none) [7]))) .nil)) [some (ptD p), some (wnD w), some F, some (I y.1), some (I y.2), some (.ref m'.length), o6, none] (m' ++ [.lst []])) := by simp [forF, enD]
    rw [hs]
    refine near_inner (n0 := m.length) (b := m') hbm (nearL ((ends p w).take i)) y hl z1 z2 z3 z4 m rfl hlens F ?_ o3 o4 o6 (fun r => ∃ e' m'', sqK (cf (k + 5) m) (.cons (.asg (.name 2) (.var 5)) .nil) r = SRes.nx e' m'' ∧ ∃ F o3 o4 o5 o6, e' = [some (ptD p), some (wnD w), some F, o3, o4, o5, o6, none] ∧ ((i + 1 = 0 ∧ m'' = m ∧ F = .lst ((nearL ((ends p w).take (i + 1))).map rowD)) ∨ ∃ g : M, m'' = (m ++ g) ++ [.lst ((nearL ((ends p w).take (i + 1))).map rowD)] ∧ F = .ref (m ++ g).length)) ?_
    · rcases hF with ⟨_, _, rfl⟩ | ⟨g, rfl, rfl⟩
      · exact .inl rfl
      · exact .inr ⟨_, rfl, get_last _ _⟩
    · intro o6
      refine ⟨[some (ptD p), some (wnD w), some (.ref m'.length), some (I y.1), some (I y.2), some (.ref m'.length), o6, none], m' ++ [.lst ((grow (nearL ((ends p w).take i)) y).map rowD)], by simp, _, _, _, _, _, rfl, .inr ?_⟩
      rcases hF with ⟨_, rfl, rfl⟩ | ⟨g, rfl, rfl⟩
      · exact ⟨[], by rw [near_succ _ i y hy]; simp, by simp⟩
      · exact ⟨g ++ [.lst ((nearL ((ends p w).take i)).map rowD)], by rw [near_succ _ i y hy]; simp, by simp⟩
  · rintro e m' ⟨F, o3, o4, o5, o6, rfl, hF⟩
    rw [List.length_map, List.take_length] at hF
    rcases hF with ⟨q, _⟩ | ⟨g, rfl, rfl⟩
    · exfalso; omega
    · exact ⟨g, by simp⟩
end K3
namespace K3
open PySem Dx
/-! ### the law's own near rows -/
theorem take_map {α β : Type} (f : α → β) (xs : List α) (i : Nat) (x : α) (h : xs[i]? = some x) : (xs.map f).take (i + 1) = (xs.map f).take i ++ [f x] := by
  obtain ⟨hi, rfl⟩ := List.getElem?_eq_some_iff.mp h
  rw [List.take_succ_eq_append_getElem (by simpa using hi)]; simp
theorem lends_ {k a b n : Nat} {p : List Rat} {w : List (Rat × Rat)} {m : M} (h : Wn n b w) (hn : n ≤ 1000) (hp : ∀ x ∈ p, Bq a x) (ha : a + b ≤ 8000) : t.call (k + 4) 58 [ptD p, wnD w] m = .ok (.lst ((ends p w).map enD)) m := by
  have hl := h.len
  have el : (p.zip w).length ≤ n := by rw [List.length_zip]; omega
  rw [call_S c58 rfl rfl]
  simp [c58, ptD, wnD]
  rw [s_for' ((p.zip w).map fun q => D.tup [qD q.1, wpD q.2]) (m' := m ++ [.lst []]) (by simp [zip_W])]
  refine forL_C (C := fun r => endC _ _ (sqK _ _ r) = _) (P := fun i e m' => m' = m ++ [.lst ((((p.zip w).map fun q : Rat × Rat × Rat => ((q.1 + q.2.1).ceil, (q.1 + q.2.2).floor)).take i).map enD)] ∧ ∃ o3 o4 o5 o6 o7, e = [some (.tup (p.map qD)), some (.tup (w.map wpD)), some (.ref m.length), o3, o4, o5, o6, o7]) ⟨by simp, _, _, _, _, _, rfl⟩ ?_ ?_
  · rintro i x e m' hx ⟨rfl, o3, o4, o5, o6, o7, rfl⟩
    rw [List.getElem?_map] at hx
    obtain ⟨⟨x, y, z⟩, hq, rfl⟩ := Option.map_eq_some_iff.mp hx
    obtain ⟨hi, hqi⟩ := List.getElem?_eq_some_iff.mp hq
    have hz := List.of_mem_zip (hqi ▸ List.getElem_mem hi)
    have b1 := hp x hz.1; have b2 := h.lo (y, z) hz.2; have b3 := h.hi (y, z) hz.2
    have d1 := div_sz (den_pos (x + y)) ((b1.add b2).den.mono (by omega))
    have d2 := div_sz (den_pos (x + z)) ((b1.add b3).den.mono (by omega))
    rw [take_map _ _ _ _ hq]
    refine ⟨[some (.tup (p.map qD)), some (.tup (w.map wpD)), some (.ref m.length), some (qD x), some (qD y), some (qD z), some (qD (x + y)), some (qD (x + z))], _, ?_, rfl, _, _, _, _, _, rfl⟩
    simp [forF, wpD]
    simp [lplus_ (k + 1) _ b1 b2 (by omega), lplus_ (k + 1) _ b1 b3 (by omega)]
    rw [app_ _ _ _ _ _ _ (.tup [.int (x + y).ceil, .int (x + z).floor]) (get_last m _) (by simp [qD, d1, d2, Rat.ceil_eq_neg_floor_neg, Rat.floor_def]) (by simp; omega) (.inl (by simp)), set_last]
    simp [enD]
  · rintro e m' ⟨rfl, o3, o4, o5, o6, o7, rfl⟩
    rw [List.length_map, List.take_of_length_le (by simp)]
    simp
    rw [fin_own _ _ _ ((ends p w).map enD) (Nat.le_refl _) (by simp [ends]) (by simp [pures_iff, enD]; rintro d x y _ rfl; rfl)]
    simp
theorem lnear_ {k a b n c : Nat} {p : List Rat} {w : List (Rat × Rat)} {m : M} (h : Wn n b w) (hpl : p.length = n) (hn : n ≤ 100) (hp : ∀ x ∈ p, Bq a x) (ha : a + b ≤ 8000) (hc : ∀ e ∈ ends p w, cntE e ≤ c) (h1 : 1 ≤ c) (hcn : c ^ n ≤ 1000)
    (hz : ∀ e ∈ ends p w, (-(2 ^ 60) ≤ e.1 ∧ e.1 ≤ 2 ^ 60) ∧ -(2 ^ 60) ≤ e.2 ∧ e.2 ≤ 2 ^ 60) : t.call (k + 5) 59 [ptD p, wnD w] m = .ok (.lst ((nearL (ends p w)).map rowD)) m := by
  have el : (ends p w).length = n := by simp [ends, h.len, hpl]
  rw [call_S c59 rfl rfl]
  simp [c59]
  rw [s_for' ((ends p w).map enD) (m' := m) (by simp [lends_ h (by omega) hp ha])]
  refine forL_C (C := fun r => endC _ _ (sqK _ _ r) = _) (P := fun i e m' => m' = m ∧ ∃ o3 o4 o5 o6, e = [some (ptD p), some (wnD w), some (.lst ((nearL ((ends p w).take i)).map rowD)), o3, o4, o5, o6, none]) ⟨rfl, none, none, none, none, by simp [nearL, rowD]⟩ ?_ ?_
  · rintro i x e m' hx ⟨rfl, o3, o4, o5, o6, rfl⟩
    rw [List.getElem?_map] at hx
    obtain ⟨y, hy, rfl⟩ := Option.map_eq_some_iff.mp hx
    obtain ⟨hi, hyi⟩ := List.getElem?_eq_some_iff.mp hy
    have hmem : y ∈ ends p w := hyi ▸ List.getElem_mem hi
    obtain ⟨⟨z1, z2⟩, z3, z4⟩ := hz y hmem
    have hl : (nearL ((ends p w).take i)).length * cntE y ≤ 1000 := by
      have q := near_le' hc h1 (i + 1)
      rw [near_succ _ i y hy, grow_len, el] at q
      omega
    have hlens : ∀ s ∈ nearL ((ends p w).take i), s.length ≤ 1000 := fun s hs => by
      have := near_lens (ends p w) i s hs
      omega
    rw [near_succ _ i y hy]
    generalize nearL ((ends p w).take i) = S at hl hlens ⊢
    have hs : forF (cf (k + 4) m') (.tup [.name 3, .name 4]) (.cons (.asg (.name 5) (.lv (.disp (.nil)))) (.cons (.for_ (.name 6) (.seq (.var 2)) (.cons (.asg (.name 5) (.bin .Add (.var 5) (.lv (.comp (.bin .Add (.var 6) (.tup (.cons (.var 7) .nil))) (.name 7) (.rng2 (.var 3) (.bin .Add (.var 4) (.int 1))) (.none) [7])))) .nil)) (.cons (.asg (.name 2) (.var 5)) .nil))) (enD y) [some (ptD p), some (wnD w), some (.lst (S.map rowD)), o3, o4, o5, o6, none] m' = sqK (cf (k + 4) m') (.cons (.asg (.name 2) (.var 5)) .nil) (evS (cf (k + 4) m') (.for_ (.name 6) (.seq (.var 2)) (.cons (.asg (.name 5) (.bin .Add (.var 5) (.lv (.comp (.bin .Add (.var 6) (.tup (.cons (.var 7) .nil))) (.name 7) (.rng2 (.var 3) (.bin .Add (.var 4) (.int 1))) (.none) [7])))) .nil)) [some (ptD p), some (wnD w), some (.lst (S.map rowD)), some (I y.1), some (I y.2), some (.lst []), o6, none] m') := by simp [forF, enD]
    rw [hs, s_for' (S.map rowD) (m' := m') (by simp)]
    refine forL_C (C := fun r => ∃ e' m'', sqK (cf (k + 4) m') (.cons (.asg (.name 2) (.var 5)) .nil) r = SRes.nx e' m'' ∧ m'' = m' ∧ ∃ o3 o4 o5 o6, e' = [some (ptD p), some (wnD w), some (.lst ((grow S y).map rowD)), o3, o4, o5, o6, none])
      (P := fun j e m'' => m'' = m' ∧ ∃ o6, e = [some (ptD p), some (wnD w), some (.lst (S.map rowD)), some (I y.1), some (I y.2), some (.lst (((S.take j).flatMap (ext1 y)).map rowD)), o6, none]) ⟨rfl, o6, by simp⟩ ?_ ?_
    · rintro j x e m'' hx ⟨rfl, o6, rfl⟩
      rw [List.getElem?_map] at hx
      obtain ⟨s, hs, rfl⟩ := Option.map_eq_some_iff.mp hx
      obtain ⟨hj, hsj⟩ := List.getElem?_eq_some_iff.mp hs
      have hmem : s ∈ S := hsj ▸ List.getElem_mem hj
      have ev : evL (cf (k + 4) m'') (.comp (.bin .Add (.var 6) (.tup (.cons (.var 7) .nil))) (.name 7) (.rng2 (.var 3) (.bin .Add (.var 4) (.int 1))) (.none) [7]) [some (ptD p), some (wnD w), some (.lst (S.map rowD)), some (I y.1), some (I y.2), some (.lst (((S.take j).flatMap (ext1 y)).map rowD)), some (rowD s), none] m'' = .ok ((ext1 y s).map rowD) m'' := by
        rw [comp_enc (List.range (y.2 + 1 - y.1).toNat) (fun k => .int (y.1 + k)) (fun k => rowD (s ++ [y.1 + k])) (by simp; rw [rng2_ _ _ _ (by omega) (by omega) (by omega) (by omega)]) (by
          rw [List.length_range]
          have : S ≠ [] := by intro e; subst e; cases hmem
          have : 1 ≤ S.length := List.length_pos_iff.mpr this
          have := Nat.mul_le_mul_right (cntE y) this
          unfold cntE at *; omega) (fun j hj => ⟨_, by simp; rfl, by
            have := hlens s hmem
            simp [rowD, show s.length + 1 ≤ 1000000 by omega]⟩)]
        simp [ext1, rngZ]
      have ln : (((S.take j).flatMap (ext1 y))).length ≤ 1000 ∧ ((ext1 y s)).length ≤ 1000 := by
        have e1 := grow_len (S.take j) y
        unfold grow at e1
        rw [e1, ext1_len]
        have l1 : (S.take j).length ≤ S.length := by rw [List.length_take]; omega
        have := Nat.mul_le_mul_right (cntE y) l1
        have l2 : 1 ≤ S.length := by omega
        have := Nat.mul_le_mul_right (cntE y) l2
        omega
      refine ⟨_, _, ?_, rfl, some (rowD s), rfl⟩
      rw [List.take_succ_eq_append_getElem hj, hsj, List.flatMap_append]
      generalize hU : (S.take j).flatMap (ext1 y) = U at ev ln ⊢
      simp [forF, ev, show U.length + (ext1 y s).length ≤ 1000000 by omega]
    · rintro e m'' ⟨rfl, o6, rfl⟩
      rw [List.length_map, List.take_length]
      exact ⟨[some (ptD p), some (wnD w), some (.lst ((S.flatMap (ext1 y)).map rowD)), some (I y.1), some (I y.2), some (.lst ((S.flatMap (ext1 y)).map rowD)), o6, none], m'', by simp, rfl, _, _, _, _, rfl⟩
  · rintro e m' ⟨rfl, o3, o4, o5, o6, rfl⟩
    rw [List.length_map, List.take_length]
    simp
/-! ### whether a row is near -/
theorem mem_rngZ {a b z : Int} : z ∈ rngZ a b ↔ a ≤ z ∧ z ≤ b := by
  unfold rngZ
  rw [List.mem_map]
  constructor
  · rintro ⟨k, hk, rfl⟩
    rw [List.mem_range] at hk
    omega
  · rintro ⟨h1, h2⟩
    exact ⟨(z - a).toNat, by rw [List.mem_range]; omega, by omega⟩
def inE (r : List Int) (es : List (Int × Int)) : Bool := (r.zip es).all fun p => decide (p.2.1 ≤ p.1) && decide (p.1 ≤ p.2.2)
theorem mem_fold (es : List (Int × Int)) : ∀ (S : List (List Int)) (r : List Int), r ∈ es.foldl grow S ↔ ∃ s ∈ S, ∃ q, r = s ++ q ∧ q.length = es.length ∧ inE q es = true := by
  induction es with
  | nil =>
    intro S r
    constructor
    · intro h; exact ⟨r, h, [], by simp, rfl, rfl⟩
    · rintro ⟨s, hs, q, rfl, hq, _⟩
      rw [List.length_nil] at hq
      rw [List.eq_nil_of_length_eq_zero hq, List.append_nil]; exact hs
  | cons e es ih =>
    intro S r
    rw [List.foldl_cons, ih]
    constructor
    · rintro ⟨s, hs, q, rfl, hq, hi⟩
      obtain ⟨s0, h0, hs⟩ := List.mem_flatMap.mp hs
      obtain ⟨z, hz, rfl⟩ := List.mem_map.mp hs
      refine ⟨s0, h0, z :: q, by simp, by simp [hq], ?_⟩
      have := mem_rngZ.mp hz
      unfold inE at hi ⊢
      simp [this]
      simpa using hi
    · rintro ⟨s, hs, q, rfl, hq, hi⟩
      cases q with
      | nil => simp at hq
      | cons z q =>
        unfold inE at hi
        rw [List.zip_cons_cons, List.all_cons, Bool.and_eq_true, Bool.and_eq_true, decide_eq_true_eq, decide_eq_true_eq] at hi
        exact ⟨s ++ [z], List.mem_flatMap.mpr ⟨s, hs, List.mem_map.mpr ⟨z, mem_rngZ.mpr hi.1, rfl⟩⟩, q, by simp, by simpa using hq, hi.2⟩
theorem mem_near (es : List (Int × Int)) (r : List Int) : r ∈ nearL es ↔ r.length = es.length ∧ inE r es = true := by
  unfold nearL
  rw [mem_fold]
  constructor
  · rintro ⟨s, hs, q, rfl, hq, hi⟩
    rw [List.mem_singleton.mp hs, List.nil_append]
    exact ⟨hq, hi⟩
  · rintro ⟨h1, h2⟩
    exact ⟨[], by simp, r, by simp, h1, h2⟩
theorem near_is {k a b n : Nat} {p : List Rat} {w : List (Rat × Rat)} {r : List Int} {m : M} (h : Wn n b w) (hn : n ≤ 1000) (hp : ∀ x ∈ p, Bq a x) (ha : a + b ≤ 8000) :
    t.call (k + 6) 29 [ptD p, wnD w, rowD r] m = .ok (.bl (inE r (ends p w))) m := by
  have hl := h.len
  rw [call_S c29 rfl rfl]
  simp [c29]
  rw [comp_enc (r.zip (ends p w)) (fun q => .tup [.int q.1, enD q.2]) (fun q => .bl (decide (q.2.1 ≤ q.1) && decide (q.1 ≤ q.2.2))) (by simp [ends_ h hn hp ha]; simp [rowD, zip_W]) (by simp [ends]; omega) (fun q hq => ⟨_, by simp [enD]; rfl, by
    obtain ⟨z, x, y⟩ := q
    by_cases h1 : x ≤ z <;> simp [h1]⟩)]
  simp [allBl_map, inE, Function.comp_def]
theorem eqd_row (a b : List Int) : eqd (rowD a) (rowD b) = decide (a = b) := by
  unfold rowD
  rw [eqd_tt]
  induction a generalizing b with
  | nil => cases b <;> simp
  | cons x a ih => cases b with
    | nil => simp
    | cons y b => simp [ih, Bool.decide_and]
theorem row_ok (r : List Int) (n : Nat) : okD (rowD r) (n + 1) = true := by
  unfold rowD
  rw [okD_t, okDs_iff]
  intro d hd
  obtain ⟨z, _, rfl⟩ := List.mem_map.mp hd
  simp
theorem in_rows (r : List Int) (S : List (List Int)) : evIn (rowD r) (.lst (S.map rowD)) = some (decide (r ∈ S)) := by
  rw [evIn_ _ _ (row_ok r 39) (by
    rw [okD_l, okDs_iff]
    intro d hd
    obtain ⟨z, _, rfl⟩ := List.mem_map.mp hd
    exact row_ok z 38)]
  congr 1
  rw [Bool.eq_iff_iff]
  simp [List.any_map, Function.comp_def, eqd_row]
/-! ### how far off -/
def offL (p : List Rat) (r : List Int) : List Rat := (p.zip r).map fun q => (q.2 : Rat) - q.1
theorem off_ {k a s : Nat} {p : List Rat} {r : List Int} {m : M} (hp : ∀ x ∈ p, Bq a x) (hr : ∀ z ∈ r, Sz s z) (ha : a + s ≤ 8000) (hl : p.length ≤ 1000) : t.call (k + 4) 30 [ptD p, rowD r] m = .ok (ptD (offL p r)) m := by
  rw [call_S c30 rfl rfl]
  simp [c30, ptD, rowD]
  rw [comp_enc (p.zip r) (fun q => .tup [qD q.1, .int q.2]) (fun q => qD ((q.2 : Rat) - q.1)) (by simp [zip_W]) (by simp; omega) (fun q hq => ⟨_, by simp; rfl, by
    obtain ⟨x, z⟩ := q
    have hz := List.of_mem_zip hq
    have r1 := less_ k m (Bq.int (hr z hz.2)) (hp x hz.1) (by omega)
    have e : qD (z : Rat) = .tup [.int z, .int 1] := rfl
    rw [e] at r1
    simp [r1]⟩)]
  simp [offL]
theorem lless_ {a b : Nat} {x y : Rat} (k : Nat) (m : M) (h : Bq a x) (w : Bq b y) (hb : a + b ≤ 8400) : t.call (k + 2) 52 [qD x, qD y] m = .ok (qD (x - y)) m := by
  have r := cut_ k (x.num * y.den - y.num * x.den) (x.den * y.den) m ((h.dd w).mono (by omega)) (dd_ne x y)
  rw [sub_dv] at r
  rw [call_S c52 rfl rfl]
  simp [c52, qD, mul_ok h.1 w.den (by omega), mul_ok w.1 h.den (by omega), mul_ok h.den w.den (by omega), r]
theorem lupto_ {a b : Nat} {x y : Rat} (k : Nat) (m : M) (h : Bq a x) (w : Bq b y) (hb : a + b ≤ 8400) : t.call (k + 1) 53 [qD x, qD y] m = .ok (B (decide (x ≤ y))) m := by
  rw [call_S c53 rfl rfl]
  simp [c53, qD, mul_ok h.1 w.den (by omega), mul_ok w.1 h.den (by omega), Rat.le_iff]
theorem loffs_ {k a s n : Nat} {T : List (List Rat)} {r q : List Int} {m : M} (h : Tb n a T) (hn : n ≤ 3) (hr : ∀ z ∈ r, Sz s z) (hq : ∀ z ∈ q, Sz s z) (ha : a ≤ 200) (hs : s ≤ 198) : t.call (k + 6) 65 [tbD T, rowD r, rowD q] m = .ok (ptD (offL (img T r) q)) m := by
  rw [call_S c65 rfl rfl]
  have hb := img_bq h hr
  have hl : (img T r).length ≤ 3 := by rw [img_len, h.len]; exact hn
  have hle : n * (a + s + 1) ≤ 3 * 399 := Nat.mul_le_mul hn (by omega)
  simp [c65, limage_ (k := k) h hn hr ha hs]
  rw [comp_enc ((img T r).zip q) (fun q => .tup [qD q.1, .int q.2]) (fun q => qD ((q.2 : Rat) - q.1)) (by simp [limage_ (k := k) h hn hr ha hs]; simp [ptD, rowD, zip_W]) (by simp; omega) (fun y hy => ⟨_, by simp; rfl, by
    obtain ⟨x, z⟩ := y
    have hz := List.of_mem_zip hy
    have r1 := lless_ (k + 3) m (Bq.int (hq z hz.2)) (hb x hz.1) (by omega)
    have e : qD (z : Rat) = .tup [.int z, .int 1] := rfl
    rw [e] at r1
    simp [r1]⟩)]
  simp [offL, ptD]
def mx (x y : Rat) : Rat := if x ≤ y then y else x
theorem Bq.mxx {a : Nat} {x y : Rat} (h : Bq a x) (w : Bq a y) : Bq a (mx x y) := by
  unfold mx; split <;> assumption
theorem great_ {k a : Nat} {x : Rat} {xs : List Rat} {m : M} (hx : ∀ y ∈ x :: xs, Bq a y) (ha : a ≤ 4000) : t.call (k + 2) 16 [.lst ((x :: xs).map qD)] m = .ok (qD (xs.foldl mx x)) m := by
  rw [call_S c16 rfl rfl]
  simp [c16]
  have key : ((x :: xs).foldl mx x) = xs.foldl mx x := by
    rw [List.foldl_cons]; congr 1; unfold mx; split <;> rfl
  rw [← key, s_for' ((x :: xs).map qD) (m' := m) (by simp), (forL_state (E := fun s : Rat × Option D => [some (.lst (qD x :: xs.map qD)), some (qD s.1), s.2]) (mm := fun _ => m) (f := fun s y => (mx s.1 y, some (qD y))) (enc := qD)
    (Inv := fun _ s => Bq a s.1) (x :: xs) 0 (x, none) (hx x List.mem_cons_self) ?_).1]
  · have fst : ∀ (ys : List Rat) (s : Rat × Option D), (ys.foldl (fun s y => (mx s.1 y, some (qD y))) s).1 = ys.foldl mx s.1 := by
      intro ys
      induction ys with
      | nil => intro s; rfl
      | cons y ys ih => intro s; exact ih _
    simp [fst]
  · intro i y s _ _ hm hs
    refine ⟨?_, hs.mxx (hx y hm)⟩
    have r1 := atmost_ k m hs (hx y hm) (by omega)
    simp [forF, r1]
    by_cases h : s.1 ≤ y <;> simp [h, mx]
theorem abs_nn (x : Rat) : 0 ≤ x.abs := Rat.abs_nonneg
theorem lgreat_ {k a : Nat} {x : Rat} {xs : List Rat} {m : M} (hx : ∀ y ∈ x :: xs, Bq a y) (ha : a ≤ 4000) (ha1 : 1 ≤ a) : t.call (k + 2) 66 [.tup ((x :: xs).map qD)] m = .ok (qD ((xs.map Rat.abs).foldl mx x.abs)) m := by
  rw [call_S c66 rfl rfl]
  simp [c66]
  have key : (((x :: xs).map Rat.abs).foldl mx 0) = (xs.map Rat.abs).foldl mx x.abs := by
    rw [List.map_cons, List.foldl_cons]; congr 1; unfold mx; rw [if_pos (abs_nn x)]
  rw [zero_q, ← key, s_for' ((x :: xs).map qD) (m' := m) (by simp), (forL_state (E := fun s : Rat × Option D × Option D => [some (.tup (qD x :: xs.map qD)), some (qD s.1), s.2.1, s.2.2]) (mm := fun _ => m) (f := fun s y => (mx s.1 y.abs, some (qD y), some (qD y.abs))) (enc := qD)
    (Inv := fun _ s => Bq a s.1) (x :: xs) 0 (0, none, none) (Bq.zero.mono ha1) ?_).1]
  · have fst : ∀ (ys : List Rat) (s : Rat × Option D × Option D), (ys.foldl (fun s y => (mx s.1 y.abs, some (qD y), some (qD y.abs))) s).1 = (ys.map Rat.abs).foldl mx s.1 := by
      intro ys
      induction ys with
      | nil => intro s; rfl
      | cons y ys ih => intro s; exact ih _
    simp [fst]
  · intro i y s _ _ hm hs
    refine ⟨?_, hs.mxx (hx y hm).abs⟩
    have r1 := lupto_ k m hs (hx y hm).abs (by omega)
    have e : qD y.abs = .tup [.int y.num.natAbs, .int y.den] := by simp [qD, abs_n, abs_d]
    rw [e] at r1
    simp [forF, qD]
    simp [qD] at r1
    simp [r1]
    by_cases h : s.1 ≤ y.abs <;> simp [h, mx, abs_n, abs_d]
end K3
namespace K3
open PySem Dx
/-! ### drawn fractions, tables -/
theorem qD_pure (x : Rat) : pure? (qD x) = true := rfl
theorem cutn_ (k : Nat) (u l : Int) (m : M) (hl : 1 ≤ l) (hl2 : l ≤ 1000) (hu : u.natAbs ≤ 1000) : t.call (k + 1) 49 [I u, I l] m = .ok (qD (Rat.divInt u l)) m :=
  cut_ k u l m ((small_sz ⟨by omega, by omega⟩).mono (by omega)) (by omega)
theorem Mg.cut {u l : Int} {g : Nat} (hl : 1 ≤ l) (hu : u.natAbs ≤ g) : Mg g (Rat.divInt u l) := by
  rw [Rat.divInt_eq_div]
  have l0 : (0 : Rat) < (l : Rat) := Rat.intCast_pos.mpr (by omega)
  have l1 : (1 : Rat) ≤ (l : Rat) := by have := Rat.intCast_le_intCast.mpr hl; exact this
  have hm := Mg.int hu
  obtain ⟨h1, h2⟩ := hm
  have g0 : (0 : Rat) ≤ g := Rat.natCast_nonneg
  have e : (u : Rat) / l * l = u := Rat.div_mul_cancel (Rat.ne_of_gt l0)
  constructor
  · apply Rat.le_of_mul_le_mul_right (c := (l : Rat)) _ l0
    rw [e]
    have := Rat.mul_nonneg g0 (show 0 ≤ (l : Rat) - 1 by grind)
    grind
  · apply Rat.le_of_mul_le_mul_right (c := (l : Rat)) _ l0
    rw [e]
    have := Rat.mul_nonneg g0 (show 0 ≤ (l : Rat) - 1 by grind)
    grind
theorem Bq.cut {u l : Int} {n : Nat} (hl : 1 ≤ l) (h : l < 2 ^ n) (hu : u.natAbs < 2 ^ n) : Bq n (Rat.divInt u l) :=
  Bq.divInt hu (by
    unfold Sz
    have : (l.natAbs : Int) < ((2 ^ n : Nat) : Int) := by rw [Int.natCast_pow]; show _ < (2 : Int) ^ n; omega
    omega) (by omega)
/-- a small fraction: at most 3 bits, at most g great -/
structure Fq (g : Nat) (x : Rat) : Prop where
  b : Bq 4 x
  m : Mg g x
theorem fraction_ (k : Nat) (w : Int) {n : Nat} {ρ m : M} (hw : 1 ≤ w) (hw2 : w ≤ 6) (h : Tin n ρ m) (hn : n ≤ 2 ^ 39) :
    ∃ x m', t.call (k + 3) 60 [.ref 0, I w] m = .ok (qD x) m' ∧ Fq w.toNat x ∧ Tin (n + 2) ρ m' := by
  obtain ⟨d, m1, e1, d0, d1, p1⟩ := take_ (k + 1) (2 * w + 1) (by omega) ⟨by omega, by omega⟩ h (by omega)
  obtain ⟨y, hy, m2, e2, p2⟩ := of_mem k [I 1, I 1, I 2, I 2, I 3, I 4] rfl (by simp) (by simp) p1 (by omega)
  have ⟨l, hl, l1, l2⟩ : ∃ l : Int, y = I l ∧ 1 ≤ l ∧ l ≤ 4 := by
    simp at hy
    rcases hy with rfl | rfl | rfl | rfl <;> exact ⟨_, rfl, by omega, by omega⟩
  subst hl
  refine ⟨Rat.divInt (d - w) l, m2, ?_, ⟨Bq.cut l1 (by show l < 16; omega) (by show _ < 16; omega), Mg.cut l1 (by omega)⟩, p2⟩
  have e3 := cutn_ (k + 1) (d - w) l m2 l1 (by omega) (by omega)
  have mw := mul_l (i := 2) (j := w) ⟨by omega, by omega⟩
  rw [call_S c60 rfl rfl]
  simp [c60, mw, e1, e2, e3]
  rw [fin_pure _ _ _ _ (qD_pure _), h.len, ← p2.len, List.take_length]
def unitT (n : Nat) : List (List Rat) := (List.range n).map fun k => (List.range n).map fun j => if k = j then 1 else 0
def colsT (B : List (List Rat)) : List (List Rat) := (List.range B.length).map fun k => B.map fun r => r.getD k 0
def dotQ (l c : List Rat) : List Rat := (l.zip c).map fun p => p.1 * p.2
def mulT (A B : List (List Rat)) : List (List Rat) := A.map fun l => (colsT B).map fun c => sumQ (dotQ l c)
theorem unit_tb (n : Nat) : Tb n 1 (unitT n) := by
  refine ⟨by simp [unitT], ?_, ?_⟩
  · intro r hr
    obtain ⟨k, _, rfl⟩ := List.mem_map.mp hr
    simp
  · intro r hr x hx
    obtain ⟨k, _, rfl⟩ := List.mem_map.mp hr
    obtain ⟨j, _, rfl⟩ := List.mem_map.mp hx
    split
    · exact Bq.one
    · exact Bq.zero
theorem unit_tm (n : Nat) : Tm 1 (unitT n) := by
  intro r hr x hx
  obtain ⟨k, _, rfl⟩ := List.mem_map.mp hr
  obtain ⟨j, _, rfl⟩ := List.mem_map.mp hx
  split <;> (unfold Mg; decide)
theorem lunit_ (k n : Nat) (m : M) (hn : n ≤ 1000) : t.call (k + 1) 57 [I n] m = .ok (tbD (unitT n)) m := by
  rw [call_S c57 rfl rfl]
  simp [c57]
  rw [comp_enc (List.range n) (fun i => .int i) (fun i => ptD ((List.range n).map fun j => if i = j then 1 else 0)) (by simp; rw [rng1_ _ _ (by omega) (by omega)]; simp) (by simp; omega) (fun i hi => ⟨_, by simp; rfl, by
    simp
    rw [comp_enc (List.range n) (fun i => .int i) (fun j => qD (if i = j then 1 else 0)) (by simp; rw [rng1_ _ _ (by omega) (by omega)]; simp) (by simp; omega) (fun j hj => ⟨_, by simp; rfl, by
      have : ((i : Int) = (j : Int)) ↔ i = j := by omega
      by_cases h : i = j
      · subst h; simp; rfl
      · simp [this, h]; rfl⟩)]
    simp [ptD]⟩)]
  simp [tbD, unitT]
theorem col_len {B : List (List Rat)} {n b : Nat} (h : Tb n b B) : ∀ c ∈ colsT B, c.length = n ∧ ∀ x ∈ c, Bq b x := by
  intro c hc
  obtain ⟨k, hk, rfl⟩ := List.mem_map.mp hc
  rw [List.mem_range, h.len] at hk
  refine ⟨by simp [h.len], fun x hx => ?_⟩
  obtain ⟨r, hr, rfl⟩ := List.mem_map.mp hx
  have hl := h.row r hr
  have e : r.getD k 0 = r[k] := by
    rw [List.getD_eq_getElem?_getD, List.getElem?_eq_getElem (by omega)]; rfl
  rw [e]
  exact h.bq r hr _ (List.getElem_mem _)
theorem dotQ_bq {a b : Nat} {l c : List Rat} (hl : ∀ x ∈ l, Bq a x) (hc : ∀ x ∈ c, Bq b x) : ∀ x ∈ dotQ l c, Bq (a + b) x := by
  intro x hx
  obtain ⟨⟨p, q⟩, hp, rfl⟩ := List.mem_map.mp hx
  have := List.of_mem_zip hp
  exact (hl p this.1).mul (hc q this.2)
theorem dotQ_len {l c : List Rat} : (dotQ l c).length ≤ l.length := by unfold dotQ; simp; omega
theorem mul_tb {n a b : Nat} {A B : List (List Rat)} (h : Tb n a A) (w : Tb n b B) : Tb n (1 + n * (a + b + 1)) (mulT A B) := by
  refine ⟨by simp [mulT, h.len], ?_, ?_⟩
  · intro r hr
    obtain ⟨l, _, rfl⟩ := List.mem_map.mp hr
    simp [colsT, w.len]
  · intro r hr x hx
    obtain ⟨l, hl, rfl⟩ := List.mem_map.mp hr
    obtain ⟨c, hc, rfl⟩ := List.mem_map.mp hx
    refine (Bq.sum (dotQ_bq (h.bq l hl) (col_len w c hc).2)).mono ?_
    have e := h.row l hl
    have := Nat.mul_le_mul_right (a + b + 1) (Nat.le_trans dotQ_len (Nat.le_of_eq e) : (dotQ l c).length ≤ n)
    omega
theorem col_mg {B : List (List Rat)} {n b g : Nat} (h : Tb n b B) (hg : Tm g B) : ∀ c ∈ colsT B, ∀ x ∈ c, Mg g x := by
  intro c hc x hx
  obtain ⟨k, hk, rfl⟩ := List.mem_map.mp hc
  rw [List.mem_range, h.len] at hk
  obtain ⟨r, hr, rfl⟩ := List.mem_map.mp hx
  have hl := h.row r hr
  have e : r.getD k 0 = r[k] := by
    rw [List.getD_eq_getElem?_getD, List.getElem?_eq_getElem (by omega)]; rfl
  rw [e]
  exact hg r hr _ (List.getElem_mem _)
theorem mul_tm {n a b g g' : Nat} {A B : List (List Rat)} (h : Tb n a A) (w : Tb n b B) (hg : Tm g A) (wg : Tm g' B) : Tm (n * (g * g')) (mulT A B) := by
  intro r hr x hx
  obtain ⟨l, hl, rfl⟩ := List.mem_map.mp hr
  obtain ⟨c, hc, rfl⟩ := List.mem_map.mp hx
  refine (Mg.sum (a := g * g') ?_).mono (Nat.mul_le_mul_right _ (Nat.le_trans dotQ_len (Nat.le_of_eq (h.row l hl))))
  intro x hx
  obtain ⟨⟨p, q⟩, hp, rfl⟩ := List.mem_map.mp hx
  have := List.of_mem_zip hp
  exact (hg l hl p this.1).mul (col_mg w wg c hc q this.2)
theorem lproduct' {k a b n : Nat} {m : M} {A B : List (List Rat)} (d : D) (hd : d = .tup (A.map ptD) ∨ d = .lst (A.map ptD)) (h : Tb n a A) (w : Tb n b B) (hn : n ≤ 3) (ha : a ≤ 199) (hb : b ≤ 199) : t.call (k + 4) 56 [d, tbD B] m = .ok (tbD (mulT A B)) m := by
  have hla := h.len
  have hlb := w.len
  rw [call_S c56 rfl rfl]
  simp [c56, tbD]
  rw [comp_enc (List.range B.length) (fun i => .int i) (fun i => .lst ((B.map fun r => r.getD i 0).map qD)) (by simp; rw [rng1_ _ _ (by omega) (by omega)]; simp) (by simp; omega) (fun i hi => ⟨_, by simp; rfl, by
    rw [List.mem_range] at hi
    simp
    rw [comp_enc B ptD (fun r => qD (r.getD i 0)) (by simp) (by omega) (fun r hr => ⟨_, by simp; rfl, by
      have hrl := w.row r hr
      have e : r.getD i 0 = r[i] := by
        rw [List.getD_eq_getElem?_getD, List.getElem?_eq_getElem (by omega)]; rfl
      simp [ptD, idx_nat, List.getElem?_eq_getElem (show i < r.length by omega)]⟩)]
    simp⟩)]
  simp
  rw [comp_enc A ptD (fun l => ptD ((colsT B).map fun c => sumQ (dotQ l c))) (by rcases hd with rfl | rfl <;> simp) (by omega) (fun l hl => ⟨_, by simp; rfl, by
    have hrow := h.row l hl
    simp
    rw [comp_enc (colsT B) (fun c => .lst (c.map qD)) (fun c => qD (sumQ (dotQ l c))) (by simp [colsT, Function.comp_def]) (by simp [colsT]; omega) (fun c hc => ⟨_, by simp; rfl, by
      have hcl := col_len w c hc
      simp [ptD]
      rw [comp_enc (l.zip c) (fun p => .tup [qD p.1, qD p.2]) (fun p => qD (p.1 * p.2)) (by simp [zip_W]) (by simp; omega) (fun p hp => ⟨_, by simp; rfl, by
        obtain ⟨x, z⟩ := p
        have hz := List.of_mem_zip hp
        simp [lby_ (k + 1) m (h.bq l hl x hz.1) (hcl.2 z hz.2) (by omega)]⟩)]
      have L := lsum_ (k := k) (m := m) (dotQ l c) (dotQ_bq (h.bq l hl) hcl.2) (by
        have h1 := dotQ_len (l := l) (c := c)
        have h2 := Nat.mul_le_mul_right (a + b + 1) (Nat.le_trans h1 (Nat.le_of_eq hrow))
        have h3 : n * (a + b + 1) ≤ 3 * 399 := Nat.mul_le_mul hn (by omega)
        omega) (by omega)
      unfold dotQ at L
      rw [List.map_map] at L
      simp only [Function.comp_def] at L
      simp [L, dotQ]⟩)]
    simp [ptD]⟩)]
  simp [mulT, tbD]
theorem lproduct_ {k a b n : Nat} {m : M} {A B : List (List Rat)} (h : Tb n a A) (w : Tb n b B) (hn : n ≤ 3) (ha : a ≤ 199) (hb : b ≤ 199) : t.call (k + 4) 56 [tbD A, tbD B] m = .ok (tbD (mulT A B)) m := lproduct' _ (.inl rfl) h w hn ha hb
end K3
namespace K3
open PySem Dx
/-! ### a drawn TABLE -/
structure Ft (g n : Nat) (T : List (List Rat)) : Prop where
  len : T.length = n
  row : ∀ r ∈ T, r.length = n
  q : ∀ r ∈ T, ∀ x ∈ r, Fq g x
theorem Ft.tb {g n : Nat} {T : List (List Rat)} (h : Ft g n T) : Tb n 4 T := ⟨h.len, h.row, fun r hr x hx => (h.q r hr x hx).b⟩
theorem Ft.tm {g n : Nat} {T : List (List Rat)} (h : Ft g n T) : Tm g T := fun r hr x hx => (h.q r hr x hx).m
theorem Fq.zero {g : Nat} : Fq g 0 := ⟨Bq.zero.mono (by omega), (show Mg 0 0 by unfold Mg; decide).mono (by omega)⟩
theorem Fq.one {g : Nat} (h : 1 ≤ g) : Fq g 1 := ⟨Bq.one.mono (by omega), (show Mg 1 1 by unfold Mg; decide).mono h⟩
theorem tbD_pure (T : List (List Rat)) : pure? (tbD T) = true := by
  simp [tbD, pure?, pures_iff, ptD]
  intro r _ x _
  rfl
theorem get_tail (a : O) (ρ gb L : M) (q n : Nat) (h : n = ρ.length + gb.length + 1) : (a :: (ρ ++ (gb ++ L)))[n + q]? = L[q]? := by
  subst h
  rw [show ρ.length + gb.length + 1 + q = (ρ.length + (gb.length + q)) + 1 by omega, List.getElem?_cons_succ, List.getElem?_append_right (by omega), List.getElem?_append_right (by omega)]
  congr 1; omega
theorem set_tail (a : O) (ρ gb L : M) (q n : Nat) (o : O) (h : n = ρ.length + gb.length + 1) : (a :: (ρ ++ (gb ++ L))).set (n + q) o = a :: (ρ ++ (gb ++ L.set q o)) := by
  subst h
  rw [show ρ.length + gb.length + 1 + q = (ρ.length + (gb.length + q)) + 1 by omega, List.set_cons_succ, List.set_append_right _ _ (by omega), List.set_append_right _ _ (by omega)]
  congr 4; omega
theorem fin_T {n c : Nat} {ρ m m' : M} {d : D} (h : pure? d = true) (p : Tin n ρ m) (q : Tin c ρ m') : Dx.finish false m.length d m' = .ok d m' := by
  rw [fin_pure _ _ _ _ h, p.len, ← q.len, List.take_length]
theorem map_eq {α : Type} {f g : α → D} {xs : List α} (h : ∀ x ∈ xs, f x = g x) : xs.map f = xs.map g := List.map_congr_left h
/-- one slant, stretch: the unit TABLE with one number changed -/
def stepT (n i j : Nat) (x : Rat) : List (List Rat) := (unitT n).set i (((unitT n).getD i []).set j x)
theorem step_ft (n i j : Nat) (x : Rat) (h : Fq 2 x) : Ft 2 n (stepT n i j x) := by
  have hu := unit_tb n
  have key : ∀ r ∈ unitT n, ∀ x ∈ r, Fq 2 x := by
    intro r hr x hx
    obtain ⟨k, _, rfl⟩ := List.mem_map.mp hr
    obtain ⟨j, _, rfl⟩ := List.mem_map.mp hx
    split
    · exact Fq.one (by omega)
    · exact Fq.zero
  have mem : ∀ r ∈ stepT n i j x, r ∈ unitT n ∨ ∃ r0 ∈ unitT n, r = r0.set j x := by
    intro r hr
    rcases List.mem_or_eq_of_mem_set hr with h | h
    · exact .inl h
    · by_cases hi : i < (unitT n).length
      · exact .inr ⟨(unitT n)[i], List.getElem_mem hi, by rw [h, List.getD_eq_getElem?_getD, List.getElem?_eq_getElem hi]; rfl⟩
      · have e : (unitT n).set i (((unitT n).getD i []).set j x) = unitT n := List.set_eq_of_length_le (by omega)
        unfold stepT at hr
        rw [e] at hr
        exact .inl hr
  refine ⟨by simp [stepT, hu.len], ?_, ?_⟩
  · intro r hr
    rcases mem r hr with h | ⟨r0, h, rfl⟩
    · exact hu.row r h
    · rw [List.length_set]; exact hu.row r0 h
  · intro r hr y hy
    rcases mem r hr with h1 | ⟨r0, h1, rfl⟩
    · exact key r h1 y hy
    · rcases List.mem_or_eq_of_mem_set hy with h2 | h2
      · exact key r0 h1 y h2
      · rw [h2]; exact h
abbrev laps : CSs := (.cons (.asg (.name 6) (.lv (.comp (.lm (.lst (.var 11))) (.name 11) (.seq (.call 57 (.cons (.var 1) .nil))) (.none) [11]))) (.cons (.par2 9 10 (.call 40 (.cons (.var 0) (.cons (.var 1) .nil))) (.call 40 (.cons (.var 0) (.cons (.var 1) .nil)))) (.cons (.setI (.idx (.var 6) (.var 9)) (.var 10) (.ife (.cmp .NotEq (.var 9) (.var 10)) (.call 60 (.cons (.var 0) (.cons (.int 2) .nil))) (.call 42 (.cons (.var 0) (.cons (.lv (.disp (.cons (.tup (.cons (.neg (.int 1)) (.cons (.int 1) .nil))) (.cons (.tup (.cons (.int 2) (.cons (.int 1) .nil))) (.cons (.tup (.cons (.int 1) (.cons (.int 2) .nil))) (.cons (.tup (.cons (.int 3) (.cons (.int 2) .nil))) (.cons (.tup (.cons (.int 1) (.cons (.int 1) .nil))) .nil))))))) .nil))))) (.cons (.asg (.name 3) (.call 56 (.cons (.lv (.comp (.blt .toTuple (.cons (.var 11) .nil)) (.name 11) (.seq (.var 6)) (.none) [11])) (.cons (.var 3) .nil)))) .nil))))
theorem table_k0 {k c : Nat} {ρ m : M} (p : Tin c ρ m) (hc : c ≤ 2 ^ 38) : ∃ a b l m', t.call (k + 3) 42 [.ref 0, .lst [.tup [.tup [I 3, I 4], I 5], .tup [.tup [I (-4), I 3], I 5], .tup [.tup [I 5, I 12], I 13], .tup [.tup [I 0, I 1], I 1], .tup [.tup [I (-1), I 0], I 1]]] m = .ok (.tup [.tup [I a, I b], I l]) m' ∧
    1 ≤ l ∧ l ≤ 13 ∧ a.natAbs ≤ 12 ∧ b.natAbs ≤ 12 ∧ a.natAbs ≤ l ∧ b.natAbs ≤ l ∧ Tin (c + 1) ρ m' := by
  obtain ⟨y, hy, m', e, p'⟩ := of_mem (k + 1) [.tup [.tup [I 3, I 4], I 5], .tup [.tup [I (-4), I 3], I 5], .tup [.tup [I 5, I 12], I 13], .tup [.tup [I 0, I 1], I 1], .tup [.tup [I (-1), I 0], I 1]] rfl (by simp) (by simp) p (by omega)
  simp at hy
  rcases hy with rfl | rfl | rfl | rfl | rfl
  · exact ⟨3, 4, 5, m', e, by omega, by omega, by decide, by decide, by decide, by decide, p'⟩
  · exact ⟨-4, 3, 5, m', e, by omega, by omega, by decide, by decide, by decide, by decide, p'⟩
  · exact ⟨5, 12, 13, m', e, by omega, by omega, by decide, by decide, by decide, by decide, p'⟩
  · exact ⟨0, 1, 1, m', e, by omega, by omega, by decide, by decide, by decide, by decide, p'⟩
  · exact ⟨-1, 0, 1, m', e, by omega, by omega, by decide, by decide, by decide, by decide, p'⟩
/-- one lap of the slants -/
theorem table_lap {k n c b g : Nat} {ρ m0 m : M} (hm0 : m0.length = ρ.length + 1) (gb : M) (hn : 1 ≤ n) (hn3 : n ≤ 3) {T : List (List Rat)} (hT : Tb n b T) (hg : Tm g T) (hb : b ≤ 100) (x e4 e5 e6 e7 e8 e9 e10 : Option D) (lap : D) (p : Tin c (ρ ++ gb) m) (hc : c ≤ 2 ^ 38) :
    ∃ T' gb' m' f4 f5 f6 f7 f8 f9 f10, forF (cf (k + 4) m0) (.name 4) laps lap [some (.ref 0), some (I n), x, some (tbD T), e4, e5, e6, e7, e8, e9, e10, none] m = .nx [some (.ref 0), some (I n), x, some (tbD T'), f4, f5, f6, f7, f8, f9, f10, none] m' ∧
      Tb n (1 + n * (4 + b + 1)) T' ∧ Tm (n * (2 * g)) T' ∧ Tin (c + 4) (ρ ++ gb') m' := by
  have hu := unit_tb n
  have ul : (unitT n).length = n := hu.len
  -- the rows laid
  have rows : evL (cf (k + 4) m0) (.comp (.lm (.lst (.var 11))) (.name 11) (.seq (.call 57 (.cons (.var 1) .nil))) (.none) [11]) [some (.ref 0), some (I n), x, some (tbD T), some lap, e5, e6, e7, e8, e9, e10, none] m = .ok ((List.range n).map fun i => .ref (m.length + i)) (m ++ (unitT n).map fun r => .lst (r.map qD)) := by
    have := comp_alloc (c := cf (k + 4) m0) (e := [some (.ref 0), some (I n), x, some (tbD T), some lap, e5, e6, e7, e8, e9, e10, none]) (m := m) (elt := .lm (.lst (.var 11))) (tg := .name 11) (it := .seq (.call 57 (.cons (.var 1) .nil))) (own := [11]) (unitT n) ptD (fun r => r.map qD)
      (by have := lunit_ (k + 3) n m (by omega); simp [this]; simp [tbD]) (by omega) (fun r hr => ⟨_, by simp; rfl, fun m' => by simp [ptD]⟩)
    rw [ul] at this
    exact this
  generalize hm1 : (m ++ (unitT n).map fun r => O.lst (r.map qD)) = m1 at rows
  have p1 : Tin c (ρ ++ (gb ++ (unitT n).map fun r => O.lst (r.map qD))) m1 := by
    have := p.app ((unitT n).map fun r => O.lst (r.map qD))
    rw [hm1, List.append_assoc] at this; exact this
  obtain ⟨i, m2, t1, i0, i1, p2⟩ := take_ (k + 3) n (by omega) ⟨by omega, by omega⟩ p1 (by omega)
  obtain ⟨j, m3, t2, j0, j1, p3⟩ := take_ (k + 3) n (by omega) ⟨by omega, by omega⟩ p2 (by omega)
  have ⟨y, m4, ye, yq, p4⟩ : ∃ y m4, evE (cf (k + 4) m0) (.ife (.cmp .NotEq (.var 9) (.var 10)) (.call 60 (.cons (.var 0) (.cons (.int 2) .nil))) (.call 42 (.cons (.var 0) (.cons (.lv (.disp (.cons (.tup (.cons (.neg (.int 1)) (.cons (.int 1) .nil))) (.cons (.tup (.cons (.int 2) (.cons (.int 1) .nil))) (.cons (.tup (.cons (.int 1) (.cons (.int 2) .nil))) (.cons (.tup (.cons (.int 3) (.cons (.int 2) .nil))) (.cons (.tup (.cons (.int 1) (.cons (.int 1) .nil))) .nil))))))) .nil))))
      [some (.ref 0), some (I n), x, some (tbD T), some lap, e5, some (.lst ((List.range n).map fun i => .ref (m.length + i))), e7, e8, some (I i), some (I j), none] m3 = .ok (qD y) m4 ∧ Fq 2 y ∧ Tin (c + 4) (ρ ++ (gb ++ (unitT n).map fun r => O.lst (r.map qD))) m4 := by
    by_cases hij : i = j
    · obtain ⟨d, hd, m4, e4, p4⟩ := of_mem (k + 2) [.tup [I (-1), I 1], .tup [I 2, I 1], .tup [I 1, I 2], .tup [I 3, I 2], .tup [I 1, I 1]] rfl (by simp) (by simp) p3 (by omega)
      have ⟨y, hy, yq⟩ : ∃ y, d = qD y ∧ Fq 2 y := by
        simp at hd
        rcases hd with rfl | rfl | rfl | rfl | rfl
        · exact ⟨-1, rfl, ⟨Bq.one.neg.mono (by omega), by unfold Mg; decide⟩⟩
        · exact ⟨2, rfl, ⟨⟨by unfold Sz; decide, by decide⟩, by unfold Mg; decide⟩⟩
        · exact ⟨Rat.divInt 1 2, by unfold qD; rw [show (Rat.divInt 1 2).num = 1 by decide +kernel, show (Rat.divInt 1 2).den = 2 by decide +kernel]; rfl, ⟨Bq.cut (by omega) (by decide) (by decide), Mg.cut (by omega) (by omega)⟩⟩
        · exact ⟨Rat.divInt 3 2, by unfold qD; rw [show (Rat.divInt 3 2).num = 3 by decide +kernel, show (Rat.divInt 3 2).den = 2 by decide +kernel]; rfl, ⟨Bq.cut (by omega) (by decide) (by decide), by unfold Mg; decide +kernel⟩⟩
        · exact ⟨1, rfl, Fq.one (by omega)⟩
      subst hy
      exact ⟨y, m4, by simp [hij, e4], yq, p4.mono (by omega)⟩
    · obtain ⟨y, m4, e4, yq, p4⟩ := fraction_ (k + 1) 2 (by omega) (by omega) p3 (by omega)
      exact ⟨y, m4, by simp [hij, e4], yq, p4⟩
  -- the cell changed
  have hi : i.toNat < n := by omega
  have hiu : i.toNat < (unitT n).length := by omega
  have ml : m.length = ρ.length + gb.length + 1 := by have := p.len; simp at this; omega
  obtain ⟨a, b', c', rfl, hc0, hc1⟩ := p4
  have cell : (O.lst [I a, I b', I c'] :: (ρ ++ (gb ++ (unitT n).map fun r => O.lst (r.map qD))))[m.length + i.toNat]? = some (.lst (((unitT n)[i.toNat]).map qD)) := by
    rw [get_tail _ _ _ _ _ _ ml, List.getElem?_map, List.getElem?_eq_getElem hiu]; rfl
  have hst : storeI (cf (k + 4) m0) (O.lst [I a, I b', I c'] :: (ρ ++ (gb ++ (unitT n).map fun r => O.lst (r.map qD)))) (.ref (m.length + i.toNat)) (I j) (qD y) [some (.ref 0), some (I n), x, some (tbD T), some lap, e5, some (.lst ((List.range n).map fun i => .ref (m.length + i))), e7, e8, some (I i), some (I j), none]
      = .nx [some (.ref 0), some (I n), x, some (tbD T), some lap, e5, some (.lst ((List.range n).map fun i => .ref (m.length + i))), e7, e8, some (I i), some (I j), none] (O.lst [I a, I b', I c'] :: (ρ ++ (gb ++ (stepT n i.toNat j.toNat y).map fun r => O.lst (r.map qD)))) := by
    have hrl := hu.row _ (List.getElem_mem hiu)
    rw [setI' _ _ _ _ _ j _ cell j0 (by rw [List.length_map, hrl]; omega) (.inl (by simp [hm0]; omega))]
    rw [set_tail _ _ _ _ _ _ _ ml]
    refine congrArg (fun z => SRes.nx _ (O.lst [I a, I b', I c'] :: (ρ ++ (gb ++ z)))) ?_
    unfold stepT
    rw [List.getD_eq_getElem?_getD, List.getElem?_eq_getElem hiu]
    show _ = ((unitT n).set i.toNat (((unitT n)[i.toNat]).set j.toNat y)).map _
    rw [List.map_set, List.map_set]
  have sft := step_ft n i.toNat j.toNat y yq
  -- the rows read
  have read : evL (cf (k + 4) m0) (.comp (.blt .toTuple (.cons (.var 11) .nil)) (.name 11) (.seq (.var 6)) (.none) [11]) [some (.ref 0), some (I n), x, some (tbD T), some lap, e5, some (.lst ((List.range n).map fun i => .ref (m.length + i))), e7, e8, some (I i), some (I j), none] (O.lst [I a, I b', I c'] :: (ρ ++ (gb ++ (stepT n i.toNat j.toNat y).map fun r => O.lst (r.map qD)))) = .ok ((stepT n i.toNat j.toNat y).map ptD) (O.lst [I a, I b', I c'] :: (ρ ++ (gb ++ (stepT n i.toNat j.toNat y).map fun r => O.lst (r.map qD)))) := by
    rw [comp_enc (List.range n) (fun i => .ref (m.length + i)) (fun q => ptD ((stepT n i.toNat j.toNat y).getD q [])) (by simp) (by simp; omega) (fun q hq => ⟨_, by simp; rfl, by
      rw [List.mem_range] at hq
      have hq' : q < (stepT n i.toNat j.toNat y).length := by rw [sft.len]; exact hq
      have : (O.lst [I a, I b', I c'] :: (ρ ++ (gb ++ (stepT n i.toNat j.toNat y).map fun r => O.lst (r.map qD))))[m.length + q]? = some (.lst (((stepT n i.toNat j.toNat y)[q]).map qD)) := by
        rw [get_tail _ _ _ _ _ _ ml, List.getElem?_map, List.getElem?_eq_getElem hq']; rfl
      simp [this, ptD, List.getElem?_eq_getElem hq']⟩)]
    refine congrArg (fun z => Res.ok z _) ?_
    apply List.ext_getElem
    · simp [sft.len]
    · intro q h1 h2
      simp at h2
      simp [List.getElem?_eq_getElem h2]
  have prod := lproduct' (k := k) (d := .lst ((stepT n i.toNat j.toNat y).map ptD)) (hd := .inr rfl) (m := O.lst [I a, I b', I c'] :: (ρ ++ (gb ++ (stepT n i.toNat j.toNat y).map fun r => O.lst (r.map qD)))) sft.tb hT hn3 (by omega) (by omega)
  have idx : evIdx (O.lst [I a, I b', I c'] :: (ρ ++ (gb ++ (unitT n).map fun r => O.lst (r.map qD)))) (.lst ((List.range n).map fun i => .ref (m.length + i))) (I i) = some (.ref (m.length + i.toNat)) := by
    rw [idx_int _ _ _ i0]
    simp [hi]
  refine ⟨mulT (stepT n i.toNat j.toNat y) T, gb ++ (stepT n i.toNat j.toNat y).map fun r => O.lst (r.map qD), (O.lst [I a, I b', I c'] :: (ρ ++ (gb ++ (stepT n i.toNat j.toNat y).map fun r => O.lst (r.map qD)))), some lap, e5, some (.lst ((List.range n).map fun i => .ref (m.length + i))), e7, e8, some (I i), some (I j), ?_, mul_tb sft.tb hT, mul_tm sft.tb hT sft.tm hg, ⟨a, b', c', rfl, hc0, hc1⟩⟩
  simp [forF, laps, rows, t1, t2]
  simp at ye
  simp [ye, idx, hst]
  simp [read]
  simp [prod]
/-- a drawn TABLE -/
theorem table_ (k : Nat) {n c : Nat} {ρ m : M} (hn : 1 ≤ n) (hn3 : n ≤ 3) (p : Tin c ρ m) (hc : c ≤ 2 ^ 37) :
    ∃ T m', t.call (k + 5) 62 [.ref 0, I n] m = .ok (tbD T) m' ∧ Tb n 80 T ∧ Tm 36 T ∧ Tin (c + 40) ρ m' := by
  obtain ⟨kind, m1, e1, k0, k1, p1⟩ := take_ (k + 3) 6 (by omega) ⟨by omega, by omega⟩ p (by omega)
  by_cases hk0 : n = 2 ∧ kind = 0
  · obtain ⟨rfl, rfl⟩ := hk0
    obtain ⟨a, b, l, m2, e2, l1, l2, a1, b1, a2, b2, p2⟩ := table_k0 (k := k + 1) p1 (by omega)
    have hturn : t.call (k + 4) 61 [] m1 = .ok (.lst [.tup [.tup [I 3, I 4], I 5], .tup [.tup [I (-4), I 3], I 5], .tup [.tup [I 5, I 12], I 13], .tup [.tup [I 0, I 1], I 1], .tup [.tup [I (-1), I 0], I 1]]) m1 := by
      rw [call_S c61 rfl rfl]; simp [c61]
    refine ⟨[[Rat.divInt a l, Rat.divInt (-b) l], [Rat.divInt b l, Rat.divInt a l]], m2, ?_, ?_, ?_, p2.mono (by omega)⟩
    · rw [call_S c62 rfl rfl]
      simp [c62, e1, hturn, e2]
      simp [cutn_ (k + 3) a l m2 l1 (by omega) (by omega), cutn_ (k + 3) b l m2 l1 (by omega) (by omega), cutn_ (k + 3) (-b) l m2 l1 (by omega) (by omega)]
      rw [fin_T rfl p p2]; rfl
    · refine ⟨rfl, by simp, ?_⟩
      intro r hr x hx
      simp at hr
      have q : ∀ u : Int, u.natAbs ≤ 12 → Bq 80 (Rat.divInt u l) := fun u hu => (Bq.cut (n := 4) l1 (by show l < 16; omega) (by show _ < 16; omega)).mono (by omega)
      rcases hr with rfl | rfl <;> (simp at hx; rcases hx with rfl | rfl) <;> exact q _ (by omega)
    · intro r hr x hx
      simp at hr
      have q : ∀ u : Int, u.natAbs ≤ 12 → Mg 36 (Rat.divInt u l) := fun u hu => Mg.cut l1 (by omega)
      rcases hr with rfl | rfl <;> (simp at hx; rcases hx with rfl | rfl) <;> exact q _ (by omega)
  · have hk0' : ¬ ((n : Int) = 2 ∧ kind = 0) := fun h => hk0 ⟨by omega, h.2⟩
    have hand : tandV (cf (k + 4) m) (.cons (.cmp .Eq (.var 2) (.int 0)) .nil) [some (.ref 0), some (I n), some (I kind), none, none, none, none, none, none, none, none, none] (decide ((n : Int) = 2)) m1 = .ok false m1 := by
      by_cases h2 : (n : Int) = 2
      · have : ¬ kind = 0 := fun h => hk0' ⟨h2, h⟩
        simp [h2, this]
      · simp [h2]
    by_cases hk3 : kind < 3
    · obtain ⟨d, m2, e2, d0, d1, p2⟩ := take_ (k + 3) 2 (by omega) ⟨by omega, by omega⟩ p1 (by omega)
      have ul := lunit_ (k + 3) n m1 (by omega)
      have hml : m.length = ρ.length + 1 := p.len
      have lapsN : ∀ (q : Nat), q ≤ 2 → ∃ T m' e4 e5 e6 e7 e8 e9 e10, forL (forF (cf (k + 4) m) (.name 4) laps) ((List.range q).map fun i : Nat => D.int i) [some (.ref 0), some (I n), some (I kind), some (tbD (unitT n)), none, none, none, none, none, none, none, none] m2 = .nx [some (.ref 0), some (I n), some (I kind), some (tbD T), e4, e5, e6, e7, e8, e9, e10, none] m' ∧
          Tb n 80 T ∧ Tm 36 T ∧ ∃ g, Tin (c + 40) (ρ ++ g) m' := by
        intro q hq
        have t0 := unit_tb n
        have g0 := unit_tm n
        have p2' : Tin (c + 2) (ρ ++ []) m2 := by rw [List.append_nil]; exact p2
        match q, hq with
        | 0, _ => exact ⟨unitT n, m2, none, none, none, none, none, none, none, rfl, t0.mono (by omega), fun r hr x hx => (g0 r hr x hx).mono (by omega), [], p2'.mono (by omega)⟩
        | 1, _ =>
          obtain ⟨T1, gb1, m3, f4, f5, f6, f7, f8, f9, f10, s1, tb1, tm1, p3⟩ := table_lap (k := k) (m0 := m) hml [] hn hn3 t0 g0 (by omega) (some (I kind)) none none none none none none none (.int (0 : Nat)) p2' (by omega)
          refine ⟨T1, m3, f4, f5, f6, f7, f8, f9, f10, ?_, tb1.mono ?_, fun r hr x hx => (tm1 r hr x hx).mono ?_, gb1, p3.mono (by omega)⟩
          · rw [show ((List.range 1).map fun i : Nat => D.int i) = [D.int (0 : Nat)] from rfl, forL_one s1, forL_nil]
          · have := Nat.mul_le_mul_right (4 + 1 + 1) hn3; omega
          · have := Nat.mul_le_mul_right (2 * 1) hn3; omega
        | 2, _ =>
          obtain ⟨T1, gb1, m3, f4, f5, f6, f7, f8, f9, f10, s1, tb1, tm1, p3⟩ := table_lap (k := k) (m0 := m) hml [] hn hn3 t0 g0 (by omega) (some (I kind)) none none none none none none none (.int (0 : Nat)) p2' (by omega)
          have b1 := Nat.mul_le_mul_right (4 + 1 + 1) hn3
          have g1 := Nat.mul_le_mul_right (2 * 1) hn3
          have tb1' : Tb n 19 T1 := tb1.mono (by omega)
          have tm1' : Tm 6 T1 := fun r hr x hx => (tm1 r hr x hx).mono (by omega)
          obtain ⟨T2, gb2, m4, h4, h5, h6, h7, h8, h9, h10, s2, tb2, tm2, p4⟩ := table_lap (k := k) (m0 := m) hml gb1 hn hn3 tb1' tm1' (by omega) (some (I kind)) f4 f5 f6 f7 f8 f9 f10 (.int (1 : Nat)) p3 (by omega)
          refine ⟨T2, m4, h4, h5, h6, h7, h8, h9, h10, ?_, tb2.mono ?_, fun r hr x hx => (tm2 r hr x hx).mono ?_, gb2, p4.mono (by omega)⟩
          · rw [show ((List.range 2).map fun i : Nat => D.int i) = [D.int (0 : Nat), D.int (1 : Nat)] from rfl, forL_one s1, forL_one s2, forL_nil]
          · have := Nat.mul_le_mul_right (4 + 19 + 1) hn3; omega
          · have := Nat.mul_le_mul_right (2 * 6) hn3; omega
      obtain ⟨T, m3, f4, f5, f6, f7, f8, f9, f10, s3, tb3, tm3, g, p3⟩ := lapsN (1 + d).toNat (by omega)
      refine ⟨T, m3.take (ρ.length + 1), ?_, tb3, tm3, p3.take⟩
      rw [call_S c62 rfl rfl]
      simp [c62, e1, hand, hk3, ul]
      rw [s_for' ((List.range (1 + d).toNat).map fun i : Nat => D.int i) (m' := m2) (by simp [e2]; rw [rng1_ _ _ (by omega) (by omega)]), s3]
      simp
      rw [fin_pure _ _ _ _ (tbD_pure T), hml]
    · have hml : m.length = ρ.length + 1 := p.len
      obtain ⟨T, m2, e2, tl, tq, p2⟩ := comp_draw (c := cf (k + 4) m) (e := [some (.ref 0), some (I n), some (I kind), none, none, none, none, none, none, none, none, none]) (m := m1) (m0 := m1) (elt := (.blt .toTuple (.cons (.lv (.comp (.ife (.cmp .NotEq (.var 2) (.int 3)) (.call 60 (.cons (.var 0) (.cons (.int 3) .nil))) (.call 42 (.cons (.var 0) (.cons (.lv (.disp (.cons (.tup (.cons (.int 0) (.cons (.int 1) .nil))) (.cons (.tup (.cons (.int 1) (.cons (.int 1) .nil))) (.cons (.tup (.cons (.neg (.int 1)) (.cons (.int 1) .nil))) (.cons (.tup (.cons (.int 1) (.cons (.int 2) .nil))) .nil)))))) .nil)))) (.name 10) (.rng1 (.var 1)) (.none) [10])) .nil))) (tg := .name 9) (it := .rng1 (.var 1)) (own := [9]) ptD (fun r => r.length = n ∧ ∀ x ∈ r, Fq 3 x) (fun i m => Tin (c + 1 + 10 * i) ρ m) ((List.range n).map fun i : Nat => D.int i) 0 (by simp; rw [rng1_ _ _ (by omega) (by omega)]; simp) (by simp; omega) p1 (fun i x m' _ hi hx hp => by
        rw [List.length_map, List.length_range] at hi
        obtain ⟨j, _, rfl⟩ := List.mem_map.mp hx
        refine ⟨[some (.ref 0), some (I n), some (I kind), none, none, none, none, none, none, some (.int j), none, none], ?_⟩
        obtain ⟨r, m3, e3, rl, rq, p3⟩ := comp_draw (c := cf (k + 4) m) (e := [some (.ref 0), some (I n), some (I kind), none, none, none, none, none, none, some (.int j), none, none]) (m := m') (m0 := m') (elt := (.ife (.cmp .NotEq (.var 2) (.int 3)) (.call 60 (.cons (.var 0) (.cons (.int 3) .nil))) (.call 42 (.cons (.var 0) (.cons (.lv (.disp (.cons (.tup (.cons (.int 0) (.cons (.int 1) .nil))) (.cons (.tup (.cons (.int 1) (.cons (.int 1) .nil))) (.cons (.tup (.cons (.neg (.int 1)) (.cons (.int 1) .nil))) (.cons (.tup (.cons (.int 1) (.cons (.int 2) .nil))) .nil)))))) .nil))))) (tg := .name 10) (it := .rng1 (.var 1)) (own := [10]) qD (fun x => Fq 3 x) (fun i2 m => Tin (c + 1 + 10 * i + 2 * i2) ρ m) ((List.range n).map fun i : Nat => D.int i) 0 (by simp; rw [rng1_ _ _ (by omega) (by omega)]; simp) (by simp; omega) hp (fun i2 x m'' _ hi2 hx hp => by
          rw [List.length_map, List.length_range] at hi2
          obtain ⟨j2, _, rfl⟩ := List.mem_map.mp hx
          refine ⟨[some (.ref 0), some (I n), some (I kind), none, none, none, none, none, none, some (.int j), some (.int j2), none], ?_⟩
          by_cases hk : kind = 3
          · obtain ⟨d, hd, m4, e4, p4⟩ := of_mem (k + 2) [.tup [I 0, I 1], .tup [I 1, I 1], .tup [I (-1), I 1], .tup [I 1, I 2]] rfl (by simp) (by simp) hp (by omega)
            have ⟨y, hy, yq⟩ : ∃ y, d = qD y ∧ Fq 3 y := by
              simp at hd
              rcases hd with rfl | rfl | rfl | rfl
              · exact ⟨0, rfl, Fq.zero⟩
              · exact ⟨1, rfl, Fq.one (by omega)⟩
              · exact ⟨-1, rfl, ⟨Bq.one.neg.mono (by omega), by unfold Mg; decide⟩⟩
              · exact ⟨Rat.divInt 1 2, by unfold qD; rw [show (Rat.divInt 1 2).num = 1 by decide +kernel, show (Rat.divInt 1 2).den = 2 by decide +kernel]; rfl, ⟨Bq.cut (by omega) (by decide) (by decide), Mg.cut (by omega) (by omega)⟩⟩
            subst hy
            exact ⟨y, m4, by simp, by simp [hk, e4], yq, p4.mono (by omega)⟩
          · obtain ⟨y, m4, e4, yq, p4⟩ := fraction_ (k + 1) 3 (by omega) (by omega) hp (by omega)
            exact ⟨y, m4, by simp, by simp [hk, e4], yq, p4⟩)
        rw [List.length_map, List.length_range, Nat.zero_add] at p3
        rw [List.length_map, List.length_range] at rl
        exact ⟨r, m3, by simp, by simp [e3, ptD], ⟨rl, rq⟩, p3.mono (by omega)⟩)
      rw [List.length_map, List.length_range, Nat.zero_add] at p2
      rw [List.length_map, List.length_range] at tl
      refine ⟨T, m2, ?_, ⟨tl, fun r hr => (tq r hr).1, fun r hr x hx => ((tq r hr).2 x hx).b.mono (by omega)⟩, fun r hr x hx => ((tq r hr).2 x hx).m.mono (by omega), p2.mono (by omega)⟩
      rw [call_S c62 rfl rfl]
      simp [c62, e1, hand, hk3, e2]
      rw [show D.tup (T.map ptD) = tbD T from rfl, fin_T (tbD_pure T) p p2]
end K3
namespace K3
open PySem Dx
/-! ### drawn WINDOWS -/
theorem cut_nn {u l : Int} (hl : 1 ≤ l) (hu : 0 ≤ u) : 0 ≤ Rat.divInt u l := Rat.divInt_nonneg hu (by omega)
theorem cut_le {u l : Int} {b : Nat} (hl : 1 ≤ l) (h : u ≤ b * l) : Rat.divInt u l ≤ (b : Rat) := by
  rw [Rat.divInt_eq_div]
  have l0 : (0 : Rat) < (l : Rat) := Rat.intCast_pos.mpr (by omega)
  apply Rat.le_of_mul_le_mul_right (c := (l : Rat)) _ l0
  rw [Rat.div_mul_cancel (Rat.ne_of_gt l0)]
  have h2 : (u : Rat) ≤ ((b * l : Int) : Rat) := Rat.intCast_le_intCast.mpr h
  have h3 : (((b : Int) * l : Int) : Rat) = (b : Rat) * (l : Rat) := by
    have := cst b
    grind
  rw [h3] at h2
  exact h2
/-- a drawn window: how wide -/
structure Wd (g : Nat) (p : Rat × Rat) : Prop where
  lo : Bq 9 p.1
  hi : Bq 9 p.2
  le : p.1 ≤ p.2
  w : p.2 - p.1 ≤ (g : Rat)
  m1 : Mg g p.1
  m2 : Mg (2 * g) p.2
theorem qD_neg (x : Rat) : D.tup [.int (0 - x.num), .int x.den] = qD (-x) := by simp [qD]
theorem rep_flat {α : Type} (n : Nat) (x : α) : (List.replicate n [x]).flatten = List.replicate n x := by
  induction n with
  | zero => rfl
  | succ n ih => rw [List.replicate_succ, List.flatten_cons, ih]; rfl
theorem wnD_pure (W : List (Rat × Rat)) : pure? (wnD W) = true := by
  simp [wnD, pure?, pures_iff]
  rintro d a b _ rfl
  rfl
theorem window_ (k : Nat) {n c : Nat} {ρ m : M} (w : Nat) (hw : 1 ≤ w) (hw2 : w ≤ 6) (hn : 1 ≤ n) (hn3 : n ≤ 3) (p : Tin c ρ m) (hc : c ≤ 2 ^ 37) :
    ∃ W m', t.call (k + 3) 63 [.ref 0, I n, I w] m = .ok (wnD W) m' ∧ W.length = n ∧ (∀ q ∈ W, Wd w q) ∧ Tin (c + 20) ρ m' := by
  obtain ⟨kind, m1, e1, k0, k1, p1⟩ := take_ (k + 1) 2 (by omega) ⟨by omega, by omega⟩ p (by omega)
  have hml : m.length = ρ.length + 1 := p.len
  have w2 := mul_l (i := 2) (j := w) ⟨by omega, by omega⟩
  by_cases hk : kind = 0
  · obtain ⟨d, m2, e2, d0, d1, p2⟩ := take_ (k + 1) (w + 1) (by omega) ⟨by omega, by omega⟩ p1 (by omega)
    obtain ⟨y, hy, m3, e3, p3⟩ := of_mem k [I 2, I 3, I 5, I 4] rfl (by simp) (by simp) p2 (by omega)
    have ⟨l, hl, l1, l2⟩ : ∃ l : Int, y = I l ∧ 2 ≤ l ∧ l ≤ 5 := by
      simp at hy
      rcases hy with rfl | rfl | rfl | rfl <;> exact ⟨_, rfl, by omega, by omega⟩
    subst hl
    have hx := cutn_ (k + 1) d l m3 (by omega) (by omega) (by omega)
    have bx : Bq 4 (Rat.divInt d l) := Bq.cut (by omega) (by show l < 16; omega) (by show _ < 16; omega)
    have x0 : 0 ≤ Rat.divInt d l := cut_nn (by omega) d0
    have x2 : Rat.divInt d l + Rat.divInt d l ≤ (w : Rat) := by
      have hle : 2 * Rat.divInt d l = Rat.divInt (2 * d) l := by
        rw [Rat.divInt_eq_div, Rat.divInt_eq_div, Rat.div_def, Rat.div_def]
        grind
      have := cut_le (b := w) (u := 2 * d) (l := l) (by omega) (by
        have : (w : Int) * 2 ≤ w * l := Int.mul_le_mul_of_nonneg_left l1 (by omega)
        omega)
      grind
    generalize Rat.divInt d l = x at hx bx x0 x2
    refine ⟨List.replicate n (-x, x), m3, ?_, by simp, ?_, p3.mono (by omega)⟩
    · have hr : wnD (List.replicate n (-x, x)) = .tup (List.replicate n (.tup [.tup [.int (-x.num), .int x.den], .tup [.int x.num, .int x.den]])) := by
        simp [wnD, wpD, qD]
      have hfin : Dx.finish false m.length (.tup (List.replicate n (.tup [.tup [.int (-x.num), .int x.den], .tup [.int x.num, .int x.den]]))) m3 = .ok (.tup (List.replicate n (.tup [.tup [.int (-x.num), .int x.den], .tup [.int x.num, .int x.den]]))) m3 := by
        rw [← hr, fin_pure _ _ _ _ (wnD_pure _), hml, ← p3.len, List.take_length]
      rw [call_S c63 rfl rfl, hr]
      simp [c63, e1, hk, e2, e3, hx]
      simp [qD]
      by_cases hn1 : (n : Int) = 1
      · have : n = 1 := by omega
        subst this
        simp
        exact hfin
      · have h2 : (2 : Int) ≤ n := by omega
        have h3 : (n : Int) ≤ 1000 := by omega
        simp [hn1, h2, h3, rep_flat]
        exact hfin
    · intro q hq
      rw [List.eq_of_mem_replicate hq]
      refine ⟨bx.neg.mono (by omega), bx.mono (by omega), ?_, ?_, ?_, ?_⟩
      · show -x ≤ x; grind
      · show x - -x ≤ _; grind
      · have : (0 : Rat) ≤ (w : Rat) := Rat.natCast_nonneg
        unfold Mg; constructor <;> grind
      · have : (0 : Rat) ≤ (w : Rat) := Rat.natCast_nonneg
        have e : ((2 * w : Nat) : Rat) = 2 * (w : Rat) := by grind
        unfold Mg; rw [e]; constructor <;> grind
  · have hrn : ρ.length + 1 = m1.length := p1.len.symm
    rw [call_S c63 rfl rfl]
    simp [c63, e1, hk]
    rw [s_for' ((List.range n).map fun i : Nat => D.int i) (m' := m1 ++ [.lst []]) (by simp; rw [rng1_ _ _ (by omega) (by omega)]; simp)]
    refine forL_C (C := fun r => ∃ W m', endC false m.length (sqK _ _ r) = Res.ok (wnD W) m' ∧ W.length = n ∧ (∀ (a b : Rat), (a, b) ∈ W → Wd w (a, b)) ∧ Tin (c + 20) ρ m')
      (P := fun i e m' => ∃ W e4 e6, W.length = i ∧ (∀ q ∈ W, Wd w q) ∧ e = [some (.ref 0), some (I n), some (I w), some (.ref m1.length), e4, none, e6] ∧ Tin (c + 1 + 4 * i) (ρ ++ [.lst (W.map wpD)]) m') ⟨[], none, none, rfl, by simp, rfl, p1.app _⟩ ?_ ?_
    · rintro i x e m' hx ⟨W, e4, e6, hWl, hW, rfl, p2⟩
      have hi : i < n := by
        have := (List.getElem?_eq_some_iff.mp hx).1
        simpa using this
      obtain ⟨d, m3, t3, d0, d1, p3⟩ := take_ (k + 1) (w + 1) (by omega) ⟨by omega, by omega⟩ p2 (by omega)
      obtain ⟨y, hy, m4, t4, p4⟩ := of_mem k [I 2, I 3, I 4] rfl (by simp) (by simp) p3 (by omega)
      have ⟨l, hl, l1, l2⟩ : ∃ l : Int, y = I l ∧ 2 ≤ l ∧ l ≤ 4 := by
        simp at hy
        rcases hy with rfl | rfl | rfl <;> exact ⟨_, rfl, by omega, by omega⟩
      subst hl
      have c1 := cutn_ (k + 1) (d - w) l m4 (by omega) (by omega) (by omega)
      obtain ⟨u, m5, t5, u0, u1, p5⟩ := take_ (k + 1) (2 * w) (by omega) ⟨by omega, by omega⟩ p4 (by omega)
      obtain ⟨y, hy, m6, t6, p6⟩ := of_mem k [I 2, I 3, I 4] rfl (by simp) (by simp) p5 (by omega)
      have ⟨v, hv, v1, v2⟩ : ∃ l : Int, y = I l ∧ 2 ≤ l ∧ l ≤ 4 := by
        simp at hy
        rcases hy with rfl | rfl | rfl <;> exact ⟨_, rfl, by omega, by omega⟩
      subst hv
      have c2 := cutn_ (k + 1) u v m6 (by omega) (by omega) (by omega)
      have b1 : Bq 4 (Rat.divInt (d - w) l) := Bq.cut (by omega) (by show l < 16; omega) (by show _ < 16; omega)
      have b2 : Bq 4 (Rat.divInt u v) := Bq.cut (by omega) (by show v < 16; omega) (by show _ < 16; omega)
      have pl := lplus_ k m6 b1 b2 (by omega)
      have y0 : 0 ≤ Rat.divInt u v := cut_nn (by omega) u0
      have yw : Rat.divInt u v ≤ (w : Rat) := cut_le (by omega) (by
        have : (w : Int) * 2 ≤ w * v := Int.mul_le_mul_of_nonneg_left v1 (by omega)
        omega)
      have xm : Mg w (Rat.divInt (d - w) l) := Mg.cut (by omega) (by omega)
      generalize Rat.divInt (d - w) l = X at c1 b1 pl xm
      generalize Rat.divInt u v = Y at c2 b2 pl y0 yw
      have wd : Wd w (X, X + Y) := by
        have w0 : (0 : Rat) ≤ (w : Rat) := Rat.natCast_nonneg
        have e : ((2 * w : Nat) : Rat) = 2 * (w : Rat) := by grind
        have ⟨x1, x2⟩ := xm
        refine ⟨b1.mono (by omega), (b1.add b2).mono (by omega), ?_, ?_, xm, ?_⟩
        · show X ≤ X + Y; grind
        · show X + Y - X ≤ _; grind
        · unfold Mg; rw [e]; constructor <;> (show _ ≤ _) <;> grind
      obtain ⟨a4, b4, c4, rfl, h4⟩ := p4
      obtain ⟨a6, b6, c6, rfl, h6⟩ := p6
      refine ⟨[some (.ref 0), some (I n), some (I w), some (.ref m1.length), some x, none, some (qD X)], .lst [I a6, I b6, I c6] :: (ρ ++ [.lst ((W ++ [(X, X + Y)]).map wpD)]), ?_, W ++ [(X, X + Y)], some x, some (qD X), by simp [hWl], ?_, rfl, ⟨a6, b6, c6, rfl, h6.1, by omega⟩⟩
      · have rd : ∀ (o : O) (a b c : Int), (O.lst [I a, I b, I c] :: (ρ ++ [o]))[m1.length]? = some o := fun o a b c => by
          rw [← hrn, List.getElem?_cons_succ]; simp
        simp [forF, t3, t4, c1]
        rw [app' (O.lst [I a4, I b4, I c4] :: (ρ ++ [O.lst (W.map wpD)])) (O.lst [I a6, I b6, I c6] :: (ρ ++ [O.lst (W.map wpD)])) _ _ _ _ (W.map wpD) (W.map wpD) (wpD (X, X + Y)) (rd _ _ _ _) (by simp [w2, t5, t6, c2, pl, wpD]) (rd _ _ _ _) (by simp; omega) (.inl (by simp; omega))]
        rw [← hrn, List.set_cons_succ]
        simp
      · intro q hq
        rcases List.mem_append.mp hq with h | h
        · exact hW q h
        · rw [List.mem_singleton.mp h]; exact wd
    · rintro e m' ⟨W, e4, e6, hWl, hW, rfl, p2⟩
      rw [List.length_map, List.length_range] at hWl p2
      have rd : m'[m1.length]? = some (.lst (W.map wpD)) := by
        obtain ⟨a, b, c, rfl, _⟩ := p2
        rw [← hrn, List.getElem?_cons_succ]; simp
      refine ⟨W, m'.take (ρ.length + 1), ?_, hWl, fun a b h => hW _ h, p2.take.mono (by omega)⟩
      simp [rd]
      rw [show D.tup (W.map wpD) = wnD W from rfl, fin_pure _ _ _ _ (wnD_pure W), hml]
end K3
namespace K3
open PySem Dx
/-! ### what is asked of windows -/
structure Q3 (n c : Nat) (T : List (List Rat)) (w : List (Rat × Rat)) (r : List Int) : Prop where
  n1 : 1 ≤ n
  n3 : n ≤ 3
  tb : Tb n 190 T
  wn : Wn n 100 w
  rl : r.length = n
  rs : ∀ z ∈ r, Sz 190 z
  hc : ∀ e ∈ ends (img T r) w, cntE e ≤ c
  c1 : 1 ≤ c
  hz : ∀ e ∈ ends (img T r) w, (-(2 ^ 60) ≤ e.1 ∧ e.1 ≤ 2 ^ 60) ∧ -(2 ^ 60) ≤ e.2 ∧ e.2 ≤ 2 ^ 60
section
variable {n c k : Nat} {T : List (List Rat)} {w : List (Rat × Rat)} {r : List Int} (h : Q3 n c T w r) {tv wv rv : D} (ht : As 3 (tbD T) tv) (hw : As 3 (wnD w) wv) (hr : As 1 (rowD r) rv) (m : M)
include h
theorem Q3.ib : ∀ x ∈ img T r, Bq 1144 x := fun x hx => (img_bq h.tb h.rs x hx).mono (by
  have := Nat.mul_le_mul_right (190 + 190 + 1) h.n3; omega)
theorem Q3.il : (img T r).length = n := by rw [img_len, h.tb.len]
theorem Q3.el : (ends (img T r) w).length = n := by simp [ends, h.wn.len, h.il]
include ht
theorem table_as (k : Nat) : t.call (k + 5) 19 [tv] m = .ok (tbD T) m := sure_table_ h.tb h.n1 (by have := h.n3; omega) (by omega) ht
include hr
theorem row_as (k : Nat) : t.call (k + 4) 21 [.int T.length, rv] m = .ok (rowD r) m := by
  rw [h.tb.len]; exact sure_row_ (n : Int) (by rw [h.rl]) (by have := h.rl; have := h.n3; omega) hr
include hw
theorem asked_ : t.call (k + 6) 33 [tv, wv, rv] m = .ok (.tup [tbD T, wnD w, rowD r]) m := by
  have e1 := table_as h ht m k
  have e2 : t.call (k + 5) 24 [.int T.length, wv] m = .ok (wnD w) m := by
    rw [h.tb.len]; exact sure_window_ h.wn h.n1 (by have := h.n3; omega) (by omega) hw
  have e3 := row_as h ht hr m (k + 1)
  have lt : itemsOf m (tbD T) = some (T.map ptD) := rfl
  rw [call_S c33 rfl rfl]
  simp [c33, e1, e2, e3, lt]
theorem how_many_near_ (hcn : c ^ n ≤ 10 ^ 9) : t.call (k + 7) 34 [tv, wv, rv] m = .ok (I (nearL (ends (img T r) w)).length) m := by
  have e1 := asked_ (k := k) h ht hw hr m
  have e2 := image_ (k := k + 1) (m := m) h.tb h.n3 h.rs (by omega) (by omega)
  have e3 := how_many_ (k := k) (m := m) h.wn (by have := h.n3; omega) h.ib (by omega) h.hc h.c1 (by rw [h.el]; exact hcn)
  rw [call_S c34 rfl rfl]
  simp [c34, e1, e2, e3]
theorem rows_near_ (hcn : c ^ n ≤ 1000) : t.call (k + 7) 35 [tv, wv, rv] m = .ok (.ref m.length) (m ++ [.lst ((nearL (ends (img T r) w)).map rowD)]) := by
  have e1 := asked_ (k := k) h ht hw hr m
  have e2 := image_ (k := k + 1) (m := m) h.tb h.n3 h.rs (by omega) (by omega)
  have e3 := how_many_ (k := k) (m := m) h.wn (by have := h.n3; omega) h.ib (by omega) h.hc h.c1 (by rw [h.el]; omega)
  have hl : (nearL (ends (img T r) w)).length ≤ 1000 := by
    have := near_le' h.hc h.c1 n
    rw [h.el] at this
    rw [List.take_of_length_le (by rw [h.el]; exact Nat.le_refl _)] at this
    omega
  have nr : nrDs ((nearL (ends (img T r) w)).map rowD) = true := nr_pures _ ((pures_iff _).mpr (by
    intro d hd
    obtain ⟨z, _, rfl⟩ := List.mem_map.mp hd
    simp [rowD, pure?, pures_iff]))
  have e4 : t.call (k + 6) 28 [ptD (img T r), wnD w] m = .ok (.ref m.length) (m ++ [.lst ((nearL (ends (img T r) w)).map rowD)]) := by
    obtain ⟨g, hg⟩ := near_body (k := k) (m := m) h.wn h.n1 h.il (by have := h.n3; omega) h.ib (by omega) h.hc h.c1 hcn h.hz
    rw [call_S c28 rfl rfl]
    show endC true _ (evSs (cf (k + 5) m) c28.body [some (ptD (img T r)), some (wnD w), none, none, none, none, none, none] m) = _
    rw [hg, endC_ret, fin_rm _ _ _ _ (by simp) (get_last _ _) nr]
    simp
  have g1 : t.glob 1 = some (I 1000) := rfl
  have hle : ¬ ((1000 : Int) < (nearL (ends (img T r) w)).length) := by omega
  rw [call_S c35 rfl rfl]
  simp [c35, e1, e2, e3, g1, hle, e4]
  rw [fin_rm _ _ _ _ (Nat.le_refl _) (get_last _ _) nr]
  simp
theorem rows_many_ (hcn : c ^ n ≤ 10 ^ 9) (hm : 1000 < (nearL (ends (img T r) w)).length) : t.call (k + 7) 35 [tv, wv, rv] m = .err 0 m := by
  have e1 := asked_ (k := k) h ht hw hr m
  have e2 := image_ (k := k + 1) (m := m) h.tb h.n3 h.rs (by omega) (by omega)
  have e3 := how_many_ (k := k) (m := m) h.wn (by have := h.n3; omega) h.ib (by omega) h.hc h.c1 (by rw [h.el]; omega)
  have g1 : t.glob 1 = some (I 1000) := rfl
  have hle : ((1000 : Int) < (nearL (ends (img T r) w)).length) := by omega
  rw [call_S c35 rfl rfl]
  simp [c35, e1, e2, e3, g1, hle]
variable {q : List Int} {qv : D} (ql : q.length = n) (hq : As 1 (rowD q) qv)
include hq ql
theorem is_near_ : t.call (k + 7) 36 [tv, wv, rv, qv] m = .ok (.bl (inE q (ends (img T r) w))) m := by
  have e1 := asked_ (k := k) h ht hw hr m
  have e2 := image_ (k := k + 1) (m := m) h.tb h.n3 h.rs (by omega) (by omega)
  have e3 : t.call (k + 6) 21 [.int T.length, qv] m = .ok (rowD q) m := by
    rw [h.tb.len]; exact sure_row_ (k := k + 2) (n : Int) (by rw [ql]) (by have := h.n3; omega) hq
  have e4 := near_is (k := k) (r := q) (m := m) h.wn (by have := h.n3; omega) h.ib (by omega)
  have lt : itemsOf m (tbD T) = some (T.map ptD) := rfl
  rw [call_S c36 rfl rfl]
  simp [c36, e1, e2, e3, e4, lt]
omit hw
theorem off_by_ {s : Nat} (qs : ∀ z ∈ q, Sz s z) (hs : s ≤ 1000) : t.call (k + 6) 37 [tv, rv, qv] m = .ok (ptD (offL (img T r) q)) m := by
  have e1 := table_as h ht m k
  have e2 := row_as h ht hr m (k + 1)
  have e3 : t.call (k + 5) 21 [.int T.length, qv] m = .ok (rowD q) m := by
    rw [h.tb.len]; exact sure_row_ (k := k + 1) (n : Int) (by rw [ql]) (by have := h.n3; omega) hq
  have e4 := image_ (k := k) (m := m) h.tb h.n3 h.rs (by omega) (by omega)
  have e5 := off_ (k := k + 1) (m := m) h.ib qs (by omega) (by rw [h.il]; have := h.n3; omega)
  have lt : itemsOf m (tbD T) = some (T.map ptD) := rfl
  rw [call_S c37 rfl rfl]
  simp [c37, e1, e2, e3, e4, e5, lt]
end
def farL : List Rat → Rat
  | [] => 0
  | x :: xs => (xs.map Rat.abs).foldl mx x.abs
theorem off_bq {a s : Nat} {p : List Rat} {r : List Int} (hp : ∀ x ∈ p, Bq a x) (hr : ∀ z ∈ r, Sz s z) : ∀ x ∈ offL p r, Bq (s + 1 + a + 1) x := by
  intro x hx
  obtain ⟨⟨y, z⟩, hq, rfl⟩ := List.mem_map.mp hx
  have hz := List.of_mem_zip hq
  exact (Bq.int (hr z hz.2)).sub (hp y hz.1)
theorem far_by_ {n c k : Nat} {T : List (List Rat)} {w : List (Rat × Rat)} {r : List Int} (h : Q3 n c T w r) {tv rv : D} (ht : As 3 (tbD T) tv) (hr : As 1 (rowD r) rv) (m : M) {q : List Int} {qv : D} (ql : q.length = n) (hq : As 1 (rowD q) qv)
    {s : Nat} (qs : ∀ z ∈ q, Sz s z) (hs : s ≤ 1000) : t.call (k + 7) 38 [tv, rv, qv] m = .ok (qD (farL (offL (img T r) q))) m := by
  have e1 := off_by_ (k := k) h ht hr m ql hq qs hs
  have bq := off_bq h.ib qs
  have hl : (offL (img T r) q).length = n := by simp [offL, h.il, ql]
  rw [call_S c38 rfl rfl]
  simp [c38]
  rw [comp_enc (offL (img T r) q) qD (fun x => qD x.abs) (by simp [e1]; simp [ptD]) (by have := h.n3; omega) (fun x hx => ⟨_, by simp; rfl, by simp [size_ (k + 5) m x]⟩)]
  cases ho : offL (img T r) q with
  | nil => rw [ho] at hl; have := h.n1; simp at hl; omega
  | cons x xs =>
    rw [ho] at bq
    have e2 := great_ (k := k + 4) (m := m) (x := x.abs) (xs := xs.map Rat.abs) (a := s + 1 + 1144 + 1) (by
      intro y hy
      rcases List.mem_cons.mp hy with e | e
      · rw [e]; exact (bq x List.mem_cons_self).abs
      · obtain ⟨z, hz, rfl⟩ := List.mem_map.mp e
        exact (bq z (List.mem_cons_of_mem _ hz)).abs) (by omega)
    simp [Function.comp_def] at e2
    simp [e2, farL]
end K3
namespace K3
open PySem Dx
/-! ### told anew; heard -/
theorem told3 {f k : Nat} (hf : f < 68) {a b c : D} {xs : List D} {p : Nat} (m : M) (pl : plainD p (.tup [a, b, c]) = true) (px : plainD p (.lst xs) = true) (hp : p ≤ 10) (hl : xs.length ≤ 1000)
    (h1 : ∀ m, t.call (k + 10) f [toL a, toL b, toL c] m = .ok (.ref m.length) (m ++ [.lst xs])) (h2 : ∀ m, t.call (k + 10) f [a, b, c] m = .ok (.ref m.length) (m ++ [.lst xs])) :
    t.call (k + 12) 48 [.fn f, .tup [a, b, c], .lst xs] m = .ok tru m := by
  have pxs : pures? xs = true := plain_pure p _ px
  have nxs : nrDs xs = true := nr_pures xs pxs
  have l1 : t.call (k + 11) 43 [.tup [a, b, c]] m = .ok (.lst [toL a, toL b, toL c]) m := by
    rw [lists_ pl (by omega)]; simp
  have l2 : ∀ m, t.call (k + 11) 43 [.tup [a, b, c]] m = .ok (.lst [toL a, toL b, toL c]) m := fun m => by
    rw [lists_ pl (by omega)]; simp
  have call1 : ∀ m, t.call (k + 11) 47 [.fn f, .lst [toL a, toL b, toL c]] m = .ok (.ref m.length) (m ++ [.lst xs]) := fun m => by
    rw [call_S c47 rfl rfl]
    simp [c47, hf, h1]
    rw [fin_rm _ _ _ _ (Nat.le_refl _) (get_last _ _) nxs]; simp
  have call2 : ∀ m, t.call (k + 11) 47 [.fn f, .tup [a, b, c]] m = .ok (.ref m.length) (m ++ [.lst xs]) := fun m => by
    rw [call_S c47 rfl rfl]
    simp [c47, hf, h2]
    rw [fin_rm _ _ _ _ (Nat.le_refl _) (get_last _ _) nxs]; simp
  have s1 : t.call (k + 11) 44 [.lst xs, .lst xs] [] = .ok tru [] := same_ px (by omega)
  have pt := plain_toL p _ pl
  rw [toL_t] at pt
  have s2 : ∀ m, t.call (k + 11) 44 [.lst [toL a, toL b, toL c], .lst [toL a, toL b, toL c]] m = .ok tru m := fun m => same_ pt (by omega)
  have sp : t.call (k + 11) 46 [.ref m.length] (m ++ [.lst xs]) = .ok .non (m ++ [.lst (xs ++ [.tup []])]) := by
    rw [call_S c46 rfl rfl]
    simp [c46]
    rw [app_ _ _ _ _ _ xs (.tup []) (get_last _ _) (by simp) (by omega) (.inr rfl), set_last]
    simp
    rw [List.take_of_length_le (by simp)]
  have f1 := fzs_two (m ++ [.lst xs]) m.length xs (.lst xs) (get_last _ _) pxs pxs
  have f2 := fzs_two (m ++ [.lst (xs ++ [.tup []]), .lst xs]) (m.length + 1) xs (.lst xs) (by simp) pxs pxs
  rw [call_S c48 rfl rfl]
  simp [c48, l1, call1, f1, s1, l2, s2, sp, call2, f2]
theorem heard_ {f k : Nat} (hf : f < 68) {x : Nat} {g : List D} {m : M} {gs : D} (hg : g.length = 2 ∨ g.length = 3) (hgs : gs = .tup g) (h1 : t.call (k + 3) f g m = .err x m) (hx : x = 0 ∨ x = 1) :
    t.call (k + 5) 64 [.fn f, gs] m = .ok (.lst [.str (if x = 0 then "many" else "unfit"), tru]) m := by
  have c1 : t.call (k + 4) 47 [.fn f, gs] m = .err x m := by
    subst hgs
    rcases hg with h | h
    · match g, h with
      | [a, b], _ =>
        rw [call_S c47 rfl rfl]
        simp [c47, hf, h1]
    · match g, h with
      | [a, b, c], _ =>
        rw [call_S c47 rfl rfl]
        simp [c47, hf, h1]
  rw [call_S c64 rfl rfl]
  rcases hx with rfl | rfl
  · simp [c64, c1]
    try rw [fin_pure _ _ _ _ rfl]
    try simp
  · simp [c64, c1]
    try rw [fin_pure _ _ _ _ rfl]
    try simp
end K3
namespace K3
open PySem Dx
/-! ### k03: drawn rows, what is near them -/
theorem cutD_map {α : Type} (f : α → D) (xs : List α) (lo hi : Option Int) : cutD (xs.map f) lo hi = ((xs.drop (cutIx xs.length 0 lo)).take (cutIx xs.length xs.length hi - cutIx xs.length 0 lo)).map f := by
  unfold cutD
  rw [List.length_map, ← List.map_drop, ← List.map_take]
/-- from what is drawn -/
theorem q3_drawn {n : Nat} {T : List (List Rat)} {W : List (Rat × Rat)} {r : List Int} (n1 : 1 ≤ n) (n3 : n ≤ 3) (tb : Tb n 80 T) (tm : Tm 36 T) (wl : W.length = n) (wd : ∀ q ∈ W, Wd 4 q) (rl : r.length = n) (rs : ∀ z ∈ r, z.natAbs ≤ 9) : Q3 n 5 T W r := by
  have im := img_mg (s := 9) tm tb rs
  refine ⟨n1, n3, tb.mono (by omega), ⟨wl, fun p hp => (wd p hp).lo.mono (by omega), fun p hp => (wd p hp).hi.mono (by omega), fun p hp => (wd p hp).le⟩, rl, fun z hz => (show Sz 4 z by unfold Sz; have := rs z hz; omega).mono (by omega), ?_, by omega, ?_⟩
  · intro e he
    obtain ⟨⟨x, lo, hi⟩, hq, rfl⟩ := List.mem_map.mp he
    have hz := List.of_mem_zip hq
    have w := (wd (lo, hi) hz.2).w
    have h1 := Rat.floor_le (x + hi)
    have h2 := Rat.le_ceil (x := x + lo)
    have w' : hi - lo ≤ 4 := by have := w; simpa using this
    have h3 : ((x + hi).floor : Rat) - ((x + lo).ceil : Rat) ≤ 4 := by grind
    have h4 : (((x + hi).floor - (x + lo).ceil : Int) : Rat) ≤ ((4 : Int) : Rat) := by grind
    have := Rat.intCast_le_intCast.mp h4
    unfold cntE
    show ((x + hi).floor + 1 - (x + lo).ceil).toNat ≤ 5
    omega
  · intro e he
    obtain ⟨⟨x, lo, hi⟩, hq, rfl⟩ := List.mem_map.mp he
    have hz := List.of_mem_zip hq
    have w := wd (lo, hi) hz.2
    have b1 := (im x hz.1).add w.m1
    have b2 := (im x hz.1).add w.m2
    have c1 := b1.ceil
    have c2 := b2.floor
    have hn : n * (36 * 9) ≤ 3 * 324 := Nat.mul_le_mul n3 (by omega)
    show (-(2 ^ 60) ≤ (x + lo).ceil ∧ (x + lo).ceil ≤ 2 ^ 60) ∧ -(2 ^ 60) ≤ (x + hi).floor ∧ (x + hi).floor ≤ 2 ^ 60
    simp at c1 c2
    omega
/-- rows that are asked about -/
structure Asks (n : Nat) (q : List Int) : Prop where
  len : q.length = n
  sz : ∀ z ∈ q, Sz 190 z
theorem near_asks {n c : Nat} {T : List (List Rat)} {W : List (Rat × Rat)} {r : List Int} (h : Q3 n c T W r) : ∀ s ∈ nearL (ends (img T r) W), Asks n s := by
  intro s hs
  obtain ⟨l, i⟩ := (mem_near _ _).mp hs
  rw [h.el] at l
  refine ⟨l, fun z hz => ?_⟩
  obtain ⟨j, hj, rfl⟩ := List.getElem_of_mem hz
  unfold inE at i
  rw [List.all_eq_true] at i
  have hje : j < (ends (img T r) W).length := by rw [h.el]; omega
  have hm : (s[j], (ends (img T r) W)[j]) ∈ s.zip (ends (img T r) W) := by
    rw [List.mem_iff_getElem]
    exact ⟨j, by simp; omega, by simp⟩
  have q := i _ hm
  have b := h.hz _ (List.getElem_mem hje)
  simp at q
  exact (show Sz 62 s[j] by unfold Sz; omega).mono (by omega)
theorem as_row {n : Nat} {q : List Int} (h : Asks n q) (hn : n ≤ 3) : As 1 (rowD q) (rowD q) := As.self (rowD_plain 0 q (by have := h.len; omega)) (rowD_T q)
theorem as_rowL {n : Nat} {q : List Int} (h : Asks n q) (hn : n ≤ 3) : As 1 (rowD q) (.lst (q.map .int)) := ⟨by simp [plainDs_iff]; have := h.len; omega, by simp [rowD]⟩
theorem as_tab {n b : Nat} {T : List (List Rat)} (h : Tb n b T) (hn : n ≤ 3) : As 3 (tbD T) (tbD T) := As.self (h.as (by omega)) (tbD_T T)
theorem as_tabL {n b : Nat} {T : List (List Rat)} (h : Tb n b T) (hn : n ≤ 3) : As 3 (tbD T) (toL (tbD T)) := As.lists (h.as (by omega)) (tbD_T T)
theorem as_win {w : List (Rat × Rat)} (hn : w.length ≤ 3) : As 3 (wnD w) (wnD w) := As.self (wnD_plain 0 w (by omega)) (wnD_T w)
theorem as_winL {w : List (Rat × Rat)} (hn : w.length ≤ 3) : As 3 (wnD w) (toL (wnD w)) := As.lists (wnD_plain 0 w (by omega)) (wnD_T w)
abbrev lapB : CSs := (.cons (.asg (.name 11) (.blt .toTuple (.cons (.lv (.comp (.bin .Sub (.call 40 (.cons (.var 1) (.cons (.int 19) .nil))) (.int 9)) (.name 17) (.rng1 (.var 2)) (.none) [17])) .nil))) (.cons (.asg (.name 12) (.call 55 (.cons (.var 9) (.cons (.var 11) .nil)))) (.cons (.asg (.name 13) (.call 59 (.cons (.var 12) (.cons (.var 10) .nil)))) (.cons (.ife (.not (.tru (.call 48 (.cons (.fn 35) (.cons (.tup (.cons (.var 9) (.cons (.var 10) (.cons (.var 11) .nil)))) (.cons (.var 13) .nil)))))) (.cons (.ret (.bl false)) .nil) (.nil)) (.cons (.asg (.name 14) (.bin .Add (.bin .Add (.slc (.var 13) .none (.some (.int 2))) (.slc (.var 13) (.some (.neg (.int 1))) .none)) (.lv (.disp (.cons (.blt .toTuple (.cons (.lv (.comp (.bin .Sub (.bin .Add (.bin .FloorDiv (.idx (.var 16) (.int 0)) (.idx (.var 16) (.int 1))) (.call 40 (.cons (.var 1) (.cons (.int 5) .nil)))) (.int 2)) (.name 16) (.seq (.var 12)) (.none) [16])) .nil)) .nil))))) (.cons (.asg (.name 7) (.lv (.disp (.cons (.callK 34 (.nil) (.cons (.var 11) (.cons (.call 43 (.cons (.var 9) .nil)) (.cons (.var 10) .nil))) [1, 2, 0]) (.cons (.lv (.comp (.call 36 (.cons (.var 9) (.cons (.call 43 (.cons (.var 10) .nil)) (.cons (.var 11) (.cons (.var 16) .nil))))) (.name 16) (.seq (.var 14)) (.none) [16])) .nil))))) (.cons (.asg (.name 7) (.bin .Add (.var 7) (.lv (.disp (.cons (.lv (.comp (.callK 37 (.nil) (.cons (.var 9) (.cons (.var 11) (.cons (.lv (.lst (.var 16))) .nil))) [0, 1, 2]) (.name 16) (.seq (.var 14)) (.none) [16])) (.cons (.lv (.comp (.call 38 (.cons (.var 9) (.cons (.var 11) (.cons (.var 16) .nil)))) (.name 16) (.seq (.var 14)) (.none) [16])) .nil)))))) (.cons (.asg (.name 15) (.lv (.comp (.call 65 (.cons (.var 9) (.cons (.var 11) (.cons (.var 16) .nil)))) (.name 16) (.seq (.var 14)) (.none) [16]))) (.cons (.ife (.not (.tru (.call 44 (.cons (.var 7) (.cons (.lv (.disp (.cons (.blt .len (.cons (.var 13) .nil)) (.cons (.lv (.comp (.cmp .In (.var 16) (.var 13)) (.name 16) (.seq (.var 14)) (.none) [16])) (.cons (.var 15) (.cons (.lv (.comp (.call 66 (.cons (.var 16) .nil)) (.name 16) (.seq (.var 15)) (.none) [16])) .nil)))))) .nil))))) (.cons (.ret (.bl false)) .nil) (.nil)) .nil)))))))))
theorem k03_lap {k n c : Nat} {m m0 : M} {T : List (List Rat)} {W : List (Rat × Rat)} (hm0 : m0.length = 0) (n1 : 1 ≤ n) (n3 : n ≤ 3) (tb : Tb n 80 T) (tm : Tm 36 T) (wl : W.length = n) (wd : ∀ q ∈ W, Wd 4 q) (p : Tin c [] m) (hc : c ≤ 2 ^ 30)
    (sc lap e3 e7 e11 e12 e13 e14 e15 : Option D) (x : D) :
    ∃ m' f7 f11 f12 f13 f14 f15, forF (cf (k + 14) m0) (.name 3) lapB x [sc, some (.ref 0), some (I n), e3, none, none, none, e7, none, some (tbD T), some (wnD W), e11, e12, e13, e14, e15, none, none] m = .nx [sc, some (.ref 0), some (I n), some x, none, none, none, f7, none, some (tbD T), some (wnD W), f11, f12, f13, f14, f15, none, none] m' ∧ Tin (c + 6) [] m' := by
  -- the row
  obtain ⟨r, m1, ev1, rl, rq, p1⟩ := comp_draw (c := cf (k + 14) m0) (e := [sc, some (.ref 0), some (I n), some x, none, none, none, e7, none, some (tbD T), some (wnD W), e11, e12, e13, e14, e15, none, none]) (m := m) (m0 := m) (elt := (.bin .Sub (.call 40 (.cons (.var 1) (.cons (.int 19) .nil))) (.int 9))) (tg := .name 17) (it := .rng1 (.var 2)) (own := [17]) D.int (fun z => z.natAbs ≤ 9) (fun i m => Tin (c + i) [] m) ((List.range n).map fun i : Nat => D.int i) 0 (by simp; rw [rng1_ _ _ (by omega) (by omega)]; simp) (by simp; omega) p (fun i y m' _ hi hy hp => by
    rw [List.length_map, List.length_range] at hi
    obtain ⟨j, _, rfl⟩ := List.mem_map.mp hy
    obtain ⟨d, m2, e2, d0, d1, p2⟩ := take_ (k + 13) 19 (by omega) ⟨by omega, by omega⟩ hp (by omega)
    exact ⟨_, d - 9, m2, by simp; rfl, by simp [e2], by omega, p2⟩)
  rw [List.length_map, List.length_range] at rl p1
  have h := q3_drawn n1 n3 tb tm wl wd rl rq
  have ra : Asks n r := ⟨rl, h.rs⟩
  have im := limage_ (k := k + 9) (m := m1) h.tb n3 h.rs (by omega) (by omega)
  have ne := lnear_ (k := k + 9) (m := m1) h.wn h.il (by omega) h.ib (by omega) h.hc h.c1 (by
    have : 5 ^ n ≤ 5 ^ 3 := Nat.pow_le_pow_right (by omega) n3
    omega) h.hz
  have hcn : 5 ^ n ≤ 1000 := by
    have : 5 ^ n ≤ 5 ^ 3 := Nat.pow_le_pow_right (by omega) n3
    omega
  have nl : (nearL (ends (img T r) W)).length ≤ 1000 := by
    have := near_le' h.hc h.c1 n
    rw [h.el] at this
    rw [List.take_of_length_le (by rw [h.el]; exact Nat.le_refl _)] at this
    omega
  have na := near_asks h
  have at_ := as_tab h.tb n3; have atL := as_tabL h.tb n3
  have aw := as_win (w := W) (by omega); have awL := as_winL (w := W) (by omega)
  have ar := as_row ra n3
  have arL : As 1 (rowD r) (toL (rowD r)) := by rw [rowD_L]; exact as_rowL ra n3
  generalize hN : nearL (ends (img T r) W) = N at ne nl na
  have pN : plainD 4 (.lst (N.map rowD)) = true := by
    simp [plainDs_iff]
    exact ⟨fun s hs => rowD_plain 2 s (by have := (na s hs).len; omega), by omega⟩
  have pG : plainD 4 (.tup [tbD T, wnD W, rowD r]) = true := by
    simp [tbD_plain 0 T (by have := tb.len; omega) (fun r hr => by have := tb.row r hr; omega), wnD_plain 0 W (by omega), rowD_plain 2 r (by omega)]
  have an := told3 (k := k + 2) (f := 35) (by decide) m1 pG pN (by omega) (by rw [List.length_map]; omega)
    (fun m => by rw [rows_near_ (k := k + 5) h atL awL arL m hcn, hN]) (fun m => by rw [rows_near_ (k := k + 5) h at_ aw ar m hcn, hN])
  -- the others
  obtain ⟨q, m2, ev2, ql, qq, p2⟩ := comp_draw (c := cf (k + 14) m0) (e := [sc, some (.ref 0), some (I n), some x, none, none, none, e7, none, some (tbD T), some (wnD W), some (rowD r), some (ptD (img T r)), some (.lst (N.map rowD)), e14, e15, none, none]) (m := m1) (m0 := m1) (elt := (.bin .Sub (.bin .Add (.bin .FloorDiv (.idx (.var 16) (.int 0)) (.idx (.var 16) (.int 1))) (.call 40 (.cons (.var 1) (.cons (.int 5) .nil)))) (.int 2))) (tg := .name 16) (it := .seq (.var 12)) (own := [16]) D.int (fun z => Sz 190 z) (fun i m => Tin (c + n + i) [] m) ((img T r).map qD) 0 (by simp [ptD]) (by rw [List.length_map, h.il]; omega) (p1.mono (by omega)) (fun i y m' _ hi hy hp => by
    rw [List.length_map, h.il] at hi
    obtain ⟨z, hz, rfl⟩ := List.mem_map.mp hy
    obtain ⟨d, m2, e2, d0, d1, p2⟩ := take_ (k + 13) 5 (by omega) ⟨by omega, by omega⟩ hp (by omega)
    have dz := div_sz (den_pos z) ((h.ib z hz).den.mono (by omega))
    have fl := (img_mg (s := 9) tm tb rq z hz).floor
    have hn : n * (36 * 9) ≤ 3 * 324 := Nat.mul_le_mul n3 (by omega)
    refine ⟨_, z.floor + d - 2, m2, by simp; rfl, by simp [qD, dz, e2, Rat.floor_def], (show Sz 20 _ by unfold Sz; omega).mono (by omega), p2⟩)
  rw [List.length_map, h.il] at ql p2
  have qa : Asks n q := ⟨ql, qq⟩
  obtain ⟨O, hO, oa⟩ : ∃ O : List (List Int), O = (N.take 2 ++ (N.drop (N.length - 1)).take 1) ++ [q] ∧ ∀ s ∈ O, Asks n s := by
    refine ⟨_, rfl, fun s hs => ?_⟩
    simp at hs
    rcases hs with h1 | h1 | h1
    · exact na s (List.mem_of_mem_take h1)
    · exact na s (List.mem_of_mem_drop (List.mem_of_mem_take h1))
    · rw [h1]; exact qa
  have ol : O.length ≤ 4 := by rw [hO]; simp; omega
  have cu1 : cutD (N.map rowD) none (some 2) = (N.take 2).map rowD := by
    rw [cutD_map]
    show ((N.drop 0).take (min 2 N.length - 0)).map rowD = _
    rw [List.drop_zero, Nat.sub_zero]
    refine congrArg (List.map rowD) ?_
    rcases Nat.le_total 2 N.length with h | h
    · rw [Nat.min_eq_left h]
    · rw [Nat.min_eq_right h, List.take_length, List.take_of_length_le h]
  have cu2 : cutD (N.map rowD) (some (-1)) none = ((N.drop (N.length - 1)).take 1).map rowD := by
    rw [cutD_map]
    have e : cutIx N.length 0 (some (-1)) = N.length - 1 := by
      show ((-1 : Int) + (N.length : Int)).toNat = _
      omega
    rw [e]
    show ((N.drop (N.length - 1)).take (N.length - (N.length - 1))).map rowD = _
    refine congrArg (List.map rowD) ?_
    rcases Nat.eq_zero_or_pos N.length with h | h
    · rw [List.eq_nil_of_length_eq_zero h]; rfl
    · rw [show N.length - (N.length - 1) = 1 by omega]
  have others : evE (cf (k + 14) m0) (.bin .Add (.bin .Add (.slc (.var 13) .none (.some (.int 2))) (.slc (.var 13) (.some (.neg (.int 1))) .none)) (.lv (.disp (.cons (.blt .toTuple (.cons (.lv (.comp (.bin .Sub (.bin .Add (.bin .FloorDiv (.idx (.var 16) (.int 0)) (.idx (.var 16) (.int 1))) (.call 40 (.cons (.var 1) (.cons (.int 5) .nil)))) (.int 2)) (.name 16) (.seq (.var 12)) (.none) [16])) .nil)) .nil))))
    [sc, some (.ref 0), some (I n), some x, none, none, none, e7, none, some (tbD T), some (wnD W), some (rowD r), some (ptD (img T r)), some (.lst (N.map rowD)), e14, e15, none, none] m1 = .ok (.lst (O.map rowD)) m2 := by
    have hq : D.tup (List.map D.int q) = rowD q := rfl
    simp [cu1, cu2, show min 2 N.length + min 1 (N.length - (N.length - 1)) ≤ 1000000 by omega, ev2, hO, hq, show min 2 N.length + min 1 (N.length - (N.length - 1)) ≤ 999999 by omega, show min 2 N.length + (min 1 (N.length - (N.length - 1)) + 1) ≤ 1000000 by omega]
  have p2' : Tin (c + 6) [] m2 := p2.mono (by omega)
  -- what is got
  have hm2 := how_many_near_ (k := k + 7) h atL aw ar m2 (by omega)
  rw [hN] at hm2
  have l1 : t.call (k + 14) 43 [tbD T] m2 = .ok (toL (tbD T)) m2 := lists_ (tb.as (by omega)) (by omega)
  have l2 : t.call (k + 14) 43 [wnD W] m2 = .ok (toL (wnD W)) m2 := lists_ (wnD_plain 0 W (by omega)) (by omega)
  have inN : ∀ s ∈ O, inE s (ends (img T r) W) = decide (s ∈ N) := fun s hs => by
    rw [← hN, Bool.eq_iff_iff, decide_eq_true_eq, mem_near, h.el]
    exact ⟨fun q => ⟨(oa s hs).len, q⟩, fun q => q.2⟩
  have ev3 : evL (cf (k + 14) m0) (.comp (.call 36 (.cons (.var 9) (.cons (.call 43 (.cons (.var 10) .nil)) (.cons (.var 11) (.cons (.var 16) .nil))))) (.name 16) (.seq (.var 14)) (.none) [16]) [sc, some (.ref 0), some (I n), some x, none, none, none, e7, none, some (tbD T), some (wnD W), some (rowD r), some (ptD (img T r)), some (.lst (N.map rowD)), some (.lst (O.map rowD)), e15, none, none] m2 = .ok (O.map fun s => .bl (decide (s ∈ N))) m2 := by
    rw [comp_enc O rowD (fun s => .bl (decide (s ∈ N))) (by simp) (by omega) (fun s hs => ⟨_, by simp; rfl, by
      have e := is_near_ (k := k + 7) h at_ awL ar m2 (oa s hs).len (as_row (oa s hs) n3)
      have l2' : t.call (k + 14) 43 [wnD W] m2 = .ok (toL (wnD W)) m2 := lists_ (wnD_plain 0 W (by omega)) (by omega)
      simp [l2', e, inN s hs]⟩)]
  have ev4 : ∀ f7, evL (cf (k + 14) m0) (.comp (.callK 37 (.nil) (.cons (.var 9) (.cons (.var 11) (.cons (.lv (.lst (.var 16))) .nil))) [0, 1, 2]) (.name 16) (.seq (.var 14)) (.none) [16]) [sc, some (.ref 0), some (I n), some x, none, none, none, f7, none, some (tbD T), some (wnD W), some (rowD r), some (ptD (img T r)), some (.lst (N.map rowD)), some (.lst (O.map rowD)), e15, none, none] m2 = .ok (O.map fun s => ptD (offL (img T r) s)) m2 := fun f7 => by
    rw [comp_enc O rowD (fun s => ptD (offL (img T r) s)) (by simp) (by omega) (fun s hs => ⟨_, by simp; rfl, by
      have e := off_by_ (k := k + 8) h at_ ar m2 (oa s hs).len (as_rowL (oa s hs) n3) (oa s hs).sz (by omega)
      have it : itemsOf m2 (rowD s) = some (s.map .int) := rfl
      simp [it, e]⟩)]
  have ev5 : ∀ f7, evL (cf (k + 14) m0) (.comp (.call 38 (.cons (.var 9) (.cons (.var 11) (.cons (.var 16) .nil)))) (.name 16) (.seq (.var 14)) (.none) [16]) [sc, some (.ref 0), some (I n), some x, none, none, none, f7, none, some (tbD T), some (wnD W), some (rowD r), some (ptD (img T r)), some (.lst (N.map rowD)), some (.lst (O.map rowD)), e15, none, none] m2 = .ok (O.map fun s => qD (farL (offL (img T r) s))) m2 := fun f7 => by
    rw [comp_enc O rowD (fun s => qD (farL (offL (img T r) s))) (by simp) (by omega) (fun s hs => ⟨_, by simp; rfl, by
      have e := far_by_ (k := k + 7) h at_ ar m2 (oa s hs).len (as_row (oa s hs) n3) (oa s hs).sz (by omega)
      simp [e]⟩)]
  have ev6 : ∀ f7, evL (cf (k + 14) m0) (.comp (.call 65 (.cons (.var 9) (.cons (.var 11) (.cons (.var 16) .nil)))) (.name 16) (.seq (.var 14)) (.none) [16]) [sc, some (.ref 0), some (I n), some x, none, none, none, f7, none, some (tbD T), some (wnD W), some (rowD r), some (ptD (img T r)), some (.lst (N.map rowD)), some (.lst (O.map rowD)), e15, none, none] m2 = .ok (O.map fun s => ptD (offL (img T r) s)) m2 := fun f7 => by
    rw [comp_enc O rowD (fun s => ptD (offL (img T r) s)) (by simp) (by omega) (fun s hs => ⟨_, by simp; rfl, by
      have e := loffs_ (k := k + 8) (m := m2) h.tb n3 h.rs (oa s hs).sz (by omega) (by omega)
      simp [e]⟩)]
  have ev7 : ∀ f7 f15, evL (cf (k + 14) m0) (.comp (.cmp .In (.var 16) (.var 13)) (.name 16) (.seq (.var 14)) (.none) [16]) [sc, some (.ref 0), some (I n), some x, none, none, none, f7, none, some (tbD T), some (wnD W), some (rowD r), some (ptD (img T r)), some (.lst (N.map rowD)), some (.lst (O.map rowD)), f15, none, none] m2 = .ok (O.map fun s => .bl (decide (s ∈ N))) m2 := fun f7 f15 => by
    rw [comp_enc O rowD (fun s => .bl (decide (s ∈ N))) (by simp) (by omega) (fun s hs => ⟨_, by simp; rfl, by simp [in_rows]⟩)]
  have ev8 : ∀ f7, evL (cf (k + 14) m0) (.comp (.call 66 (.cons (.var 16) .nil)) (.name 16) (.seq (.var 15)) (.none) [16]) [sc, some (.ref 0), some (I n), some x, none, none, none, f7, none, some (tbD T), some (wnD W), some (rowD r), some (ptD (img T r)), some (.lst (N.map rowD)), some (.lst (O.map rowD)), some (.lst (O.map fun s => ptD (offL (img T r) s))), none, none] m2 = .ok (O.map fun s => qD (farL (offL (img T r) s))) m2 := fun f7 => by
    rw [comp_enc O (fun s => ptD (offL (img T r) s)) (fun s => qD (farL (offL (img T r) s))) (by simp) (by omega) (fun s hs => ⟨_, by simp; rfl, by
      have bq := off_bq h.ib (oa s hs).sz
      have hl : (offL (img T r) s).length = n := by simp [offL, h.il, (oa s hs).len]
      cases ho : offL (img T r) s with
      | nil => rw [ho] at hl; simp at hl; omega
      | cons y ys =>
        rw [ho] at bq
        have e := lgreat_ (k := k + 12) (m := m2) bq (by omega) (by omega)
        simp [ptD] at e ⊢
        simp [e, farL]⟩)]
  have pS : plainD 6 (.lst [.int N.length, .lst (O.map fun s => .bl (decide (s ∈ N))), .lst (O.map fun s => ptD (offL (img T r) s)), .lst (O.map fun s => qD (farL (offL (img T r) s)))]) = true := by
    simp [plainDs_iff, show O.length ≤ 1000000 by omega]
    intro s hs
    exact ptD_plain 2 _ (by simp [offL, h.il]; omega)
  have sm := same_ (k := k + 14) (m := m2) pS (by omega)
  refine ⟨m2, some (.lst [.int N.length, .lst (O.map fun s => .bl (decide (s ∈ N))), .lst (O.map fun s => ptD (offL (img T r) s)), .lst (O.map fun s => qD (farL (offL (img T r) s)))]), some (rowD r), some (ptD (img T r)), some (.lst (N.map rowD)), some (.lst (O.map rowD)), some (.lst (O.map fun s => ptD (offL (img T r) s))), ?_, p2'⟩
  have hrD : D.tup (List.map D.int r) = rowD r := rfl
  have hqD : D.tup (List.map D.int q) = rowD q := rfl
  have hOD : List.take 2 (List.map rowD N) ++ (List.take 1 (List.drop (N.length - 1) (List.map rowD N)) ++ [rowD q]) = O.map rowD := by simp [hO]
  have t1 : min 2 N.length + min 1 (N.length - (N.length - 1)) ≤ 1000000 := by omega
  have t2 : min 2 N.length + min 1 (N.length - (N.length - 1)) ≤ 999999 := by omega
  have t3 : min 2 N.length + (min 1 (N.length - (N.length - 1)) + 1) ≤ 1000000 := by omega
  simp [forF, lapB, ev1, hrD, im, ne, an, cu1, cu2, t1, t2, t3, ev2, hqD, hOD]
  have it : itemsOf m2 (.lst (N.map rowD)) = some (N.map rowD) := rfl
  simp [l1, hm2, ev3, ev4, ev5, ev6, ev7, ev8]
  simp [sm]
end K3
namespace K3
open PySem Dx
/-! ### k03: what stands behind the laps -/
def restN : Nat → CSs → CSs
  | 0, s => s
  | n + 1, .cons _ s => restN n s
  | _ + 1, .nil => .nil
theorem is_win_t {k n b : Nat} {w : List (Rat × Rat)} {m : M} (h : Wn n b w) (hn : 1 ≤ n) (hn2 : n ≤ 1000) (hb : b ≤ 4000) : t.call (k + 4) 31 [wnD w] m = .ok tru m := by
  rw [call_S c31 rfl rfl]
  simp [c31, window_in (k := k) h hn hn2 hb]
theorem is_win_l (k : Nat) (xs : List D) (m : M) : t.call (k + 2) 31 [.lst xs] m = .ok (B false) m := by
  have e : t.call (k + 1) 23 [.lst xs] m = .ok (B false) m := by
    rw [call_S c23 rfl rfl]
    simp [c23]
  rw [call_S c31 rfl rfl]
  simp [c31, e]
abbrev badW : D := .tup [.tup [I 1, I 2], .tup [I 0, I 1]]
theorem is_win_bad {k n b : Nat} {w : List (Rat × Rat)} {m : M} (h : Wn n b w) (hn : 1 ≤ n) (hn2 : n ≤ 3) (hb : b ≤ 4000) : t.call (k + 4) 31 [.tup (w.map wpD ++ [badW])] m = .ok (B false) m := by
  have hl := h.len
  have n1 : ((1 : Rat) / 2).num = 1 := by decide +kernel
  have n2 : ((1 : Rat) / 2).den = 2 := by decide +kernel
  have qh : badW = wpD ((1 : Rat) / 2, 0) := by simp [badW, wpD, qD, n1, n2]
  have b1 : Bq 4 ((1 : Rat) / 2) := by
    constructor
    · rw [n1]; unfold Sz; decide
    · rw [n2]; decide
  have ok : ∀ p ∈ w, Bq (b + 4) p.1 ∧ Bq (b + 4) p.2 ∧ decide (p.1 ≤ p.2) = true := fun p hp => ⟨(h.lo p hp).mono (by omega), (h.hi p hp).mono (by omega), by simp [h.le p hp]⟩
  have e : t.call (k + 3) 23 [.tup (w.map wpD ++ [badW])] m = .ok (B false) m := by
    rw [show w.map wpD ++ [badW] = (w ++ [((1 : Rat) / 2, (0 : Rat))]).map wpD by rw [qh]; simp]
    generalize hW : w ++ [((1 : Rat) / 2, (0 : Rat))] = W
    have hWl : W.length ≤ 4 := by rw [← hW]; simp; omega
    have hne : evEq (.tup (W.map wpD)) (.tup []) = some false := ne_nil (n := 0) m (fun x hx => by
      obtain ⟨r, hr, rfl⟩ := List.mem_map.mp hx
      exact okD_mono 2 39 _ (plain_ok 2 _ (wpD_plain 0 r)) (by omega)) (by
      intro e; have := congrArg List.length e; simp [← hW] at this)
    rw [call_S c23 rfl rfl]
    simp [c23, hne]
    rw [comp_enc W wpD (fun _ => tru) (by simp) (by omega) (fun p hp => ⟨_, by simp; rfl, by simp [wpD, long_tup]⟩)]
    simp [allBl_map (fun _ => true)]
    have z1 : decide ((1 : Rat) / 2 ≤ 0) = false := by decide +kernel
    have f1 : ∀ p : Rat × Rat, Bq (b + 4) p.1 → t.call (k + 2) 6 [qD p.1] m = .ok tru m := fun p hp => frac_ (k := k + 2) hp (by omega) (by omega)
    have f2 : ∀ p : Rat × Rat, Bq (b + 4) p.2 → t.call (k + 2) 6 [qD p.2] m = .ok tru m := fun p hp => frac_ (k := k + 2) hp (by omega) (by omega)
    have f3 : ∀ p : Rat × Rat, Bq (b + 4) p.1 → Bq (b + 4) p.2 → t.call (k + 2) 13 [qD p.1, qD p.2] m = .ok (B (decide (p.1 ≤ p.2))) m := fun p hp hq => atmost_ (k + 1) m hp hq (by omega)
    have g1 := f1 ((1 : Rat) / 2, 0) (b1.mono (by omega))
    have g2 := f2 ((1 : Rat) / 2, 0) (Bq.zero.mono (by omega))
    have g3 := f3 ((1 : Rat) / 2, 0) (b1.mono (by omega)) (Bq.zero.mono (by omega))
    simp only at g1 g2 g3
    rw [s_for' (W.map wpD) (m' := m) (by simp)]
    subst hW
    match w, hl, ok with
    | [p], _, ok =>
      have a := ok p (by simp)
      simp [forL, forF, wpD, f1 p a.1, f2 p a.2.1, f3 p a.1 a.2.1, a.2.2, g1, g2, g3, z1]
    | [p, q], _, ok =>
      have a := ok p (by simp)
      have a2 := ok q (by simp)
      simp [forL, forF, wpD, f1 p a.1, f2 p a.2.1, f3 p a.1 a.2.1, a.2.2, f1 q a2.1, f2 q a2.2.1, f3 q a2.1 a2.2.1, a2.2.2, g1, g2, g3, z1]
    | [p, q, r], _, ok =>
      have a := ok p (by simp)
      have a2 := ok q (by simp)
      have a3 := ok r (by simp)
      simp [forL, forF, wpD, f1 p a.1, f2 p a.2.1, f3 p a.1 a.2.1, a.2.2, f1 q a2.1, f2 q a2.2.1, f3 q a2.1 a2.2.1, a2.2.2, f1 r a3.1, f2 r a3.2.1, f3 r a3.1 a3.2.1, a3.2.2, g1, g2, g3, z1]
    | _ :: _ :: _ :: _ :: _, hl, _ => simp at hl; omega
    | [], hl, _ => simp at hl; omega
  rw [call_S c31 rfl rfl]
  simp [c31, e]
theorem wa_ {k n b : Nat} {x : Rat} {v : D} {m : M} (hx : Bq b x) (hb : b ≤ 4000) (h0 : 0 ≤ x) (hv : As 1 (qD x) v) (hn : 1 ≤ n) (hn2 : n ≤ 1000) :
    t.call (k + 4) 32 [I n, v] m = .ok (wnD (List.replicate n (-x, x))) m := by
  have e0 : t.call (k + 2) 0 [I n] m = .ok tru m := num_int (k + 1) n m
  have e1 : t.call (k + 3) 1 [I n, I 1] m = .ok tru m := by
    rw [call_S c1 rfl rfl]
    simp [c1, e0, show (1 : Int) ≤ n by omega]
  have e2 : t.call (k + 3) 7 [v] m = .ok (qD x) m := sure_frac hx (by omega) hv
  have e3 : t.call (k + 3) 13 [qD 0, qD x] m = .ok tru m := by
    rw [atmost_ (k + 2) m Bq.zero hx (by omega)]; simp [h0]
  have g0 : t.glob 0 = some (qD 0) := rfl
  have e4 : t.call (k + 2) 11 [qD x] m = .ok (qD (-x)) m := contrary_ (k + 1) m x
  have hr : wnD (List.replicate n (-x, x)) = .tup (List.replicate n (.tup [qD (-x), qD x])) := by
    simp [wnD, wpD]
  have fp := fin_pure false m.length m (wnD (List.replicate n (-x, x))) (wnD_pure _)
  rw [List.take_length] at fp
  have e5 : t.call (k + 3) 25 [I n, qD x] m = .ok (wnD (List.replicate n (-x, x))) m := by
    rw [call_S c25 rfl rfl]
    simp [c25, e4]
    by_cases hn1 : (n : Int) = 1
    · have : n = 1 := by omega
      subst this
      simp [hr] at fp ⊢
      simp [wnD, wpD]
    · have h2 : (2 : Int) ≤ n := by omega
      have h3 : (n : Int) ≤ 1000 := by omega
      rw [hr] at fp ⊢
      simp [hn1, h2, h3, rep_flat, fp]
  rw [call_S c32 rfl rfl]
  simp [c32, e1, e2, e3, g0, e5, fp]
abbrev Many : D := .lst [.str "many", tru]
abbrev Unf : D := .lst [.str "unfit", tru]
abbrev U1 : D := .tup [.tup [F 1 1]]
abbrev U2 : D := .tup [.tup [F 1 1, F 0 1], .tup [F 0 1, F 1 1]]
abbrev W16 : D := .tup [F (-16) 1, F 16 1]
section
variable (a b c : Int) (X : List D)
abbrev tx (a b c : Int) (X : List D) : M := [.lst [I a, I b, I c], .lst X]
theorem x_u2 : t.call 59 57 [I 2] (tx a b c X) = .ok U2 (tx a b c X) := by kernel_rfl
theorem t_u1 : t.call 59 57 [I 1] (tn a b c) = .ok U1 (tn a b c) := by kernel_rfl
theorem t_u2 : t.call 59 57 [I 2] (tn a b c) = .ok U2 (tn a b c) := by kernel_rfl
theorem t_many : t.call 59 64 [.fn 35, .tup [U2, .tup [W16, W16], .tup [I 0, I 0]]] (tn a b c) = .ok Many (tn a b c) := by kernel_rfl
theorem t_1089 : t.call 59 34 [U2, .tup [W16, W16], .tup [I 0, I 0]] (tn a b c) = .ok (I 1089) (tn a b c) := by kernel_rfl
theorem t_un1 : t.call 59 64 [.fn 32, .tup [I 2, F (-1) 2]] (tx a b c X) = .ok Unf (tx a b c X) := by kernel_rfl
theorem t_un2 : t.call 59 64 [.fn 32, .tup [I 0, F 1 2]] (tx a b c X) = .ok Unf (tx a b c X) := by kernel_rfl
theorem t_un3 : t.call 59 64 [.fn 35, .tup [U2, .tup [W16], .tup [I 0, I 0]]] (tx a b c X) = .ok Unf (tx a b c X) := by kernel_rfl
theorem t_un4 : t.call 59 64 [.fn 37, .tup [U2, .tup [I 0, I 0], .tup [I 0]]] (tx a b c X) = .ok Unf (tx a b c X) := by kernel_rfl
theorem t_w1 : t.call 59 31 [.tup []] (tn a b c) = .ok (B false) (tn a b c) := by kernel_rfl
theorem t_w2 : t.call 59 31 [.tup [.tup [F 2 4, F 1 1]]] (tn a b c) = .ok (B false) (tn a b c) := by kernel_rfl
theorem t_w3 : t.call 59 31 [.non] (tn a b c) = .ok (B false) (tn a b c) := by kernel_rfl
theorem t_w4 : t.call 59 31 [.tup [.tup [F 0 1]]] (tn a b c) = .ok (B false) (tn a b c) := by kernel_rfl
theorem t_w5 : t.call 59 31 [.tup [.tup [F 0 1, .tup [I 1, tru]]]] (tn a b c) = .ok (B false) (tn a b c) := by kernel_rfl
theorem t_end : t.call 59 44 [.lst [Many, I 1089, I 1000, Unf, Unf, Unf, Unf], .lst [Many, I 1089, I 1000, Unf, Unf, Unf, Unf]] (tx a b c X) = .ok tru (tx a b c X) := by kernel_rfl
end
theorem q3_999 : Q3 1 1000 (unitT 1) [((0 : Rat), (999 : Rat))] [5] := by
  have hi : ends (img (unitT 1) [5]) [((0 : Rat), (999 : Rat))] = [(5, 1004)] := by decide +kernel
  refine ⟨by omega, by omega, (unit_tb 1).mono (by omega), ⟨rfl, ?_, ?_, ?_⟩, rfl, ?_, ?_, by omega, ?_⟩
  · simp; exact Bq.zero.mono (by omega)
  · simp; exact (show Bq 10 (999 : Rat) from ⟨(show Sz 10 999 by unfold Sz; decide), by decide⟩).mono (by omega)
  · simp; decide +kernel
  · simp; exact (show Sz 3 5 by unfold Sz; decide).mono (by omega)
  · rw [hi]; simp; decide +kernel
  · rw [hi]; simp
theorem t_999 (m : M) (k : Nat) : t.call (k + 7) 35 [U1, .tup [.tup [F 0 1, F 999 1]], .tup [I 5]] m = .ok (.ref m.length) (m ++ [.lst ((nearL [(5, 1004)]).map rowD)]) := by
  have hi : ends (img (unitT 1) [5]) [((0 : Rat), (999 : Rat))] = [(5, 1004)] := by decide +kernel
  have n1 : (999 : Rat).num = 999 := by decide +kernel
  have n2 : (999 : Rat).den = 1 := by decide +kernel
  have e := rows_near_ (k := k) q3_999 (tv := tbD (unitT 1)) (wv := wnD [((0 : Rat), (999 : Rat))]) (rv := rowD [5]) (as_tab q3_999.tb (by omega)) (as_win (by simp)) (As.self (rowD_plain 0 _ (by simp)) (rowD_T _)) m (by omega)
  rw [hi] at e
  have e1 : tbD (unitT 1) = U1 := rfl
  have e2 : wnD [((0 : Rat), (999 : Rat))] = .tup [.tup [F 0 1, F 999 1]] := by simp [wnD, wpD, qD, n1, n2]
  rw [e1, e2] at e
  exact e
theorem l_999 : (nearL [(5, 1004)]).length = 1000 := by
  show (grow [[]] (5, 1004)).length = 1000
  rw [grow_len]; decide +kernel
abbrev tailB : CSs := restN 4 c67.body
theorem k03_tail {n c : Nat} {m : M} {W : List (Rat × Rat)} (n1 : 1 ≤ n) (n3 : n ≤ 3) (wl : W.length = n) (wd : ∀ q ∈ W, Wd 4 q) (p : Tin c [] m) (hc : c ≤ 2 ^ 30) (sc e3 e7 e9 e11 e12 e13 e14 e15 : Option D) :
    ∃ m', evSs (cf 59 []) tailB [sc, some (.ref 0), some (I n), e3, none, none, none, e7, none, e9, some (wnD W), e11, e12, e13, e14, e15, none, none] m = .ret tru m' := by
  obtain ⟨d, m1, t1, d0, d1, p1⟩ := take_ 58 30 (by omega) ⟨by omega, by omega⟩ p (by omega)
  obtain ⟨u, m2, t2, u0, u1, p2⟩ := take_ 58 9 (by omega) ⟨by omega, by omega⟩ p1 (by omega)
  have cu := cutn_ 58 d (1 + u) m2 (by omega) (by omega) (by omega)
  have bx : Bq 6 (Rat.divInt d (1 + u)) := Bq.cut (by omega) (by show _ < 64; omega) (by show _ < 64; omega)
  have x0 : 0 ≤ Rat.divInt d (1 + u) := cut_nn (by omega) d0
  generalize Rat.divInt d (1 + u) = x at cu bx x0
  have wn : Wn n 9 W := ⟨wl, fun q hq => (wd q hq).lo, fun q hq => (wd q hq).hi, fun q hq => (wd q hq).le⟩
  have a1 := wa_ (k := 55) (m := m2) bx (by omega) x0 (As.lists (n := 1) (d := qD x) (by simp [qD]) (by simp [qD])) n1 (by omega)
  have l1 : t.call 59 43 [qD x] m2 = .ok (toL (qD x)) m2 := lists_ (n := 1) (by simp [qD]) (by omega)
  have w0 := is_win_t (k := 55) (m := m2) wn n1 (by omega) (by omega)
  have wl0 := is_win_l 57 (W.map wpD) m2
  have wb := is_win_bad (k := 55) (m := m2) wn n1 n3 (by omega)
  obtain ⟨a, b, c', rfl, _⟩ := p2
  have hr : wnD (List.replicate n (-x, x)) = .tup (List.replicate n (.tup [qD (-x), qD x])) := by
    simp [wnD, wpD]
  have mulE : ∀ (X : D), evBin (tn a b c') .Mult (.tup [X]) (I n) = some (.tup (List.replicate n X)) := fun X => by
    by_cases hn1 : (n : Int) = 1
    · have : n = 1 := by omega
      subst this
      simp
    · have h2 : (2 : Int) ≤ n := by omega
      have h3 : (n : Int) ≤ 1000 := by omega
      simp [hn1, h2, h3, rep_flat]
  have iw : itemsOf (tn a b c') (wnD W) = some (W.map wpD) := rfl
  have pS : plainD 6 (.lst [wnD (List.replicate n (-x, x)), .lst [tru, B false, B false, B false, B false, B false, B false, B false]]) = true := by
    simp [wnD_plain 2 (List.replicate n (-x, x)) (by simp; omega)]
  have sm := same_ (k := 59) (m := tn a b c') pS (by omega)
  have wb' : t.call 59 31 [.tup (W.map wpD ++ [badW])] (tn a b c') = _ := wb
  have wadd : ∀ ys : List D, ys.length = 1 → evBin (tn a b c') .Add (wnD W) (.tup ys) = some (.tup (W.map wpD ++ ys)) := fun ys hy => by
    show evBin (tn a b c') .Add (.tup (W.map wpD)) (.tup ys) = _
    simp [wl, hy]; omega
  have cu' : t.call 59 49 [I d, I (1 + u)] (tn a b c') = .ok (F x.num x.den) (tn a b c') := cu
  have l1' : t.call 59 43 [F x.num x.den] (tn a b c') = .ok (toL (qD x)) (tn a b c') := l1
  have hr2 : D.tup (List.replicate n (.tup [F (-x.num) x.den, F x.num x.den])) = wnD (List.replicate n (-x, x)) := by rw [hr]; simp [qD]
  have hcomp : ∀ e4 e5 : Option D, evL (cf 59 []) (.comp (.callK 31 (.nil) (.cons (.var 16) .nil) [0]) (.name 16) (.seq (.var 6)) (.none) [16]) [sc, some (.ref 0), some (I n), e3, e4, e5, some (.lst [wnD W, .lst (W.map wpD), .tup [], .tup (W.map wpD ++ [badW]), .tup [.tup [F 2 4, F 1 1]], .non, .tup [.tup [F 0 1]], .tup [.tup [F 0 1, .tup [I 1, tru]]]]), e7, none, e9, some (wnD W), e11, e12, e13, e14, e15, none, none] (tn a b c') = .ok [tru, B false, B false, B false, B false, B false, B false, B false] (tn a b c') := fun e4 e5 => by
    rw [comp_enc [(wnD W, tru), (.lst (W.map wpD), B false), (.tup [], B false), (.tup (W.map wpD ++ [badW]), B false), (.tup [.tup [F 2 4, F 1 1]], B false), (.non, B false), (.tup [.tup [F 0 1]], B false), (.tup [.tup [F 0 1, .tup [I 1, tru]]], B false)] Prod.fst Prod.snd (by simp) (by simp) ?_]
    · simp
    · intro x hx
      refine ⟨_, by simp; rfl, ?_⟩
      simp at hx
      rcases hx with rfl | rfl | rfl | rfl | rfl | rfl | rfl | rfl
      · simp [w0]
      · simp [wl0]
      · simp [t_w1]
      · simp [wb']
      · simp [t_w2]
      · simp [t_w3]
      · simp [t_w4]
      · simp [t_w5]
  have mul2 : ∀ (X : D), evBin (tn a b c') .Mult (.tup [X]) (.int 2) = some (.tup [X, X]) := fun X => by simp
  have t9 := t_999 (tn a b c') 52
  have tm' := t_many a b c'
  simp [tailB, restN, c67, hcomp, mul2, tm', t_1089, t9, l_999, t_un1, t_un2, t_un3, t_un4, t_end, x_u2, t1, t2, cu', l1', -mul_t, mulE, iw, w0, wl0, wb', wadd, t_u1, t_u2, t_w1, t_w2, t_w3, t_w4, t_w5, hr2, a1, sm]
end K3
namespace K3
open PySem Dx
def stN : Nat → CSs → CS
  | 0, .cons s _ => s
  | n + 1, .cons _ s => stN n s
  | _, .nil => .pass
theorem body_eq : c67.body = .cons (stN 0 c67.body) (.cons (stN 1 c67.body) (.cons (stN 2 c67.body) (.cons (.for_ (.name 3) (.rng1 (.int 3)) lapB) (restN 4 c67.body)))) := rfl
theorem forL3 {step : D → Env' → M → SRes} {a b c : D} {e e1 e2 e3 : Env'} {m m1 m2 m3 : M} (h1 : step a e m = .nx e1 m1) (h2 : step b e1 m1 = .nx e2 m2) (h3 : step c e2 m2 = .nx e3 m3) : forL step [a, b, c] e m = .nx e3 m3 := by
  simp [forL, h1, h2, h3]
theorem it3 (c : Cfg) (e : Env') (m : M) : evI c (.rng1 (.int 3)) e m = .ok (.seq [I 0, I 1, I 2]) m := by
  simp; rw [rng1_ _ _ (by omega) (by omega)]; simp [List.range, List.range.loop]
theorem law_ok (l : List Int) (hl : l.length ≤ 63) : ∃ m, t.call 60 67 [scrD l] [] = .ok tru m := by
  obtain ⟨x, hx⟩ := cells_ 58 l hl
  obtain ⟨m0, hb, p0⟩ := box_ 58 x
  obtain ⟨d, m1, t1, d0, d1, p1⟩ := take_ 58 3 (by omega) ⟨by omega, by omega⟩ p0 (by omega)
  obtain ⟨n, hn⟩ : ∃ n : Nat, 1 + d = (n : Int) := ⟨(1 + d).toNat, by omega⟩
  have n1 : 1 ≤ n := by omega
  have n3 : n ≤ 3 := by omega
  obtain ⟨T, m2, t2, tb, tm, p2⟩ := table_ 54 n1 n3 p1 (by omega)
  obtain ⟨W, m3, t3, wl, wd, p3⟩ := window_ 56 4 (by omega) (by omega) n1 n3 p2 (by omega)
  have hm0 : ([] : M).length = 0 := rfl
  obtain ⟨ma, f7, f11, f12, f13, f14, f15, ha, pa⟩ := k03_lap (k := 45) (m0 := []) hm0 n1 n3 tb tm wl wd p3 (by omega) (some (scrD l)) none none none none none none none none (I 0)
  obtain ⟨mb, g7, g11, g12, g13, g14, g15, hb', pb⟩ := k03_lap (k := 45) (m0 := []) hm0 n1 n3 tb tm wl wd pa (by omega) (some (scrD l)) none (some (I 0)) f7 f11 f12 f13 f14 f15 (I 1)
  obtain ⟨mc, h7, h11, h12, h13, h14, h15, hc, pc⟩ := k03_lap (k := 45) (m0 := []) hm0 n1 n3 tb tm wl wd pb (by omega) (some (scrD l)) none (some (I 1)) g7 g11 g12 g13 g14 g15 (I 2)
  obtain ⟨me, he⟩ := k03_tail n1 n3 wl wd pc (by omega) (some (scrD l)) (some (I 2)) h7 (some (tbD T)) h11 h12 h13 h14 h15
  have q1 : t.call 59 40 [.ref 0, I 3] m0 = .ok (I d) m1 := t1
  have q2 : t.call 59 62 [.ref 0, I n] m1 = .ok (tbD T) m2 := t2
  have q3 : t.call 59 63 [.ref 0, I n, I 4] m2 = .ok (wnD W) m3 := t3
  have s0 : evS (cf 59 []) (stN 0 c67.body) [some (scrD l), none, none, none, none, none, none, none, none, none, none, none, none, none, none, none, none, none] [] = .nx [some (scrD l), some (.ref 0), none, none, none, none, none, none, none, none, none, none, none, none, none, none, none, none] m0 := by
    simp [stN, c67, hx, hb]
  have s1 : evS (cf 59 []) (stN 1 c67.body) [some (scrD l), some (.ref 0), none, none, none, none, none, none, none, none, none, none, none, none, none, none, none, none] m0 = .nx [some (scrD l), some (.ref 0), some (I n), none, none, none, none, none, none, none, none, none, none, none, none, none, none, none] m1 := by
    simp [stN, c67, q1, hn]
  have s2 : evS (cf 59 []) (stN 2 c67.body) [some (scrD l), some (.ref 0), some (I n), none, none, none, none, none, none, none, none, none, none, none, none, none, none, none] m1 = .nx [some (scrD l), some (.ref 0), some (I n), none, none, none, none, none, none, some (tbD T), some (wnD W), none, none, none, none, none, none, none] m3 := by
    simp [stN, c67, q2, q3]
  have s3 : evS (cf 59 []) (.for_ (.name 3) (.rng1 (.int 3)) lapB) [some (scrD l), some (.ref 0), some (I n), none, none, none, none, none, none, some (tbD T), some (wnD W), none, none, none, none, none, none, none] m3 = .nx [some (scrD l), some (.ref 0), some (I n), some (I 2), none, none, none, h7, none, some (tbD T), some (wnD W), h11, h12, h13, h14, h15, none, none] mc := by
    rw [s_for' [I 0, I 1, I 2] (m' := m3) (it3 _ _ _)]
    exact forL3 ha hb' hc
  have z : evSs (cf 59 []) c67.body [some (scrD l), none, none, none, none, none, none, none, none, none, none, none, none, none, none, none, none, none] [] = .ret tru me := by
    rw [body_eq, seq_nx s0, seq_nx s1, seq_nx s2, seq_nx s3]
    exact he
  refine ⟨me.take 0, ?_⟩
  rw [call_S c67 rfl rfl]
  refine (congrArg (endC false 0) z).trans ?_
  rw [endC_ret, fin_pure _ _ _ _ rfl]
end K3

theorem PySem.Challenge.cw_wholenear_k03_whole_windows_holds : PySem.Challenge.rw_wholenear_k03_whole_windows.Holds := by
  exact K3.law_of K3.law_ok
