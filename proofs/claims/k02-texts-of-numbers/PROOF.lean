import PyProof.Rows.All
import HandS.Text
import HandS.List
import HandS.ForMost
import HandS.ForExc
import HandS.Defaults
import HandS.IsInst
import HandS.Gcd
import HandS.Wide
import HandS.TupAny
import HandS.Style
import HandS.Replace
import HandS.MakeKw
import HandS.MakeKwOnly
import HandS.FStr
import HandS.Star
import HandS.Iter
import HandS.HotCalls
import HandS.ExcInit
import HandS.RaiseFrom
import KE.KExcSuper
import KE.KSuper
import HandS.ExcIs
import HandS.ExcField
import HandS.HeadHook2
import HandS.HeadEnd
import HandS.Head3
import HandS.Ends
import HandS.Words
import PySem.Challenge.RW_everyfreedom_k02_texts_of_numbers
set_option Elab.async false
set_option linter.all false
set_option maxRecDepth 100000
set_option maxHeartbeats 4000000
set_option autoImplicit false
/-! EA: values as trees, a small language with names as places, its evaluator. No heap of Python's here: a list that is changed is a token into the store. -/
namespace EF
open PySem

/-- a dict's key -/
inductive DK where
  | one (k : Sum Int Str) | many (ks : List (Sum Int Str))
  deriving DecidableEq

inductive D where
  | non | bl (b : Bool) | int (i : Int) | str (x : Str)
  | tup (xs : List D) | lst (xs : List D) | dct (ks : List DK) (vs : List D)
  | obj (C : Nat) (ns : List Nat) (vs : List D)
  /-- a list that is only read -/
  | frz (xs : List D)
  /-- a dict under way that is walked -/
  | wlk (ks : List DK) (vs : List D)
  | tok (n : Nat)

structure Exn where
  C : Nat
  ns : List Nat
  vs : List D

inductive Res (α : Type) where
  | ok (a : α) | ex (x : Exn)

/-- the store's contents -/
abbrev Sto := List D
def M (α : Type) : Type := Sto → Option (Res α × Sto)
namespace M
def pure {α : Type} (a : α) : M α := fun ν => some (.ok a, ν)
def fail {α : Type} : M α := fun _ => none
def throw {α : Type} (x : Exn) : M α := fun ν => some (.ex x, ν)
def bind {α β : Type} (m : M α) (f : α → M β) : M β := fun ν => match m ν with
  | some (.ok a, ν') => f a ν'
  | some (.ex x, ν') => some (.ex x, ν')
  | none => none
/-- what the store gives -/
def look {α : Type} (f : Sto → Option α) : M α := fun ν => match f ν with
  | some a => some (.ok a, ν)
  | none => none
def lift {α : Type} (o : Option α) : M α := look fun _ => o
end M

def peel : D → D
  | .wlk ks vs => .dct ks vs
  | d => d
/-- behind a token its content -/
def un (ν : Sto) : D → D
  | .tok n => peel (ν.getD n .non)
  | d => d

/-- a new object: a tree, or a token -/
def mkNew (nw : Bool) (d : D) : M D := fun ν => match nw with
  | true => some (.ok (.tok ν.length), ν ++ [d])
  | false => some (.ok d, ν)

/-! ### words on values -/
mutual
/-- all tokens are below n -/
def D.low (n : Nat) : D → Bool
  | .tup xs => D.lows n xs
  | .lst xs => D.lows n xs
  | .dct _ vs => D.lows n vs
  | .frz xs => D.lows n xs
  | .wlk _ vs => D.lows n vs
  | .obj _ _ vs => D.lows n vs
  | .tok m => decide (m < n)
  | _ => true
def D.lows (n : Nat) : List D → Bool
  | [] => true
  | d :: r => D.low n d && D.lows n r
end

def tru : D → Option Bool
  | .non => some false
  | .bl b => some b
  | .int i => some (i != 0)
  | .str x => if x.length ≤ sizeLine then some (x.length != 0) else none
  | .lst xs => some (!xs.isEmpty)
  | .tup xs => some (!xs.isEmpty)
  | .frz xs => some (!xs.isEmpty)
  | .dct ks _ => some (!ks.isEmpty)
  | _ => none

inductive Bop where
  | add | sub | mul | fdv | mod | pow
  deriving DecidableEq
inductive Cop where
  | eq | ne | lt | le | gt | ge | is | isnot | inn | notin
  deriving DecidableEq

def wideOk (i j : Int) : Prop := i.natAbs.log2 + j.natAbs.log2 < 1000000
instance (i j : Int) : Decidable (wideOk i j) := inferInstanceAs (Decidable (_ < _))

def repD {α : Type} (n : Nat) (xs : List α) : List α := (List.replicate n xs).flatten

def binD : Bop → D → D → Option D
  | .add, .int i, .int j => some (.int (i + j))
  | .add, .str x, .str y => if x.length + y.length ≤ sizeLine then some (.str (x ++ y)) else none
  | .add, .lst xs, .lst ys => if xs.length + ys.length ≤ sizeLine then some (.lst (xs ++ ys)) else none
  | .add, .tup xs, .tup ys => if xs.length + ys.length ≤ sizeLine then some (.tup (xs ++ ys)) else none
  | .sub, .int i, .int j => some (.int (i - j))
  | .mul, .int i, .int j => if wideOk i j then some (.int (i * j)) else none
  | .mul, .lst xs, .int k => if 0 ≤ k ∧ k < 2 ^ 63 ∧ xs.length * k.toNat ≤ sizeLine then some (.lst (repD k.toNat xs)) else none
  | .mul, .str x, .int k => if 0 ≤ k ∧ k ≤ 1000 ∧ x.length ≤ 1000 then some (.str ⟨(repD k.toNat x.cps.toList).toArray⟩) else none
  | .fdv, .int i, .int j => if j ≠ 0 ∧ j.natAbs.log2 < 9000 then some (.int (i.fdiv j)) else none
  | .mod, .int i, .int j => if j ≠ 0 then some (.int (i.fmod j)) else none
  | .pow, .int i, .int j => if 0 ≤ j ∧ j ≤ 1000000 ∧ i.natAbs < 2 ^ 64 then some (.int (i ^ j.toNat)) else none
  | _, _, _ => none

/-- pair by pair, as far as both go -/
def eqZ (f : D → D → Option Bool) : List D → List D → Option Bool
  | x :: xs, y :: ys => match f x y, eqZ f xs ys with
    | some a, some b => some (a && b)
    | _, _ => none
  | _, _ => some true
/-- 0 None, 1 bool or int, 2 str, 3 list, 4 tuple -/
def kindD : D → Option Nat
  | .non => some 0
  | .bl _ => some 1
  | .int _ => some 1
  | .str _ => some 2
  | .lst _ => some 3
  | .tup _ => some 4
  | _ => none
/-- == of data at most n deep: none where no rule says -/
def eqT : Nat → D → D → Option Bool
  | 0, _, _ => none
  | n + 1, a, b => match a, b with
    | .non, .non => some true
    | .bl a, .bl b => some (a == b)
    | .bl a, .int j => some ((if a then 1 else 0 : Int) == j)
    | .int i, .bl b => some (i == (if b then 1 else 0 : Int))
    | .int i, .int j => some (i == j)
    | .str x, .str y => some (x == y)
    | .lst xs, .lst ys => if xs.length = ys.length then eqZ (eqT n) xs ys else some false
    | .tup xs, .tup ys => (eqZ (eqT n) xs ys).map fun b => b && xs.length == ys.length
    | a, b => match kindD a, kindD b with
      | some i, some j => if i = j then none else some false
      | _, _ => none
def eqD (a b : D) : Option Bool := eqT 6 a b

/-! ### comparisons -/
def ltS (x y : Str) : Bool := decide (x.cps.toList < y.cps.toList)
/-- the sign c stands in x -/
def inS (c x : Str) : Option Bool := match c.cps.toList with
  | [a] => some (decide (a ∈ x.cps.toList))
  | _ => none
def flat : D → Bool
  | .non => true
  | .bl _ => true
  | .int _ => true
  | .str _ => true
  | _ => false
/-- x in xs, all of them None, bools, intsD, texts -/
def inL (x : D) (xs : List D) : Option Bool := if flat x && xs.all flat then some (xs.any fun y => (eqD y x).getD false) else none
def isNonD : D → Bool
  | .non => true
  | _ => false
def isBlD (b : Bool) : D → Bool
  | .bl c => b == c
  | _ => false
def cmpD (ν : Sto) (op : Cop) (x y : D) : Option Bool := match op with
  | .eq => eqD (un ν x) (un ν y)
  | .ne => (eqD (un ν x) (un ν y)).map (!·)
  | .lt => match x, y with
    | .int i, .int j => some (decide (i < j))
    | .str a, .str b => some (ltS a b)
    | _, _ => none
  | .le => match x, y with
    | .int i, .int j => some (decide (i ≤ j))
    | .str a, .str b => some (!ltS b a)
    | _, _ => none
  | .gt => match x, y with
    | .int i, .int j => some (decide (j < i))
    | .str a, .str b => some (ltS b a)
    | _, _ => none
  | .ge => match x, y with
    | .int i, .int j => some (decide (j ≤ i))
    | .str a, .str b => some (!ltS a b)
    | _, _ => none
  | .is => match y with
    | .non => some (isNonD x)
    | .bl b => some (isBlD b x)
    | _ => none
  | .isnot => match y with
    | .non => some (!isNonD x)
    | .bl b => some (!isBlD b x)
    | _ => none
  | .inn => match x, un ν y with
    | .str c, .str z => inS c z
    | x, .lst xs => inL x xs
    | x, .tup xs => inL x xs
    | .str k, .dct ks _ => some (ks.contains (.one (.inr k)))
    | _, _ => none
  | .notin => match x, un ν y with
    | .str c, .str z => (inS c z).map (!·)
    | x, .lst xs => (inL x xs).map (!·)
    | x, .tup xs => (inL x xs).map (!·)
    | .str k, .dct ks _ => some (!ks.contains (.one (.inr k)))
    | _, _ => none

/-! ### classes: 0 int, 1 bool, 2 str, 3 list, 4 tuple, 5 dict; own ones -/
inductive Cl where
  | ty (t : Nat) | own (C : Nat)
  deriving DecidableEq
def tyOf : D → Option Nat
  | .int _ => some 0
  | .bl _ => some 1
  | .str _ => some 2
  | .lst _ => some 3
  | .frz _ => some 3
  | .tup _ => some 4
  | .dct _ _ => some 5
  | .non => some 6
  | _ => none
def isi1 (d : D) : Cl → Option Bool
  | .ty t => match d with
    | .obj _ _ _ => some false
    | d => (tyOf d).map fun u => u == t || (u == 1 && t == 0)
  | .own C => match d with
    | .obj C' _ _ => some (C' == C)
    | d => (tyOf d).map fun _ => false
def isiD (d : D) : List Cl → Option Bool
  | [] => some false
  | c :: r => match isi1 d c, isiD d r with
    | some a, some b => some (a || b)
    | _, _ => none

/-! ### places -/
def cutL {α : Type} (xs : List α) (lo hi : Option Int) : List α := (xs.drop (HT.sIx xs.length 0 lo)).take (HT.sIx xs.length xs.length hi - HT.sIx xs.length 0 lo)
def chrs (x : Str) : List D := x.cps.toList.map fun c => .str ⟨#[c]⟩
def dictAt (ks : List DK) (vs : List D) (k : DK) : Option D := match ks, vs with
  | k' :: ks, v :: vs => if k' = k then some v else dictAt ks vs k
  | _, _ => none
def keyOf : D → Option DK
  | .int i => some (.one (.inl i))
  | .str x => some (.one (.inr x))
  | _ => none
def idxD (ν : Sto) (o i : D) : Option D := match un ν o, i with
  | .frz xs, .int i => (L2.ixN xs.length i).bind fun j => xs[j]?
  | .lst xs, .int i => (L2.ixN xs.length i).bind fun j => xs[j]?
  | .tup xs, .int i => (L2.ixN xs.length i).bind fun j => xs[j]?
  | .str x, .int i => if x.length ≤ sizeLine then ((L2.ixN x.cps.toList.length i).bind fun j => x.cps.toList[j]?).map fun c => .str ⟨#[c]⟩ else none
  | .dct ks vs, k => (keyOf k).bind fun k => dictAt ks vs k
  | _, _ => none
def sliD (nw : Bool) (ν : Sto) (o : D) (lo hi : Option Int) : Option D := match un ν o with
  | .frz xs => some (.lst (cutL xs lo hi))
  | .lst xs => some (.lst (cutL xs lo hi))
  | .tup xs => if nw = true then none else some (.tup (cutL xs lo hi))
  | .str x => if nw = false ∧ x.length ≤ sizeLine then some (.str ⟨(cutL x.cps.toList lo hi).toArray⟩) else none
  | _ => none
def revD (ν : Sto) (o : D) : Option D := match un ν o with
  | .lst xs => some (.lst xs.reverse)
  | .str x => if x.length ≤ sizeLine then some (.str ⟨x.cps.toList.reverse.toArray⟩) else none
  | _ => none
def fldAt (f : Nat) : List Nat → List D → Option D
  | g :: ns, v :: vs => if g = f then some v else fldAt f ns vs
  | _, _ => none
def attrD (ν : Sto) (o : D) (f : Nat) : Option D := match un ν o with
  | .obj _ ns vs => fldAt f ns vs
  | _ => none

/-! ### built-in functions and methods -/
inductive Bi where
  | len | int | abs | gcd | sum | all | any | tuple | list | str | min2 | max2 | dict
  deriving DecidableEq
/-- the built-in functions that give a new list or dict -/
def Bi.new : Bi → Bool
  | .list => true
  | .dict => true
  | _ => false
def intsD : List D → Option (List Int)
  | [] => some []
  | .int i :: r => (intsD r).map (i :: ·)
  | _ => none
def bools : List D → Option (List Bool)
  | [] => some []
  | .bl b :: r => (bools r).map (b :: ·)
  | _ => none
def strs' : List D → Option (List Str)
  | [] => some []
  | .str x :: r => (strs' r).map (x :: ·)
  | _ => none
def putD (ks : List DK) (vs : List D) (k : DK) (v : D) : List DK × List D := if ks.contains k = true then (ks, List.zipWith (fun k' v' => if k' = k then v else v') ks vs) else (ks ++ [k], vs ++ [v])
/-- dict(pairs) -/
def dictOf : List D → List DK → List D → Option D
  | [], ks, vs => some (.dct ks vs)
  | .tup [.str k, v] :: r, ks, vs => dictOf r (putD ks vs (.one (.inr k)) v).1 (putD ks vs (.one (.inr k)) v).2
  | _, _, _ => none
def lenD : D → Option Nat
  | .frz xs => some xs.length
  | .lst xs => some xs.length
  | .tup xs => some xs.length
  | .str x => if x.length ≤ sizeLine then some x.length else none
  | .dct ks _ => some ks.length
  | _ => none
def biD (ν : Sto) (b : Bi) (as : List D) : Option D := match b with
  | .len => match as with
    | [x] => (lenD (un ν x)).map fun n => .int n
    | _ => none
  | .int => match as with
    | [.int i] => some (.int i)
    | [.bl b] => some (.int (if b then 1 else 0))
    | [.str x] => if x.length ≤ 640 then (PySem.intText? x).map .int else none
    | _ => none
  | .abs => match as with
    | [.int i] => some (.int (if i < 0 then -i else i))
    | _ => none
  | .gcd => match as with
    | [.int i, .int j] => some (.int (Nat.gcd i.natAbs j.natAbs : Nat))
    | _ => none
  | .sum => match as with
    | [x] => match un ν x with
      | .lst xs => (intsD xs).map fun ns => .int ns.sum
      | _ => none
    | _ => none
  | .all => match as with
    | [x] => match un ν x with
      | .lst xs => (bools xs).map fun bs => .bl (bs.all id)
      | _ => none
    | _ => none
  | .any => match as with
    | [x] => match un ν x with
      | .lst xs => (bools xs).map fun bs => .bl (bs.any id)
      | _ => none
    | _ => none
  | .tuple => match as with
    | [x] => match un ν x with
      | .lst xs => some (.tup xs)
      | .tup xs => some (.tup xs)
      | _ => none
    | _ => none
  | .list => match as with
    | [x] => match un ν x with
      | .lst xs => some (.lst xs)
      | .tup xs => some (.lst xs)
      | _ => none
    | _ => none
  | .dict => match as with
    | [x] => match un ν x with
      | .lst xs => dictOf xs [] []
      | _ => none
    | _ => none
  | .str => match as with
    | [.int i] => if i.natAbs.log2 < 1920 then some (.str (Str.ofString (toString i))) else none
    | _ => none
  | .min2 => match as with
    | [.int i, .int j] => some (.int (if j < i then j else i))
    | _ => none
  | .max2 => match as with
    | [.int i, .int j] => some (.int (if j > i then j else i))
    | _ => none

inductive Mt where
  | partition | split | join | index | append | get
  deriving DecidableEq
/-- what the method is of -/
def mtTy : Mt → D → Option Unit
  | .append, .lst _ => some ()
  | .partition, .str _ => some ()
  | .split, .str _ => some ()
  | .join, .str _ => some ()
  | .index, .str _ => some ()
  | _, _ => none
def Mt.new : Mt → Bool
  | .split => true
  | _ => false
/-- methods that change nothing -/
def mtD (ν : Sto) (m : Mt) (o : D) (as : List D) : Option D := match m with
  | .partition => match o, as with
    | .str x, [.str y] => if (y.length == 0) = false ∧ x.length ≤ sizeLine then some (.tup [.str (Txt.partition x y).1, .str (Txt.partition x y).2.1, .str (Txt.partition x y).2.2]) else none
    | _, _ => none
  | .split => match o, as with
    | .str x, [.str y] => if (y.length == 0) = false ∧ x.length + 2 ≤ sizeLine then some (.lst ((Txt.split x y).map .str)) else none
    | _, _ => none
  | .join => match o, as with
    | .str x, [l] => match un ν l with
      | .lst xs => (strs' xs).bind fun ys => if (ys.map (·.length)).sum + ys.length * x.length ≤ 16777216 then some (.str (Txt.join x ys)) else none
      | _ => none
    | _, _ => none
  | .index => match o, as with
    | .str x, [.str y] => match Builtin.Str.occurrences x y 0 x.length 1 with
      | i :: _ => some (.int (i : Nat))
      | [] => none
    | _, _ => none
  | _ => none
/-- methods that change the token n (below n0: another's: only what holds no tokens may be laid there) -/
def mtW (n0 : Nat) (ν : Sto) (m : Mt) (n : Nat) (as : List D) : Option (D × Sto) := match m, ν[n]?, as with
  | .append, some (.lst xs), [x] => if xs.length < sizeLine ∧ (n0 ≤ n ∨ x.low 0 = true) then some (.non, ν.set n (.lst (xs ++ [x]))) else none
  | _, _, _ => none
def mtK : Option (D × Sto) → Option (Res D × Sto)
  | some (d, ν') => some (.ok d, ν')
  | none => none
def mtE (n0 : Nat) (nw : Bool) (m : Mt) (x : D) (ds : List D) : M D := match x with
  | .tok n => fun ν => mtK (mtW n0 ν m n ds)
  | x => (M.look fun ν => mtD ν m x ds).bind fun d => mkNew nw d
/-- o[i] = v -/
def setD (n0 : Nat) (ν : Sto) (n : Nat) (i v : D) : Option Sto := match ν[n]?, i with
  | some (.lst xs), .int k => (L2.ixN xs.length k).bind fun j => if n0 ≤ n ∨ v.low 0 = true then some (ν.set n (.lst (xs.set j v))) else none
  | some (.dct ks vs), .str k => if ks.length < 1000 ∧ (n0 ≤ n ∨ v.low 0 = true) then some (ν.set n (.dct (putD ks vs (.one (.inr k)) v).1 (putD ks vs (.one (.inr k)) v).2)) else none
  | _, _ => none
/-- o.f = v of an object under way -/
def setF (n0 : Nat) (ν : Sto) (n : Nat) (f : Nat) (v : D) : Option Sto := match ν[n]? with
  | some (.obj C ns vs) => if ns.length < 900 ∧ n0 ≤ n + 1 ∧ v.low 0 = true ∧ f ∉ ns then some (ν.set n (.obj C (ns ++ [f]) (vs ++ [v]))) else none
  | _ => none

/-! ### the language -/
/-- targets -/
inductive Tg where
  | nm (i : Nat) | tp (is : List Nat)
mutual
inductive E where
  | var (i : Nat) | lit (d : D) | glb (k : Nat)
  | bin (op : Bop) (a b : E) | cmp (op : Cop) (a b : E) | chn (o1 o2 : Cop) (a b c : E)
  | not (a : E) | neg (a : E) | and (a b : E) | or (a b : E) | ife (c a b : E)
  | tup (es : Es) | lst (nw : Bool) (es : Es) | dsp (nw : Bool) (ks : List DK) (es : Es)
  | call (f : Nat) (es : Es) | callk (f j : Nat) (es ks : Es) | star (f : Nat) (a : E)
  | bi (nw : Bool) (b : Bi) (es : Es) | mt (nw : Bool) (m : Mt) (o : E) (es : Es)
  | attr (o : E) (f : Nat) | idx (a i : E) | sli (nw : Bool) (a : E) (lo hi : Oe) | rev (a : E)
  | isi (a : E) (cs : List Cl)
  | comp (nw : Bool) (el : E) (tg : Tg) (it : It) (cd : Oe) (own : List Nat)
  | mk (C : Nat) (es : Es) | mkk (C j : Nat) (es ks : Es)
  | fst (es : Es)
  | lck (i : Nat) (a : E)
inductive Es where
  | nil | cons (e : E) (r : Es)
inductive Oe where
  | none | some (e : E)
inductive It where
  | val (e : E) | rng (es : Es)
end

mutual
inductive S where
  | asg (t : Tg) (e : E) | par (is : List Nat) (es : Es) | expr (e : E) | ret (e : E) | retN
  | ifs (c : E) (a b : Ss) | loop (t : Tg) (it : It) (b : Ss) | whl (c : E) (b : Ss)
  | raise (C : Nat) (es : Es) | tri (b : Ss) (hs : Hs) | setI (o i e : E) | setF (i : Nat) (f : Nat) (e : E)
  | pass | brk | cont
inductive Ss where
  | nil | cons (s : S) (r : Ss)
/-- an except clause: its class, its name's place, what it returns -/
inductive Hs where
  | nil | cons (C : Nat) (nm : Option Nat) (e : He) (r : Hs)
inductive He where
  | lit (d : D) | attr (f : Nat) | isi (C : Nat) | lst (es : Hes)
inductive Hes where
  | nil | cons (e : He) (r : Hes)
end

abbrev Env := List (Option D)
inductive Flow where
  | nx (env : Env) | rt (d : D) | bk (env : Env) | ct (env : Env) | ex (x : Exn) (env : Env)
def Env.wipe (env : Env) : List Nat → Env
  | [] => env
  | v :: vs => (Env.wipe env vs).set v none
def setAll (env : Env) : List Nat → List D → Option Env
  | [], [] => some env
  | i :: is, d :: ds => setAll (env.set i (some d)) is ds
  | _, _ => none
def bindT (ν : Sto) (t : Tg) (d : D) (env : Env) : Option Env := match t with
  | .nm i => some (env.set i (some d))
  | .tp is => match d with
    | .tup xs => setAll env is xs
    | _ => none

/-- what the whole leans on: globals' values, errors' kinds, keyword calls, classes -/
structure Tab where
  glb : Nat → Option D
  /-- the fields of an error: which argument, or None -/
  err : Nat → List D → Option Exn
  /-- how keyword calls lay their values out: the parameters' places -/
  kw : Nat → Option (List Nat)
  /-- is the error's class one of these -/
  sub : Nat → Nat → Option Bool
  /-- a class's __init__ -/
  init : Nat → Option Nat

/-- positional and keyword values in the parameters' order: place i of the result is as[p i] -/
def permD (p : List Nat) (as : List D) : Option (List D) := p.mapM fun i => as[i]?

def calm {α : Type} (m : M α) : M α := fun ν => match m ν with
  | some (.ok a, ν') => some (.ok a, ν')
  | _ => none

def small62 (i : Int) : Prop := -(2 ^ 62) ≤ i ∧ i < 2 ^ 62
instance (i : Int) : Decidable (small62 i) := inferInstanceAs (Decidable (_ ∧ _))
/-- what a loop walks -/
def keyD : DK → Option D
  | .one (.inl i) => some (.int i)
  | .one (.inr x) => some (.str x)
  | .many _ => none
def itemsD : D → Option (List D)
  | .lst xs => some xs
  | .tup xs => some xs
  | .frz xs => some xs
  | .str x => some (chrs x)
  | .dct ks _ => ks.mapM keyD
  | _ => none
inductive Src where
  | val (d : D) | rng (lo : Int) (n : Nat) | key (n : Nat)
def rngD : List D → Option Src
  | [.int hi] => if small62 hi then some (.rng 0 hi.toNat) else none
  | [.int lo, .int hi] => if small62 lo ∧ small62 hi then some (.rng lo (hi - lo).toNat) else none
  | _ => none
def tokI : Option D → Nat → Option (Option D)
  | some (.lst xs), i => some xs[i]?
  | _, _ => none
/-- a dict that stands still -/
def keyI : Option D → Nat → Option (Option D)
  | some (.wlk ks _), i => (ks.mapM keyD).map fun xs => xs[i]?
  | _, _ => none
/-- turn i: an item, or the end -/
def srcN (ν : Sto) (src : Src) (i : Nat) : Option (Option D) := match src with
  | .val (.tok n) => tokI ν[n]? i
  | .val d => (itemsD d).map fun xs => xs[i]?
  | .rng lo n => some (if i < n then some (.int (lo + (i : Nat))) else none)
  | .key n => keyI ν[n]? i
/-- it can be walked -/
def srcK (ν : Sto) : D → Src
  | .tok n => (match ν[n]? with
    | some (.wlk _ _) => .key n
    | _ => .val (.tok n))
  | d => .val d
def srcOf (ν : Sto) (d : D) : Option Src := (srcN ν (srcK ν d) 0).map fun _ => srcK ν d
/-- a comprehension's turns: acc is what has come -/
def loopC (src : Src) (f : D → M (Option D)) : Nat → Nat → List D → M (List D)
  | 0, _, _ => M.fail
  | w + 1, i, acc => (M.look fun ν => srcN ν src i).bind fun o => match o with
    | none => M.pure acc
    | some v => (calm (f v)).bind fun r => match r with
      | none => loopC src f w (i + 1) acc
      | some x => fun ν => if acc.length < sizeLine then loopC src f w (i + 1) (acc ++ [x]) ν else none
/-- behind what ran while the dict at token n was walked -/
def unlK (n : Nat) : Option (Res D × Sto) → Option (Res D × Sto)
  | some (.ok d, ν') => (match ν'[n]? with
    | some (.wlk ks vs) => some (.ok d, ν'.set n (.dct ks vs))
    | _ => none)
  | _ => none
/-- m, while the dict that o is stands still -/
def lckM (o : Option D) (m : M D) : M D := fun ν => match o with
  | some (.tok n) => (match ν[n]? with
    | some (.dct ks vs) => unlK n (m (ν.set n (.wlk ks vs)))
    | _ => m ν)
  | _ => m ν
def newObj (C : Nat) : D := .obj C [] []

/-- behind __init__, the instance at token n -/
def mkK (n : Nat) : Option (Res D × Sto) → Option (Res D × Sto)
  | some (.ok .non, ν') => match ν'[n]? with
    | some (.obj C' ns vs) => if D.lows 0 vs then some (.ok (.obj C' ns vs), ν'.take n) else none
    | _ => none
  | some (.ex x, ν') => if D.lows n x.vs then some (.ex x, ν'.take n) else none
  | _ => none
/-- C(..): the instance under way is a token; behind __init__ it is a tree -/
def makeD (T : Tab) (F1 : Nat → List D → M D) (C : Nat) (as : List D) : M D := fun ν => match T.init C with
  | none => none
  | some f => mkK ν.length (F1 f (.tok ν.length :: as) (ν ++ [newObj C]))

/-- a list laid, if it is not too long -/
def layL (nw : Bool) (ds : List D) : M D := if ds.length ≤ sizeLine then mkNew nw (.lst ds) else M.fail
def oInt : D → Option Int
  | .int i => some i
  | _ => none
/-- a written text's next part -/
def txtD (acc : Str) : D → Option Str
  | .str y => if y.length ≤ sizeLine ∧ (acc ++ y).length ≤ sizeLine then some (acc ++ y) else none
  | .int i => if i.natAbs.log2 < 1920 ∧ (acc ++ Str.ofString (toString i)).length ≤ sizeLine then some (acc ++ Str.ofString (toString i)) else none
  | _ => none

section
variable (T : Tab) (F F1 : Nat → List D → M D) (n0 W : Nat)
mutual
def evE (env : Env) : E → M D
  | .var i => M.lift (env[i]?.bind id)
  | .lit d => M.pure d
  | .glb k => M.lift (T.glb k)
  | .bin op a b => (evE env a).bind fun x => (evE env b).bind fun y => M.look fun ν => binD op (un ν x) (un ν y)
  | .cmp op a b => (evE env a).bind fun x => (evE env b).bind fun y => M.look fun ν => (cmpD ν op x y).map .bl
  | .chn o1 o2 a b c => (evE env a).bind fun x => (evE env b).bind fun y => (M.look fun ν => cmpD ν o1 x y).bind fun k =>
      match k with
      | true => (evE env c).bind fun z => M.look fun ν => (cmpD ν o2 y z).map .bl
      | false => M.pure (.bl false)
  | .not a => (evE env a).bind fun x => M.look fun ν => (tru (un ν x)).map fun b => .bl (!b)
  | .neg a => (evE env a).bind fun x => M.lift (match x with | .int i => some (.int (-i)) | _ => none)
  | .and a b => (evE env a).bind fun x => (M.look fun ν => tru (un ν x)).bind fun k => match k with
      | true => evE env b
      | false => M.pure x
  | .or a b => (evE env a).bind fun x => (M.look fun ν => tru (un ν x)).bind fun k => match k with
      | true => M.pure x
      | false => evE env b
  | .ife c a b => (evE env c).bind fun x => (M.look fun ν => tru (un ν x)).bind fun k => match k with
      | true => evE env a
      | false => evE env b
  | .tup es => (evEs env es).bind fun ds => if ds.length ≤ sizeLine then M.pure (.tup ds) else M.fail
  | .lst nw es => (evEs env es).bind fun ds => layL nw ds
  | .dsp nw ks es => (evEs env es).bind fun ds => if ds.length = ks.length ∧ ks.length ≤ 15 then mkNew nw (.dct ks ds) else M.fail
  | .call f es => (evEs env es).bind fun ds => F f ds
  | .callk f j es ks => (evEs env es).bind fun ds => (evEs env ks).bind fun zs => match T.kw j with
      | some p => (match permD p (ds ++ zs) with
        | some as => F f as
        | none => M.fail)
      | none => M.fail
  | .star f a => (evE env a).bind fun x => (M.look fun ν => match un ν x with | .tup xs => some xs | .lst xs => some xs | _ => none).bind fun ds => F f ds
  | .bi nw b es => (evEs env es).bind fun ds => (M.look fun ν => biD ν b ds).bind fun d => mkNew nw d
  | .mt nw m o es => (evE env o).bind fun x => (M.look fun ν => mtTy m (un ν x)).bind fun _ => (evEs env es).bind fun ds => mtE n0 nw m x ds
  | .attr o f => (evE env o).bind fun x => M.look fun ν => attrD ν x f
  | .idx a i => (evE env a).bind fun x => (evE env i).bind fun y => M.look fun ν => idxD ν x y
  | .sli nw a lo hi => (evE env a).bind fun x => (evO env lo).bind fun l => (evO env hi).bind fun h => (M.look fun ν => sliD nw ν x l h).bind fun d => mkNew nw d
  | .rev a => (evE env a).bind fun x => M.look fun ν => revD ν x
  | .isi a cs => (evE env a).bind fun x => M.look fun ν => (isiD (un ν x) cs).map .bl
  | .comp nw el tg it cd own => (evI env it).bind fun src => (loopC src (fun d => (M.look fun ν => bindT ν tg d (env.wipe own)).bind fun env' =>
        (evC env' cd).bind fun k => match k with
          | true => (evE env' el).bind fun x => M.pure (some x)
          | false => M.pure none) W 0 []).bind fun xs => mkNew nw (.lst xs)
  | .mk C es => (evEs env es).bind fun ds => makeD T F1 C ds
  | .mkk C j es ks => (evEs env es).bind fun ds => (evEs env ks).bind fun zs => match T.kw j with
      | some p => (match permD p (ds ++ zs) with
        | some as => makeD T F1 C as
        | none => M.fail)
      | none => M.fail
  | .fst es => (evJ env es Str.empty).bind fun x => M.pure (.str x)
  | .lck i a => lckM (env[i]?.bind id) (evE env a)
def evEs (env : Env) : Es → M (List D)
  | .nil => M.pure []
  | .cons e r => (evE env e).bind fun d => (evEs env r).bind fun ds => M.pure (d :: ds)
def evO (env : Env) : Oe → M (Option Int)
  | .none => M.pure none
  | .some e => (evE env e).bind fun d => M.lift ((oInt d).map some)
/-- a comprehension's test -/
def evC (env : Env) : Oe → M Bool
  | .none => M.pure true
  | .some e => (evE env e).bind fun d => M.look fun ν => tru (un ν d)
def evI (env : Env) : It → M Src
  | .val e => (evE env e).bind fun d => M.look fun ν => srcOf ν d
  | .rng es => (evEs env es).bind fun ds => M.lift (rngD ds)
def evJ (env : Env) : Es → Str → M Str
  | .nil, acc => M.pure acc
  | .cons e r, acc => (evE env e).bind fun d => (M.lift (txtD acc d)).bind fun acc' => evJ env r acc'
end
end

/-! ### statements -/
def MF : Type := Sto → Option (Flow × Sto)
/-- behind an expression -/
def thenM {α : Type} (env : Env) (m : M α) (k : α → MF) : MF := fun ν => match m ν with
  | some (.ok a, ν') => k a ν'
  | some (.ex x, ν') => some (.ex x env, ν')
  | none => none
def MF.pure (f : Flow) : MF := fun ν => some (f, ν)
def MF.fail : MF := fun _ => none
/-- a loop's turns -/
def turns (src : Src) (tg : Tg) (body : Env → MF) : Nat → Nat → Env → MF
  | 0, _, _ => MF.fail
  | w + 1, i, env => fun ν => match srcN ν src i with
    | none => none
    | some none => some (.nx env, ν)
    | some (some d) => match bindT ν tg d env with
      | none => none
      | some env1 => match body env1 ν with
        | some (.nx env', ν') => turns src tg body w (i + 1) env' ν'
        | some (.ct env', ν') => turns src tg body w (i + 1) env' ν'
        | some (.bk env', ν') => some (.nx env', ν')
        | some (.rt d, ν') => some (.rt d, ν')
        | some (.ex x env', ν') => some (.ex x env', ν')
        | none => none
def whileM (test : Env → M Bool) (body : Env → MF) : Nat → Env → MF
  | 0, _ => MF.fail
  | n + 1, env => thenM env (test env) fun k => match k with
    | false => MF.pure (.nx env)
    | true => fun ν => match body env ν with
      | some (.nx env', ν') => whileM test body n env' ν'
      | some (.ct env', ν') => whileM test body n env' ν'
      | some (.bk env', ν') => some (.nx env', ν')
      | some (.rt d, ν') => some (.rt d, ν')
      | some (.ex x env', ν') => some (.ex x env', ν')
      | none => none
def triK (k : Exn → Env → MF) : Option (Flow × Sto) → Option (Flow × Sto)
  | some (.ex x env', ν') => k x env' ν'
  | r => r
def seqK (k : Env → MF) : Option (Flow × Sto) → Option (Flow × Sto)
  | some (.nx env', ν') => k env' ν'
  | o => o
/-- behind a store -/
def asgK : Option Env → MF
  | some env', ν => some (.nx env', ν)
  | none, _ => none
def stoK (env : Env) : Option Sto → Option (Flow × Sto)
  | some ν' => some (.nx env, ν')
  | none => none
def setX (n0 : Nat) (ν : Sto) (x y v : D) : Option Sto := match x with
  | .tok n => setD n0 ν n y v
  | _ => none
def setY (n0 : Nat) (ν : Sto) (x : Option D) (f : Nat) (v : D) : Option Sto := match x with
  | some (.tok n) => setF n0 ν n f v
  | _ => none
section
variable (T : Tab) (x : Exn)
mutual
/-- a handler's value; a list in it is new -/
def evH : He → Option D
  | .lit d => some d
  | .attr f => fldAt f x.ns x.vs
  | .isi C => (T.sub x.C C).map .bl
  | .lst es => (evHs es).map .lst
def evHs : Hes → Option (List D)
  | .nil => some []
  | .cons e r => match evH e, evHs r with
    | some d, some ds => some (d :: ds)
    | _, _ => none
end
/-- the clauses, one after another -/
def handle (env : Env) : Hs → MF
  | .nil => MF.pure (.ex x env)
  | .cons C _ e r => match T.sub x.C C with
    | some true => (match evH T x e with
      | some d => MF.pure (.rt d)
      | none => MF.fail)
    | some false => handle env r
    | none => MF.fail
end
section
variable (T : Tab) (F F1 : Nat → List D → M D) (n0 W : Nat)
mutual
def evS (env : Env) : S → MF
  | .asg t e => thenM env (evE T F F1 n0 W env e) fun d => fun ν => asgK (bindT ν t d env) ν
  | .par is es => thenM env (evEs T F F1 n0 W env es) fun ds => fun ν => asgK (setAll env is ds) ν
  | .expr e => thenM env (evE T F F1 n0 W env e) fun _ => MF.pure (.nx env)
  | .ret e => thenM env (evE T F F1 n0 W env e) fun d => MF.pure (.rt d)
  | .retN => MF.pure (.rt .non)
  | .ifs c a b => thenM env ((evE T F F1 n0 W env c).bind fun x => M.look fun ν => tru (un ν x)) fun k => match k with
      | true => evSs env a
      | false => evSs env b
  | .loop t it b => thenM env (evI T F F1 n0 W env it) fun src => turns src t (fun env' => evSs env' b) W 0 env
  | .whl c b => whileM (fun env' => (evE T F F1 n0 W env' c).bind fun x => M.look fun ν => tru (un ν x)) (fun env' => evSs env' b) W env
  | .raise C es => thenM env (evEs T F F1 n0 W env es) fun ds => match T.err C ds with
      | some x => MF.pure (.ex x env)
      | none => MF.fail
  | .tri b hs => fun ν => triK (fun x env' => handle T x env' hs) (evSs env b ν)
  | .setI o i e => thenM env (evE T F F1 n0 W env e) fun v => thenM env (evE T F F1 n0 W env o) fun x => thenM env (evE T F F1 n0 W env i) fun y => fun ν => stoK env (setX n0 ν x y v)
  | .setF i f e => thenM env (evE T F F1 n0 W env e) fun v => fun ν => stoK env (setY n0 ν (env[i]?.bind id) f v)
  | .pass => MF.pure (.nx env)
  | .brk => MF.pure (.bk env)
  | .cont => MF.pure (.ct env)
def evSs (env : Env) : Ss → MF
  | .nil => MF.pure (.nx env)
  | .cons s r => fun ν => seqK (fun env' => evSs env' r) (evS env s ν)
end
end

/-! ### defs -/
/-- kp: its own new list or dict that it returns stays one that may be changed -/
structure Fn where
  np : Nat
  ns : Nat
  kp : Bool
  body : Ss
/-- a value that leaves: the def's own tokens (n0 and on) become trees -/
def outD (n0 : Nat) (ν : Sto) : D → Option D
  | .tok n => if n < n0 then some (.tok n) else match ν[n]? with
    | some (.wlk _ _) => none
    | some d => if d.low n0 then some d else none
    | none => none
  | d => if d.low n0 then some d else none
def outDs (n0 : Nat) (ν : Sto) (ds : List D) : Option (List D) := ds.mapM (outD n0 ν)
def leaveT (n0 : Nat) (d : D) (ν : Sto) : Option (Res D × Sto) := match outD n0 ν d with
  | some d' => some (.ok d', ν.take n0)
  | none => none
def leaveK (n0 : Nat) (n : Nat) (ν : Sto) : Option (Res D × Sto) := match ν[n]? with
  | some (.wlk _ _) => none
  | some d => if d.low n0 then some (.ok (.tok n0), ν.take n0 ++ [d]) else none
  | none => none
def leave (n0 : Nat) (kp : Bool) (d : D) (ν : Sto) : Option (Res D × Sto) := if ν.length ≤ n0 then some (.ok d, ν) else match kp, d with
  | true, .tok n => if n < n0 then leaveT n0 (.tok n) ν else leaveK n0 n ν
  | _, d => leaveT n0 d ν
def leaveX (n0 : Nat) (x : Exn) (ν : Sto) : Option (Res D × Sto) := if ν.length ≤ n0 then some (.ex x, ν) else match outDs n0 ν x.vs with
  | some vs => some (.ex ⟨x.C, x.ns, vs⟩, ν.take n0)
  | none => none
def fin (n0 : Nat) (kp : Bool) : Option (Flow × Sto) → Option (Res D × Sto)
  | some (.rt d, ν) => leave n0 kp d ν
  | some (.nx _, ν) => leave n0 kp .non ν
  | some (.ex x _, ν) => leaveX n0 x ν
  | _ => none
def startE (fn : Fn) (as : List D) : Env := as.map some ++ List.replicate (fn.ns - fn.np) none
/-- level k, level k - 1 -/
def callP (T : Tab) (tb : Nat → Option Fn) (W : Nat) : Nat → (Nat → List D → M D) × (Nat → List D → M D)
  | 0 => (fun _ _ => M.fail, fun _ _ => M.fail)
  | k + 1 => (fun f as => match tb f with
    | some fn => if as.length = fn.np then fun ν => fin ν.length fn.kp (evSs T (callP T tb W k).1 (callP T tb W k).2 ν.length W (startE fn as) fn.body ν) else M.fail
    | none => M.fail, (callP T tb W k).1)
def callD (T : Tab) (tb : Nat → Option Fn) (W k : Nat) : Nat → List D → M D := (callP T tb W k).1
end EF

set_option maxHeartbeats 2000000
/-! EB: how values of the heap bear trees; situations; what a run leaves. -/
namespace EF
open PySem PySem.Spec PyProof.Rows L2

/-- names and addresses: fields, own classes -/
structure Gx where
  K : PySem.W.Frag
  fld : Nat → Str
  cad : Nat → Addr
  nC : Nat

/-- it stands, or it is a dict that is held fast -/
def Fz (o : HO) (r : Option HO) : Prop := r = some o ∨ ∃ kvs ob, o = .dK kvs ∧ r = some (.frz ob o)
abbrev SubH (S S' : Hp) : Prop := ∀ a o, S a = some o → Fz o (S' a)
abbrev SubS (S S' : Hp) : Prop := ∀ a o, S a = some o → S' a = some o
theorem SubS.h {S S' : Hp} (h : SubS S S') : SubH S S' := fun a o e => .inl (h a o e)
theorem Fz.lst {xs : List V} {r : Option HO} (h : Fz (.lst xs) r) : r = some (.lst xs) := by
  rcases h with h | ⟨_, _, h, _⟩
  · exact h
  · cases h
theorem Fz.tup {xs : List V} {r : Option HO} (h : Fz (.tup xs) r) : r = some (.tup xs) := by
  rcases h with h | ⟨_, _, h, _⟩
  · exact h
  · cases h
theorem Fz.frz {ob : Obj} {u : HO} {r : Option HO} (h : Fz (.frz ob u) r) : r = some (.frz ob u) := by
  rcases h with h | ⟨_, _, h, _⟩
  · exact h
  · cases h
theorem Fz.ins {C dx : Addr} {fs : List (Str × V)} {r : Option HO} (h : Fz (.ins C dx fs) r) : r = some (.ins C dx fs) := by
  rcases h with h | ⟨_, _, h, _⟩
  · exact h
  · cases h
theorem Fz.xd {fs : List (Str × V)} {r : Option HO} (h : Fz (.xd fs) r) : r = some (.xd fs) := by
  rcases h with h | ⟨_, _, h, _⟩
  · exact h
  · cases h
theorem Fz.rd {S S' : Hp} (s : SubH S S') {a : Addr} {kvs : List (Key × V)} (h : Rd S a (.dK kvs)) : Rd S' a (.dK kvs) := by
  rcases h with h | ⟨o, h⟩
  · rcases s _ _ h with z | ⟨_, ob, _, z⟩
    · exact .inl z
    · exact .inr ⟨ob, z⟩
  · exact .inr ⟨o, (s _ _ h).frz⟩
theorem Fz.trans {o : HO} {S S' : Hp} {a : Addr} (s : SubH S S') (h : Fz o (S a)) : Fz o (S' a) := by
  rcases h with h | ⟨kvs, ob, e, h⟩
  · exact s _ _ h
  · exact .inr ⟨kvs, ob, e, (s _ _ h).frz⟩
theorem Fz.ne {o : HO} {r : Option HO} (h : Fz o r) : r ≠ none := by
  rcases h with h | ⟨_, _, _, h⟩ <;> rw [h] <;> simp
section
variable (G : Gx) (ρ : List Addr) (S : Hp)
mutual
inductive Rep : D → V → Prop where
  | non : Rep .non .non
  | bl (b : Bool) : Rep (.bl b) (.bl b)
  | int (i : Int) : Rep (.int i) (.int i)
  | str (x : Str) : Rep (.str x) (.str x)
  | tup {xs : List D} {a : Addr} {vs : List V} (h : SqT G.K S a vs) (r : Reps xs vs) : Rep (.tup xs) (.ref a)
  | lst {xs : List D} {a : Addr} {vs : List V} (h : S a = some (.lst vs)) (r : Reps xs vs) : Rep (.lst xs) (.ref a)
  | frz {xs : List D} {a : Addr} {vs : List V} (h : SqL G.K S a vs) (r : Reps xs vs) : Rep (.frz xs) (.ref a)
  | dctK {ks : List DK} {ds : List D} {a : Addr} {kvs : List (Key × V)} (h : Rd S a (.dK kvs)) (hk : ks = kvs.map fun kv => DK.one kv.1) (r : Reps ds (kvs.map (·.2))) : Rep (.dct ks ds) (.ref a)
  | obj {C : Nat} {ns : List Nat} {ds : List D} {a dx : Addr} {fs : List (Str × V)} (h : S a = some (.ins (G.cad C) dx fs)) (hC : C < G.nC) (hn : fs.map (·.1) = ns.map G.fld) (r : Reps ds (fs.map (·.2))) : Rep (.obj C ns ds) (.ref a)
  | tok {n : Nat} {a : Addr} (h : ρ[n]? = some a) : Rep (.tok n) (.ref a)
inductive Reps : List D → List V → Prop where
  | nil : Reps [] []
  | cons {d : D} {ds : List D} {v : V} {vs : List V} (h : Rep d v) (r : Reps ds vs) : Reps (d :: ds) (v :: vs)
end
/-- what stands at an address, as a tree's first node -/
inductive Node : D → HO → Prop where
  | lst {xs : List D} {vs : List V} (r : Reps G ρ S xs vs) : Node (.lst xs) (.lst vs)
  | dctK {ks : List DK} {ds : List D} {kvs : List (Key × V)} (hk : ks = kvs.map fun kv => DK.one kv.1) (r : Reps G ρ S ds (kvs.map (·.2))) : Node (.dct ks ds) (.dK kvs)
  | obj {C : Nat} {ns : List Nat} {ds : List D} {dx : Addr} {fs : List (Str × V)} (hC : C < G.nC) (hn : fs.map (·.1) = ns.map G.fld) (r : Reps G ρ S ds (fs.map (·.2))) : Node (.obj C ns ds) (.ins (G.cad C) dx fs)
end

section
variable {G : Gx} {ρ ρ' : List Addr} {S S' : Hp}
theorem sqT_mono {K : PySem.W.Frag} {a : Addr} {vs : List V} (s : SubH S S') (h : SqT K S a vs) : SqT K S' a vs := by
  rcases h with (h | ⟨o, h⟩) | h
  · exact .inl (.inl (s _ _ h).tup)
  · exact .inl (.inr ⟨o, (s _ _ h).frz⟩)
  · exact .inr h
theorem sqL_mono {K : PySem.W.Frag} {a : Addr} {vs : List V} (s : SubH S S') (h : SqL K S a vs) : SqL K S' a vs := by
  rcases h with (h | ⟨o, h⟩) | h
  · exact .inl (.inl (s _ _ h).lst)
  · exact .inl (.inr ⟨o, (s _ _ h).frz⟩)
  · exact .inr h
mutual
theorem Rep.mono (s : SubH S S') (r : ∀ (n : Nat) (a : Addr), ρ[n]? = some a → ρ'[n]? = some a) : ∀ (d : D) (v : V), Rep G ρ S d v → Rep G ρ' S' d v
  | .non, _, h => by cases h; exact .non
  | .bl _, _, h => by cases h; exact .bl _
  | .int _, _, h => by cases h; exact .int _
  | .str _, _, h => by cases h; exact .str _
  | .tup xs, _, h => by cases h with | tup h q => exact .tup (sqT_mono s h) (Reps.mono s r xs _ q)
  | .lst xs, _, h => by cases h with | lst h q => exact .lst (s _ _ h).lst (Reps.mono s r xs _ q)
  | .frz xs, _, h => by cases h with | frz h q => exact .frz (sqL_mono s h) (Reps.mono s r xs _ q)
  | .dct ks ds, _, h => by
    cases h with
    | dctK h hk q => exact .dctK (Fz.rd s h) hk (Reps.mono s r ds _ q)
  | .wlk _ _, _, h => by cases h
  | .obj C ns ds, _, h => by cases h with | obj h hC hn q => exact .obj (s _ _ h).ins hC hn (Reps.mono s r ds _ q)
  | .tok n, _, h => by cases h with | tok h => exact .tok (r _ _ h)
theorem Reps.mono (s : SubH S S') (r : ∀ (n : Nat) (a : Addr), ρ[n]? = some a → ρ'[n]? = some a) : ∀ (ds : List D) (vs : List V), Reps G ρ S ds vs → Reps G ρ' S' ds vs
  | [], _, h => by cases h; exact .nil
  | d :: ds, _, h => by cases h with | cons h q => exact .cons (Rep.mono s r d _ h) (Reps.mono s r ds _ q)
end
mutual
/-- fewer tokens are enough -/
theorem Rep.cut {n : Nat} (r : ∀ (m : Nat) (a : Addr), m < n → ρ[m]? = some a → ρ'[m]? = some a) : ∀ (d : D) (v : V), d.low n = true → Rep G ρ S d v → Rep G ρ' S d v
  | .non, _, _, h => by cases h; exact .non
  | .bl _, _, _, h => by cases h; exact .bl _
  | .int _, _, _, h => by cases h; exact .int _
  | .str _, _, _, h => by cases h; exact .str _
  | .tup xs, _, l, h => by cases h with | tup h q => exact .tup h (Reps.cut r xs _ (by simpa [D.low] using l) q)
  | .lst xs, _, l, h => by cases h with | lst h q => exact .lst h (Reps.cut r xs _ (by simpa [D.low] using l) q)
  | .frz xs, _, l, h => by cases h with | frz h q => exact .frz h (Reps.cut r xs _ (by simpa [D.low] using l) q)
  | .dct ks ds, _, l, h => by
    cases h with
    | dctK h hk q => exact .dctK h hk (Reps.cut r ds _ (by simpa [D.low] using l) q)
  | .wlk _ _, _, _, h => by cases h
  | .obj C ns ds, _, l, h => by cases h with | obj h hC hn q => exact .obj h hC hn (Reps.cut r ds _ (by simpa [D.low] using l) q)
  | .tok m, _, l, h => by cases h with | tok h => exact .tok (r _ _ (by simpa [D.low] using l) h)
theorem Reps.cut {n : Nat} (r : ∀ (m : Nat) (a : Addr), m < n → ρ[m]? = some a → ρ'[m]? = some a) : ∀ (ds : List D) (vs : List V), D.lows n ds = true → Reps G ρ S ds vs → Reps G ρ' S ds vs
  | [], _, _, h => by cases h; exact .nil
  | d :: ds, _, l, h => by
    have l' : d.low n = true ∧ D.lows n ds = true := by simpa [D.lows] using l
    cases h with | cons h q => exact .cons (Rep.cut r d _ l'.1 h) (Reps.cut r ds _ l'.2 q)
end
mutual
/-- the tokens of what is borne are there -/
theorem Rep.lowR : ∀ (d : D) (v : V), Rep G ρ S d v → d.low ρ.length = true
  | .non, _, _ => rfl
  | .bl _, _, _ => rfl
  | .int _, _, _ => rfl
  | .str _, _, _ => rfl
  | .tup xs, _, h => by cases h with | tup h q => simpa [D.low] using Reps.lowR xs _ q
  | .lst xs, _, h => by cases h with | lst h q => simpa [D.low] using Reps.lowR xs _ q
  | .frz xs, _, h => by cases h with | frz h q => simpa [D.low] using Reps.lowR xs _ q
  | .dct ks ds, _, h => by
    cases h with
    | dctK h hk q => simpa [D.low] using Reps.lowR ds _ q
  | .wlk _ _, _, h => by cases h
  | .obj C ns ds, _, h => by cases h with | obj h hC hn q => simpa [D.low] using Reps.lowR ds _ q
  | .tok m, _, h => by
    cases h with
    | tok h =>
      have := (List.getElem?_eq_some_iff.mp h).1
      simpa [D.low] using this
theorem Reps.lowR : ∀ (ds : List D) (vs : List V), Reps G ρ S ds vs → D.lows ρ.length ds = true
  | [], _, _ => rfl
  | d :: ds, _, h => by cases h with | cons h q => simp [D.lows, Rep.lowR d _ h, Reps.lowR ds _ q]
end
theorem Reps.length : ∀ {ds : List D} {vs : List V}, Reps G ρ S ds vs → ds.length = vs.length
  | _, _, .nil => rfl
  | _, _, .cons _ r => by simp [Reps.length r]
theorem Reps.get : ∀ {ds : List D} {vs : List V} {i : Nat} {d : D}, Reps G ρ S ds vs → ds[i]? = some d → ∃ v, vs[i]? = some v ∧ Rep G ρ S d v
  | _, _, _, _, .nil, e => by simp at e
  | _, _, 0, _, .cons h _, e => by simp at e; subst e; exact ⟨_, rfl, h⟩
  | _, _, i + 1, _, .cons _ r, e => by
    obtain ⟨v, h1, h2⟩ := Reps.get (i := i) r (by simpa using e)
    exact ⟨v, by simpa using h1, h2⟩
theorem Reps.append : ∀ {ds es : List D} {vs ws : List V}, Reps G ρ S ds vs → Reps G ρ S es ws → Reps G ρ S (ds ++ es) (vs ++ ws)
  | _, _, _, _, .nil, r => r
  | _, _, _, _, .cons h q, r => .cons h (Reps.append q r)
theorem Reps.take : ∀ {ds : List D} {vs : List V} (n : Nat), Reps G ρ S ds vs → Reps G ρ S (ds.take n) (vs.take n)
  | _, _, 0, _ => .nil
  | _, _, _ + 1, .nil => .nil
  | _, _, n + 1, .cons h r => .cons h (Reps.take n r)
theorem Reps.drop : ∀ {ds : List D} {vs : List V} (n : Nat), Reps G ρ S ds vs → Reps G ρ S (ds.drop n) (vs.drop n)
  | _, _, 0, r => r
  | _, _, _ + 1, .nil => .nil
  | _, _, n + 1, .cons _ r => Reps.drop n r
theorem Reps.set {d : D} {v : V} (h : Rep G ρ S d v) : ∀ {ds : List D} {vs : List V} (i : Nat), Reps G ρ S ds vs → Reps G ρ S (ds.set i d) (vs.set i v)
  | _, _, _, .nil => .nil
  | _, _, 0, .cons _ r => .cons h r
  | _, _, i + 1, .cons q r => .cons q (Reps.set h i r)
theorem Reps.reverse : ∀ {ds : List D} {vs : List V}, Reps G ρ S ds vs → Reps G ρ S ds.reverse vs.reverse
  | _, _, .nil => .nil
  | _, _, .cons h r => by
    rw [List.reverse_cons, List.reverse_cons]
    exact (Reps.reverse r).append (.cons h .nil)
theorem Node.mono (s : SubH S S') (r : ∀ (n : Nat) (a : Addr), ρ[n]? = some a → ρ'[n]? = some a) {d : D} {o : HO} (h : Node G ρ S d o) : Node G ρ' S' d o := by
  cases h with
  | lst q => exact .lst (Reps.mono s r _ _ q)
  | dctK hk q => exact .dctK hk (Reps.mono s r _ _ q)
  | obj hC hn q => exact .obj hC hn (Reps.mono s r _ _ q)
theorem Node.cut {n : Nat} (r : ∀ (m : Nat) (a : Addr), m < n → ρ[m]? = some a → ρ'[m]? = some a) {d : D} {o : HO} (l : d.low n = true) (h : Node G ρ S d o) : Node G ρ' S d o := by
  cases h with
  | lst q => exact .lst (Reps.cut r _ _ (by simpa [D.low] using l) q)
  | dctK hk q => exact .dctK hk (Reps.cut r _ _ (by simpa [D.low] using l) q)
  | obj hC hn q => exact .obj hC hn (Reps.cut r _ _ (by simpa [D.low] using l) q)
theorem Node.lowR {d : D} {o : HO} (h : Node G ρ S d o) : d.low ρ.length = true := by
  cases h with
  | lst q => simpa [D.low] using Reps.lowR _ _ q
  | dctK hk q => simpa [D.low] using Reps.lowR _ _ q
  | obj hC hn q => simpa [D.low] using Reps.lowR _ _ q
/-- a node that stands in the still part is borne -/
theorem Node.rep {d : D} {o : HO} {a : Addr} (h : Node G ρ S d o) (e : S a = some o) : Rep G ρ S d (.ref a) := by
  cases h with
  | lst q => exact .lst e q
  | dctK hk q => exact .dctK (.inl e) hk q
  | obj hC hn q => exact .obj e hC hn q
end

/-- .. or a dict that is walked -/
inductive NodeW (G : Gx) (ρ : List Addr) (S : Hp) : D → HO → Prop where
  | nd {d : D} {o : HO} (h : Node G ρ S d o) : NodeW G ρ S d o
  | wlk {ks : List DK} {ds : List D} {kvs : List (Key × V)} {ob : Obj} (hk : ks = kvs.map fun kv => DK.one kv.1) (r : Reps G ρ S ds (kvs.map (·.2))) : NodeW G ρ S (.wlk ks ds) (.frz ob (.dK kvs))
section
variable {G : Gx} {ρ ρ' : List Addr} {S S' : Hp}
theorem NodeW.mono (s : SubH S S') (r : ∀ (n : Nat) (a : Addr), ρ[n]? = some a → ρ'[n]? = some a) {d : D} {o : HO} (h : NodeW G ρ S d o) : NodeW G ρ' S' d o := by
  cases h with
  | nd h => exact .nd (h.mono s r)
  | wlk hk q => exact .wlk hk (Reps.mono s r _ _ q)
theorem NodeW.cut {n : Nat} (r : ∀ (m : Nat) (a : Addr), m < n → ρ[m]? = some a → ρ'[m]? = some a) {d : D} {o : HO} (l : d.low n = true) (h : NodeW G ρ S d o) : NodeW G ρ' S d o := by
  cases h with
  | nd h => exact .nd (h.cut r l)
  | wlk hk q => exact .wlk hk (Reps.cut r _ _ (by simpa [D.low] using l) q)
theorem NodeW.lowR {d : D} {o : HO} (h : NodeW G ρ S d o) : d.low ρ.length = true := by
  cases h with
  | nd h => exact h.lowR
  | wlk hk q => simpa [D.low] using Reps.lowR _ _ q
/-- it is not walked -/
def noWk : D → Bool
  | .wlk _ _ => false
  | _ => true
theorem NodeW.plain {d : D} {o : HO} (h : NodeW G ρ S d o) (n : noWk d = true) : Node G ρ S d o := by
  cases h with
  | nd h => exact h
  | wlk _ _ => cases n
theorem NodeW.nofrz {d : D} {o : HO} (h : NodeW G ρ S d o) (n : noWk d = true) : ∀ ob u, o ≠ .frz ob u := fun ob u e => by
  cases h with
  | nd h => subst e; cases h
  | wlk _ _ => cases n
end

/-! ### situations -/
structure Sit where
  S : Hp
  H : Hp
  ρ : List Addr
  ν : Sto

structure OkS (G : Gx) (n0 : Nat) (x : Sit) : Prop where
  sub : SubS x.S x.H
  len : x.ρ.length = x.ν.length
  base : n0 ≤ x.ν.length
  nd : x.ρ.Nodup
  cont : ∀ (n : Nat) (a : Addr) (d : D), x.ρ[n]? = some a → x.ν[n]? = some d → x.S a = none ∧ ∃ o, x.H a = some o ∧ NodeW G x.ρ x.S d o

structure Ext (n0 : Nat) (x y : Sit) : Prop where
  s : SubH x.S y.S
  r : ∃ r, y.ρ = x.ρ ++ r
  f : ∀ b o, x.H b = some o → b ∉ x.ρ → Fz o (y.H b)
  g : ∀ b, x.H b ≠ none → y.H b ≠ none
  n1 : ∀ a o, y.S a = some o → x.S a ≠ none ∨ x.H a = none
  n2 : ∀ a ∈ y.ρ, a ∈ x.ρ ∨ x.H a = none
  t : ∀ m : Nat, m < n0 → ∀ d', y.ν[m]? = some d' → ∃ d, x.ν[m]? = some d ∧ ∀ k, d.low k = true → d'.low k = true
  w : ∀ b ob u, x.H b = some (.frz ob u) → y.H b = some (.frz ob u)

section
variable {G : Gx} {n0 n1 : Nat} {x y z : Sit}
theorem Ext.refl (x : Sit) : Ext n0 x x := ⟨fun _ _ h => .inl h, ⟨[], by simp⟩, fun _ _ h _ => .inl h, fun _ h => h, fun _ _ h => .inl (by rw [h]; simp), fun _ h => .inl h, fun _ _ d h => ⟨d, h, fun _ q => q⟩, fun _ _ _ h => h⟩
theorem Ext.rn (e : Ext n0 x y) : ∀ (n : Nat) (a : Addr), x.ρ[n]? = some a → y.ρ[n]? = some a := fun n a h => by
  obtain ⟨r, e⟩ := e.r
  rw [e, List.getElem?_append_left (List.getElem?_eq_some_iff.mp h).1]
  exact h
theorem Ext.trans (a : Ext n0 x y) (b : Ext n0 y z) : Ext n0 x z where
  s := fun c o h => (a.s c o h).trans b.s
  r := by
    obtain ⟨r1, e1⟩ := a.r
    obtain ⟨r2, e2⟩ := b.r
    exact ⟨r1 ++ r2, by rw [e2, e1, List.append_assoc]⟩
  f := fun c o h n => by
    have nm : c ∉ y.ρ := fun m => (a.n2 c m).elim n fun q => by rw [q] at h; cases h
    rcases a.f c o h n with z | ⟨kvs, ob, e, z⟩
    · exact b.f c o z nm
    · exact .inr ⟨kvs, ob, e, (b.f c _ z nm).frz⟩
  g := fun c h => b.g c (a.g c h)
  n1 := fun c o h => (b.n1 c o h).elim (fun q => by
    cases e : y.S c with
    | none => exact absurd e q
    | some u => exact a.n1 c u e) fun q => .inr (by
    cases e : x.H c with
    | none => rfl
    | some u => exact absurd q (a.g c (by rw [e]; simp)))
  n2 := fun c h => (b.n2 c h).elim (fun q => a.n2 c q) fun q => .inr (by
    cases e : x.H c with
    | none => rfl
    | some u => exact absurd q (a.g c (by rw [e]; simp)))
  t := fun m hm d h => by
    obtain ⟨d1, h1, l1⟩ := b.t m hm d h
    obtain ⟨d2, h2, l2⟩ := a.t m hm d1 h1
    exact ⟨d2, h2, fun k q => l1 k (l2 k q)⟩
  w := fun c ob u h => b.w c ob u (a.w c ob u h)
theorem Ext.less (a : Ext n1 x y) (h : n0 ≤ n1) : Ext n0 x y := ⟨a.s, a.r, a.f, a.g, a.n1, a.n2, fun m hm => a.t m (Nat.lt_of_lt_of_le hm h), a.w⟩
theorem Ext.rep (e : Ext n0 x y) {d : D} {v : V} (h : Rep G x.ρ x.S d v) : Rep G y.ρ y.S d v := Rep.mono e.s e.rn d v h
theorem Ext.reps (e : Ext n0 x y) {d : List D} {v : List V} (h : Reps G x.ρ x.S d v) : Reps G y.ρ y.S d v := Reps.mono e.s e.rn d v h
theorem OkS.less (a : OkS G n1 x) (h : n0 ≤ n1) : OkS G n0 x := ⟨a.sub, a.len, Nat.le_trans h a.base, a.nd, a.cont⟩
/-- what a token stands for -/
theorem OkS.tok (a : OkS G n0 x) {n : Nat} {c : Addr} (h : x.ρ[n]? = some c) : ∃ d o, x.ν[n]? = some d ∧ x.H c = some o ∧ NodeW G x.ρ x.S d o := by
  have hn : n < x.ν.length := by rw [← a.len]; exact (List.getElem?_eq_some_iff.mp h).1
  obtain ⟨q1, o, q2, q3⟩ := a.cont n c _ h (List.getElem?_eq_getElem hn)
  exact ⟨_, o, List.getElem?_eq_getElem hn, q2, q3⟩

/-- the slots -/
structure EnvOk (G : Gx) (x : Sit) (σ : L2.St) (env : Env) : Prop where
  len : env.length = σ.length
  at_ : ∀ (i : Nat) (d : D), env[i]? = some (some d) → ∃ v, σ[i]? = some (some v) ∧ Rep G x.ρ x.S d v
theorem EnvOk.mono {σ : L2.St} {env : Env} (h : EnvOk G x σ env) (e : Ext n0 x y) : EnvOk G y σ env := ⟨h.len, fun i d q => by
  obtain ⟨v, a, b⟩ := h.at_ i d q
  exact ⟨v, a, e.rep b⟩⟩
theorem EnvOk.set {σ : L2.St} {env : Env} {d : D} {v : V} (h : EnvOk G x σ env) (i : Nat) (r : Rep G x.ρ x.S d v) : EnvOk G x (σ.set i (some v)) (env.set i (some d)) := by
  refine ⟨by simp [h.len], fun j d' q => ?_⟩
  by_cases hj : i = j
  · subst hj
    have hi : i < env.length := by
      have := (List.getElem?_eq_some_iff.mp q).1
      simpa using this
    rw [List.getElem?_set_self hi] at q
    cases q
    exact ⟨v, by rw [List.getElem?_set_self (by rw [← h.len]; exact hi)], r⟩
  · rw [List.getElem?_set_ne hj] at q ⊢
    exact h.at_ j d' q
theorem EnvOk.unset {σ : L2.St} {env : Env} (h : EnvOk G x σ env) (i : Nat) : EnvOk G x (σ.set i none) (env.set i none) := by
  refine ⟨by simp [h.len], fun j d' q => ?_⟩
  by_cases hj : i = j
  · subst hj
    have hi : i < env.length := by
      have := (List.getElem?_eq_some_iff.mp q).1
      simpa using this
    rw [List.getElem?_set_self hi] at q
    cases q
  · rw [List.getElem?_set_ne hj] at q ⊢
    exact h.at_ j d' q
theorem EnvOk.wipe {σ : L2.St} {env : Env} (h : EnvOk G x σ env) : ∀ own : List Nat, EnvOk G x (L2.wipe σ own) (Env.wipe env own)
  | [] => h
  | v :: vs => (EnvOk.wipe h vs).unset v
end
end EF

set_option maxHeartbeats 2000000
/-! EC: readings by the evaluator; objects laid; operators. -/
namespace EF
open PySem PySem.Spec PyProof.Rows L2

section
variable (G : Gx)
/-- an error: its class, its own dict -/
def ERep (y : Sit) (e : Exn) (c : Value) (dx : Option Addr) : Prop :=
  ∃ (dd : Addr) (fs : List (Str × V)), c = .ref (G.cad e.C) ∧ dx = some dd ∧ y.S dd = some (.xd fs) ∧ fs.map (·.1) = e.ns.map G.fld ∧ Reps G y.ρ y.S e.vs (fs.map (·.2))
variable (n0 : Nat)
/-- behind m, from x on: what comes is Q's, an error is W's -/
def After {α β : Type} (R : Sit → α → β → Prop) (W : WX) (σ : L2.St) (x : Sit) (m : M α) (Q : β → Hp → Prop) : Prop := match m x.ν with
  | some (.ok a, ν') => ∀ (b : β) (y : Sit), y.ν = ν' → Ext n0 x y → OkS G n0 y → R y a b → Q b y.H
  | some (.ex e, ν') => ∀ (c : Value) (dx : Option Addr) (y : Sit), y.ν = ν' → Ext n0 x y → OkS G n0 y → ERep G y e c dx → W c dx σ y.H
  | none => False
abbrev RepR (y : Sit) (d : D) (v : V) : Prop := Rep G y.ρ y.S d v
abbrev RepsR (y : Sit) (d : List D) (v : List V) : Prop := Reps G y.ρ y.S d v
abbrev EqR' {α : Type} (_ : Sit) (a b : α) : Prop := a = b
end
section
variable {G : Gx} {n0 : Nat} {α β γ δ : Type} {R : Sit → α → β → Prop} {R' : Sit → γ → δ → Prop} {W : WX} {σ : L2.St} {x y : Sit}
theorem After.bind {m : M α} {f : α → M γ} {Q : δ → Hp → Prop} {Q' : β → Hp → Prop} (h : After G n0 R' W σ x (m.bind f) Q)
    (k : ∀ (a : α) (b : β) (y : Sit), Ext n0 x y → OkS G n0 y → R y a b → After G n0 R' W σ y (f a) Q → Q' b y.H) : After G n0 R W σ x m Q' := by
  unfold After at h ⊢
  unfold M.bind at h
  cases e : m x.ν with
  | none => rw [e] at h; exact h
  | some r =>
    obtain ⟨r, ν'⟩ := r
    rw [e] at h
    cases r with
    | ex q => exact h
    | ok a =>
      intro b y ey ex oy ry
      refine k a b y ex oy ry ?_
      have h' : (match f a ν' with
        | some (.ok a, ν') => ∀ (b : δ) (y : Sit), y.ν = ν' → Ext n0 x y → OkS G n0 y → R' y a b → Q b y.H
        | some (.ex e, ν') => ∀ (c : Value) (dx : Option Addr) (y : Sit), y.ν = ν' → Ext n0 x y → OkS G n0 y → ERep G y e c dx → W c dx σ y.H
        | none => False) := h
      unfold After
      rw [ey]
      cases e2 : f a ν' with
      | none => rw [e2] at h'; exact h'
      | some r2 =>
        obtain ⟨r2, ν2⟩ := r2
        rw [e2] at h'
        cases r2 with
        | ok a2 => exact fun b z ez ex2 oz rz => h' b z ez (ex.trans ex2) oz rz
        | ex q2 => exact fun c dx z ez ex2 oz rz => h' c dx z ez (ex.trans ex2) oz rz
theorem After.okOf {m : M α} {Q : β → Hp → Prop} {a : α} {ν' : Sto} (h : After G n0 R W σ x m Q) (e : m x.ν = some (.ok a, ν')) : ∀ (b : β) (y : Sit), y.ν = ν' → Ext n0 x y → OkS G n0 y → R y a b → Q b y.H := by
  unfold After at h; rw [e] at h; exact h
theorem After.exOf {m : M α} {Q : β → Hp → Prop} {a : Exn} {ν' : Sto} (h : After G n0 R W σ x m Q) (e : m x.ν = some (.ex a, ν')) : ∀ (c : Value) (dx : Option Addr) (y : Sit), y.ν = ν' → Ext n0 x y → OkS G n0 y → ERep G y a c dx → W c dx σ y.H := by
  unfold After at h; rw [e] at h; exact h
theorem After.nonOf {m : M α} {Q : β → Hp → Prop} (h : After G n0 R W σ x m Q) (e : m x.ν = none) : False := by
  unfold After at h; rw [e] at h; exact h
theorem After.mk {m : M α} {Q : β → Hp → Prop} (h0 : m x.ν ≠ none) (h1 : ∀ a ν', m x.ν = some (.ok a, ν') → ∀ (b : β) (y : Sit), y.ν = ν' → Ext n0 x y → OkS G n0 y → R y a b → Q b y.H)
    (h2 : ∀ e ν', m x.ν = some (.ex e, ν') → ∀ (c : Value) (dx : Option Addr) (y : Sit), y.ν = ν' → Ext n0 x y → OkS G n0 y → ERep G y e c dx → W c dx σ y.H) : After G n0 R W σ x m Q := by
  unfold After
  cases e : m x.ν with
  | none => exact absurd e h0
  | some r =>
    obtain ⟨r, ν'⟩ := r
    cases r with
    | ok a => exact h1 a ν' e
    | ex q => exact h2 q ν' e
theorem After.bindW {m : M α} {f : α → M γ} {Q : δ → Hp → Prop} {Q' : β → Hp → Prop} (h : After G n0 R' W σ x (m.bind f) Q)
    (k : ∀ (a : α) (b : β) (y : Sit), m x.ν = some (.ok a, y.ν) → Ext n0 x y → OkS G n0 y → R y a b → After G n0 R' W σ y (f a) Q → Q' b y.H) : After G n0 R W σ x m Q' := by
  refine .mk (fun z => h.nonOf ?_) (fun a ν' z b y ey ex oy ry => k a b y (by rw [ey]; exact z) ex oy ry ?_) (fun q ν' z c dx y ey ex oy er => h.exOf (ν' := ν') ?_ c dx y ey ex oy er)
  · unfold M.bind; rw [z]
  · have hb : m.bind f x.ν = f a y.ν := by unfold M.bind; rw [z, ey]
    exact .mk (fun w => h.nonOf (hb.trans w)) (fun a2 ν2 w b2 u hu eu ou ru => h.okOf (hb.trans w) b2 u hu (ex.trans eu) ou ru) (fun q ν2 w c dx u hu eu ou er => h.exOf (hb.trans w) c dx u hu (ex.trans eu) ou er)
  · unfold M.bind; rw [z]
/-- from y on what was from x on -/
theorem After.from {m k : M α} {Q : β → Hp → Prop} (h : After G n0 R W σ x m Q) (e : Ext n0 x y) (hm : m x.ν = k y.ν) : After G n0 R W σ y k Q :=
  .mk (fun z => h.nonOf (hm.trans z)) (fun a ν' z b w hw ew ow rw' => h.okOf (hm.trans z) b w hw (e.trans ew) ow rw') (fun q ν' z c dx w hw ew ow er => h.exOf (hm.trans z) c dx w hw (e.trans ew) ow er)
/-- what the store gives -/
theorem After.look {f : Sto → Option α} {Q : β → Hp → Prop} (h : After G n0 R W σ x (M.look f) Q) : ∃ a, f x.ν = some a ∧ ∀ (b : β) (y : Sit), y.ν = x.ν → Ext n0 x y → OkS G n0 y → R y a b → Q b y.H := by
  unfold After M.look at h
  cases e : f x.ν with
  | none => rw [e] at h; exact h.elim
  | some a => rw [e] at h; exact ⟨a, rfl, h⟩
theorem After.lift {o : Option α} {Q : β → Hp → Prop} (h : After G n0 R W σ x (M.lift o) Q) : ∃ a, o = some a ∧ ∀ (b : β) (y : Sit), y.ν = x.ν → Ext n0 x y → OkS G n0 y → R y a b → Q b y.H := After.look h
theorem After.pure {a : α} {b : β} {Q : β → Hp → Prop} (h : After G n0 R W σ x (M.pure a) Q) (o : OkS G n0 x) (r : R x a b) : Q b x.H := h b x rfl (.refl x) o r
/-- a look in the middle -/
theorem After.lookBind {f : Sto → Option α} {g : α → M γ} {Q : δ → Hp → Prop} (h : After G n0 R' W σ x ((M.look f).bind g) Q) : ∃ a, f x.ν = some a ∧ After G n0 R' W σ x (g a) Q := by
  unfold After M.bind M.look at h
  cases e : f x.ν with
  | none => rw [e] at h; exact h.elim
  | some a => rw [e] at h; exact ⟨a, rfl, h⟩
end

/-! ### readings -/
section
variable (G : Gx) (n0 : Nat) (W : WX)
def tofE (m : Env → M D) : TE := fun σ H Q => ∃ (x : Sit) (env : Env), x.H = H ∧ OkS G n0 x ∧ EnvOk G x σ env ∧ After G n0 (RepR G) W σ x (m env) Q
def tofA (m : Env → M (List D)) : TA := fun σ H Q => ∃ (x : Sit) (env : Env), x.H = H ∧ OkS G n0 x ∧ EnvOk G x σ env ∧ After G n0 (RepsR G) W σ x (m env) Q
def tofB (m : Env → M Bool) : TT := fun σ H Q => ∃ (x : Sit) (env : Env), x.H = H ∧ OkS G n0 x ∧ EnvOk G x σ env ∧ After G n0 EqR' W σ x (m env) Q
def tofO (m : Env → M (Option Int)) : TO := fun σ H Q => ∃ (x : Sit) (env : Env), x.H = H ∧ OkS G n0 x ∧ EnvOk G x σ env ∧ After G n0 EqR' W σ x (m env) Q
end
section
variable {X : Cx} {e : Expr}
theorem PE.wk {t t' : TE} (h : PE X e t) (i : ∀ σ H Q, t' σ H Q → t σ H Q) : PE X e t' := ⟨fun pins s σ H Q I hw => h.run pins s σ H Q I (i _ _ _ hw)⟩
theorem PT.wk {t t' : TT} (h : PT X e t) (i : ∀ σ H Q, t' σ H Q → t σ H Q) : PT X e t' := ⟨fun pins s σ H Q I hw => h.run pins s σ H Q I (i _ _ _ hw)⟩
theorem PW.wk {t t' : TT} (h : PW X e t) (i : ∀ σ H Q, t' σ H Q → t σ H Q) : PW X e t' := ⟨fun wh pins s σ H Q I hw => h.run wh pins s σ H Q I (i _ _ _ hw)⟩
theorem PA.wk {es : List Expr} {t t' : TA} (h : PA X es t) (i : ∀ σ H Q, t' σ H Q → t σ H Q) : PA X es t' := ⟨fun p pins s σ H Q I hw => h.run p pins s σ H Q I (i _ _ _ hw)⟩
theorem PO.wk {o : Option Expr} {t t' : TO} (h : PO X o t) (i : ∀ σ H Q, t' σ H Q → t σ H Q) : PO X o t' := ⟨fun pins s σ H Q I hw => h.run pins s σ H Q I (i _ _ _ hw)⟩
theorem PS.wk {st : Stmt} {t t' : TS} (h : PS X st t) (i : ∀ D σ H, t' D σ H → t D σ H) : PS X st t' := ⟨fun pins s σ H D I hw => h.run pins s σ H D I (i _ _ _ hw)⟩
theorem PSs.wk {st : List Stmt} {t t' : TS} (h : PSs X st t) (i : ∀ D σ H, t' D σ H → t D σ H) : PSs X st t' := ⟨fun pins s σ H D I hw => h.run pins s σ H D I (i _ _ _ hw)⟩
end

/-! ### a new object -/
section
variable {G : Gx} {n0 : Nat} {x : Sit}
theorem sub_updS {S : Hp} {p : Addr} {o : HO} (h : S p = none) : SubS S (upd S p o) := fun a u e => by
  rw [upd_ne (ne_of_none e h)]
  exact e
theorem sub_upd {S : Hp} {p : Addr} {o : HO} (h : S p = none) : SubH S (upd S p o) := (sub_updS h).h
theorem OkS.none_of (a : OkS G n0 x) {p : Addr} (h : x.H p = none) : x.S p = none := by
  cases e : x.S p with
  | none => rfl
  | some o => rw [a.sub p o e] at h; cases h
theorem OkS.notin (a : OkS G n0 x) {p : Addr} (h : x.H p = none) : p ∉ x.ρ := fun m => by
  obtain ⟨n, hn, e⟩ := List.mem_iff_getElem.mp m
  obtain ⟨d, o, _, q, _⟩ := a.tok (n := n) (c := p) (by rw [List.getElem?_eq_getElem hn, e])
  rw [h] at q; cases q
/-- any new thing that stands still -/
theorem OkS.layAny (a : OkS G n0 x) {p : Addr} {o : HO} (h : x.H p = none) : Ext n0 x ⟨upd x.S p o, upd x.H p o, x.ρ, x.ν⟩ ∧ OkS G n0 ⟨upd x.S p o, upd x.H p o, x.ρ, x.ν⟩ := by
  have hs := a.none_of h
  refine ⟨⟨sub_upd hs, ⟨[], by simp⟩, fun b u e _ => .inl (by show upd x.H p o b = _; rw [upd_ne (ne_of_none e h)]; exact e), fun b e q => ?_, fun b u e => ?_, fun _ m => .inl m, fun _ _ d h => ⟨d, h, fun _ q => q⟩, fun b ob u e => by show upd x.H p o b = _; rw [upd_ne (ne_of_none e h)]; exact e⟩, ⟨fun b u e => ?_, a.len, a.base, a.nd, fun n c d e1 e2 => ?_⟩⟩
  · by_cases hb : b = p
    · rw [hb] at e; exact e h
    · have q' : upd x.H p o b = none := q
      rw [upd_ne hb] at q'
      exact e q'
  · by_cases hb : b = p
    · rw [hb]; exact .inr h
    · have e' : upd x.S p o b = some u := e
      rw [upd_ne hb] at e'
      exact .inl (by rw [e']; simp)
  · have e' : upd x.S p o b = some u := e
    show upd x.H p o b = some u
    by_cases hb : b = p
    · subst hb
      rw [upd_same] at e' ⊢
      exact e'
    · rw [upd_ne hb] at e' ⊢
      exact a.sub b u e'
  · obtain ⟨q1, u, q2, q3⟩ := a.cont n c d e1 e2
    have hc : c ≠ p := ne_of_none q2 h
    refine ⟨by show upd x.S p o c = none; rw [upd_ne hc]; exact q1, u, by show upd x.H p o c = _; rw [upd_ne hc]; exact q2, NodeW.mono (sub_upd hs) (fun _ _ z => z) q3⟩
theorem OkS.lay (a : OkS G n0 x) {p : Addr} {o : HO} {d : D} (h : x.H p = none) (n : Node G x.ρ x.S d o) :
    Ext n0 x ⟨upd x.S p o, upd x.H p o, x.ρ, x.ν⟩ ∧ OkS G n0 ⟨upd x.S p o, upd x.H p o, x.ρ, x.ν⟩ ∧ Rep G x.ρ (upd x.S p o) d (.ref p) :=
  ⟨(a.layAny h).1, (a.layAny h).2, (Node.mono (sub_upd (a.none_of h)) (fun _ _ z => z) n).rep upd_same⟩
/-- a new token -/
theorem OkS.layTok (a : OkS G n0 x) {p : Addr} {o : HO} {d : D} (h : x.H p = none) (n : Node G x.ρ x.S d o) :
    Ext n0 x ⟨x.S, upd x.H p o, x.ρ ++ [p], x.ν ++ [d]⟩ ∧ OkS G n0 ⟨x.S, upd x.H p o, x.ρ ++ [p], x.ν ++ [d]⟩ ∧ Rep G (x.ρ ++ [p]) x.S (.tok x.ν.length) (.ref p) := by
  have hs := a.none_of h
  have hr := a.notin h
  have rn : ∀ (n : Nat) (c : Addr), x.ρ[n]? = some c → (x.ρ ++ [p])[n]? = some c := fun n c e => by
    rw [List.getElem?_append_left (List.getElem?_eq_some_iff.mp e).1]; exact e
  refine ⟨⟨fun _ _ e => .inl e, ⟨[p], rfl⟩, fun b u e _ => .inl (by show upd x.H p o b = _; rw [upd_ne (ne_of_none e h)]; exact e), fun b e q => ?_, fun _ _ e => .inl (by rw [e]; simp), fun b m => ?_, fun m hm d' h' => ⟨d', ?_, fun _ q => q⟩, fun b ob u e => by show upd x.H p o b = _; rw [upd_ne (ne_of_none e h)]; exact e⟩, ⟨fun b u e => ?_, by simp [a.len], by simp; have := a.base; omega, ?_, fun m c e e1 e2 => ?_⟩, .tok ?_⟩
  · by_cases hb : b = p
    · rw [hb] at e; exact e h
    · have q' : upd x.H p o b = none := q
      rw [upd_ne hb] at q'
      exact e q'
  · rcases List.mem_append.mp m with z | z
    · exact .inl z
    · rw [List.mem_singleton.mp z]; exact .inr h
  · have h' : (x.ν ++ [d])[m]? = some d' := h'
    rw [List.getElem?_append_left (Nat.lt_of_lt_of_le hm a.base)] at h'
    exact h'
  · show upd x.H p o b = some u
    have := a.sub b u e
    rw [upd_ne (ne_of_none this h)]; exact this
  · show (x.ρ ++ [p]).Nodup
    rw [List.nodup_append]
    refine ⟨a.nd, by simp, fun b hb c hc => ?_⟩
    rw [List.mem_singleton.mp hc]
    rintro rfl
    exact hr hb
  · have e1' : (x.ρ ++ [p])[m]? = some c := e1
    have e2' : (x.ν ++ [d])[m]? = some e := e2
    by_cases hm : m < x.ρ.length
    · rw [List.getElem?_append_left hm] at e1'
      rw [List.getElem?_append_left (by rw [← a.len]; exact hm)] at e2'
      obtain ⟨q1, u, q2, q3⟩ := a.cont m c e e1' e2'
      exact ⟨q1, u, by show upd x.H p o c = _; rw [upd_ne (ne_of_none q2 h)]; exact q2, q3.mono (fun _ _ z => .inl z) rn⟩
    · have hm2 : m = x.ρ.length := by
        have := (List.getElem?_eq_some_iff.mp e1').1
        simp at this
        omega
      subst hm2
      rw [List.getElem?_append_right (Nat.le_refl _), Nat.sub_self] at e1'
      rw [List.getElem?_append_right (by rw [a.len]; exact Nat.le_refl _), a.len, Nat.sub_self] at e2'
      simp at e1' e2'
      subst e1' e2'
      exact ⟨hs, o, upd_same, .nd (n.mono (fun _ _ z => .inl z) rn)⟩
  · rw [← a.len, List.getElem?_append_right (Nat.le_refl _), Nat.sub_self]; rfl
/-- mkNew, met by an object at a free place -/
theorem After.new {W : WX} {σ : L2.St} {nw : Bool} {d : D} {Q : VK} (h : After G n0 (RepR G) W σ x (mkNew nw d) Q) (a : OkS G n0 x) {p : Addr} {o : HO} (hp : x.H p = none) (n : Node G x.ρ x.S d o) : Q (.ref p) (upd x.H p o) := by
  cases nw with
  | true =>
    obtain ⟨e1, e2, e3⟩ := a.layTok hp n
    exact (show ∀ (b : V) (y : Sit), y.ν = x.ν ++ [d] → Ext n0 x y → OkS G n0 y → RepR G y (.tok x.ν.length) b → Q b y.H from h) (.ref p) ⟨x.S, upd x.H p o, x.ρ ++ [p], x.ν ++ [d]⟩ rfl e1 e2 e3
  | false =>
    obtain ⟨e1, e2, e3⟩ := a.lay hp n
    exact (show ∀ (b : V) (y : Sit), y.ν = x.ν → Ext n0 x y → OkS G n0 y → RepR G y d b → Q b y.H from h) (.ref p) ⟨upd x.S p o, upd x.H p o, x.ρ, x.ν⟩ rfl e1 e2 e3
end

/-! ### behind a token -/
section
variable {G : Gx} {n0 : Nat} {x : Sit}
theorem peel_of {d e : D} (h : peel d = e) (n : ∀ ks vs, e ≠ .dct ks vs) : d = e := by
  cases d with
  | wlk ks vs => exact absurd h.symm (n ks vs)
  | _ => exact h
theorem un_tok {ν : Sto} {n : Nat} {d : D} (h : ν[n]? = some d) : un ν (.tok n) = peel d := by
  show peel (ν.getD n .non) = peel d
  rw [List.getD_eq_getElem?_getD, h]
  rfl
theorem un_lst (a : OkS G n0 x) {d : D} {v : V} {xs : List D} (h : Rep G x.ρ x.S d v) (e : un x.ν d = .lst xs) : ∃ p vs, v = .ref p ∧ x.H p = some (.lst vs) ∧ Reps G x.ρ x.S xs vs := by
  cases h with
  | tok ht =>
    obtain ⟨d', o, e1, e2, e3⟩ := a.tok ht
    have : d' = .lst xs := peel_of ((un_tok e1).symm.trans e) (by intro _ _ z; cases z)
    subst this
    cases e3.plain rfl with
    | lst r => exact ⟨_, _, rfl, e2, r⟩
  | lst hs r =>
    have : _ = xs := D.lst.inj e
    subst this
    exact ⟨_, _, rfl, a.sub _ _ hs, r⟩
  | _ => cases e
theorem un_frz (a : OkS G n0 x) {d : D} {v : V} {xs : List D} (h : Rep G x.ρ x.S d v) (e : un x.ν d = .frz xs) : ∃ p vs, v = .ref p ∧ SqL G.K x.H p vs ∧ Reps G x.ρ x.S xs vs := by
  cases h with
  | tok ht =>
    obtain ⟨d', o, e1, e2, e3⟩ := a.tok ht
    have : d' = .frz xs := peel_of ((un_tok e1).symm.trans e) (by intro _ _ z; cases z)
    subst this
    cases e3.plain rfl
  | frz hs r =>
    have : _ = xs := D.frz.inj e
    subst this
    exact ⟨_, _, rfl, sqL_mono a.sub.h hs, r⟩
  | _ => cases e
theorem un_tup (a : OkS G n0 x) {d : D} {v : V} {xs : List D} (h : Rep G x.ρ x.S d v) (e : un x.ν d = .tup xs) : d = .tup xs ∧ ∃ p vs, v = .ref p ∧ SqT G.K x.H p vs ∧ Reps G x.ρ x.S xs vs := by
  cases h with
  | tok ht =>
    obtain ⟨d', o, e1, e2, e3⟩ := a.tok ht
    have : d' = .tup xs := peel_of ((un_tok e1).symm.trans e) (by intro _ _ z; cases z)
    subst this
    cases e3.plain rfl
  | tup hs r =>
    have : _ = xs := D.tup.inj e
    subst this
    exact ⟨rfl, _, _, rfl, sqT_mono a.sub.h hs, r⟩
  | _ => cases e
theorem un_dct (a : OkS G n0 x) {d : D} {v : V} {ks : List DK} {ds : List D} (h : Rep G x.ρ x.S d v) (e : un x.ν d = .dct ks ds) :
    ∃ p, v = .ref p ∧ ∃ kvs : List (Key × V), Rd x.H p (.dK kvs) ∧ ks = kvs.map (fun kv => DK.one kv.1) ∧ Reps G x.ρ x.S ds (kvs.map (·.2)) := by
  cases h with
  | tok ht =>
    obtain ⟨d', o, e1, e2, e3⟩ := a.tok ht
    have e4 : peel d' = .dct ks ds := (un_tok e1).symm.trans e
    cases e3 with
    | nd e3 =>
      cases e3 with
      | dctK hk r =>
        obtain ⟨rfl, rfl⟩ := D.dct.inj e4
        exact ⟨_, rfl, _, .inl e2, hk, r⟩
      | lst _ => cases e4
      | obj _ _ _ => cases e4
    | wlk hk r =>
      obtain ⟨rfl, rfl⟩ := D.dct.inj e4
      exact ⟨_, rfl, _, .inr ⟨_, e2⟩, hk, r⟩
  | dctK hs hk r =>
    obtain ⟨rfl, rfl⟩ := D.dct.inj e
    exact ⟨_, rfl, _, Fz.rd a.sub.h hs, hk, r⟩
  | _ => cases e
theorem un_obj (a : OkS G n0 x) {d : D} {v : V} {C : Nat} {ns : List Nat} {ds : List D} (h : Rep G x.ρ x.S d v) (e : un x.ν d = .obj C ns ds) :
    ∃ p dx fs, v = .ref p ∧ x.H p = some (.ins (G.cad C) dx fs) ∧ C < G.nC ∧ fs.map (·.1) = ns.map G.fld ∧ Reps G x.ρ x.S ds (fs.map (·.2)) := by
  cases h with
  | tok ht =>
    obtain ⟨d', o, e1, e2, e3⟩ := a.tok ht
    have : d' = .obj C ns ds := peel_of ((un_tok e1).symm.trans e) (by intro _ _ z; cases z)
    subst this
    cases e3.plain rfl with
    | obj hC hn r => exact ⟨_, _, _, rfl, e2, hC, hn, r⟩
  | obj hs hC hn r =>
    obtain ⟨rfl, rfl, rfl⟩ := D.obj.inj e
    exact ⟨_, _, _, rfl, a.sub _ _ hs, hC, hn, r⟩
  | _ => cases e
/-- what is no object stands for itself -/
theorem un_atom (a : OkS G n0 x) {d e : D} {v : V} (h : Rep G x.ρ x.S d v) (q : un x.ν d = e) (f : flat e = true) : d = e := by
  cases h with
  | tok ht =>
    obtain ⟨d', o, e1, e2, e3⟩ := a.tok ht
    have : d' = e := peel_of ((un_tok e1).symm.trans q) (by intro _ _ z; rw [z] at f; cases f)
    subst this
    cases e3 with
    | nd e3 => cases e3 <;> cases f
    | wlk _ _ => cases f
  | _ => exact q
end
end EF

/-! ED: operators by values. -/
namespace EF
open PySem PySem.Spec PyProof.Rows L2

section
variable {G : Gx} {n0 : Nat} {x : Sit}
theorem un_int (a : OkS G n0 x) {d : D} {v : V} {i : Int} (h : Rep G x.ρ x.S d v) (e : un x.ν d = .int i) : v = .int i := by
  have := un_atom a h e rfl
  subst this
  cases h
  rfl
theorem un_str (a : OkS G n0 x) {d : D} {v : V} {z : Str} (h : Rep G x.ρ x.S d v) (e : un x.ν d = .str z) : v = .str z := by
  have := un_atom a h e rfl
  subst this
  cases h
  rfl
theorem un_bl (a : OkS G n0 x) {d : D} {v : V} {b : Bool} (h : Rep G x.ρ x.S d v) (e : un x.ν d = .bl b) : v = .bl b := by
  have := un_atom a h e rfl
  subst this
  cases h
  rfl
theorem un_non (a : OkS G n0 x) {d : D} {v : V} (h : Rep G x.ρ x.S d v) (e : un x.ν d = .non) : v = .non := by
  have := un_atom a h e rfl
  subst this
  cases h
  rfl
theorem Reps.rep {G : Gx} {ρ : List Addr} {S : Hp} {xs : List D} {vs : List V} (h : Reps G ρ S xs vs) : ∀ n : Nat, Reps G ρ S (repD n xs) (List.replicate n vs).flatten
  | 0 => .nil
  | n + 1 => by
    unfold repD
    rw [List.replicate_succ, List.replicate_succ, List.flatten_cons, List.flatten_cons]
    exact h.append (Reps.rep h n)
end

/-- what comes of a value reckoned at x: nothing in the store changes -/
def Give (G : Gx) (n0 : Nat) (x : Sit) (r : D) (Q : VK) : Prop := ∀ (v : V) (y : Sit), y.ν = x.ν → Ext n0 x y → OkS G n0 y → Rep G y.ρ y.S r v → Q v y.H
section
variable {G : Gx} {n0 : Nat} {x : Sit} {r : D} {Q : VK}
theorem Give.here (h : Give G n0 x r Q) (a : OkS G n0 x) {v : V} (q : Rep G x.ρ x.S r v) : Q v x.H := h v x rfl (.refl x) a q
theorem Give.newT {xs : List D} {vs : List V} (h : Give G n0 x (.tup xs) Q) (a : OkS G n0 x) (r : Reps G x.ρ x.S xs vs) : ∀ p, x.H p = none → Q (.ref p) (upd x.H p (.tup vs)) := fun p hp => by
  obtain ⟨e1, e2⟩ := a.layAny (o := .tup vs) hp
  exact h (.ref p) ⟨upd x.S p (.tup vs), upd x.H p (.tup vs), x.ρ, x.ν⟩ rfl e1 e2 (.tup (SqT.of upd_same) (e1.reps r))
theorem Give.new (h : Give G n0 x r Q) (a : OkS G n0 x) {o : HO} (n : Node G x.ρ x.S r o) : ∀ p, x.H p = none → Q (.ref p) (upd x.H p o) := fun p hp => by
  obtain ⟨e1, e2, e3⟩ := a.lay hp n
  exact h (.ref p) ⟨upd x.S p o, upd x.H p o, x.ρ, x.ν⟩ rfl e1 e2 e3
end

def opOf : Bop → Operator
  | .add => .Add
  | .sub => .Sub
  | .mul => .Mult
  | .fdv => .FloorDiv
  | .mod => .Mod
  | .pow => .Pow
def rBin (G : Gx) (n0 : Nat) (op : Bop) : R2 := fun x y H Q => ∃ (s : Sit) (d e r : D), s.H = H ∧ OkS G n0 s ∧ Rep G s.ρ s.S d x ∧ Rep G s.ρ s.S e y ∧ binD op (un s.ν d) (un s.ν e) = some r ∧ Give G n0 s r Q
section
variable {X : Cx} {G : Gx} {n0 : Nat}
theorem op_fdivX : OpR X (binaryOp .FloorDiv) (rI (fun i j => j ≠ 0 ∧ j.natAbs.log2 < 9000) fun i j => .int (i.fdiv j)) := opI fun i j _ _ _ _ _ hc q => floordiv_int hc.1 q (.inl (PyProof.noPylong_of_log2 hc.2))
theorem op_powX : OpR X (binaryOp .Pow) (rI CPow fun i j => .int (i ^ j.toNat)) := op_pow
/-- a text times a small int -/
theorem op_repStr : OpR X (binaryOp .Mult) (fun x y H Q => ∃ (z : Str) (k : Int), x = .str z ∧ y = .int k ∧ 0 ≤ k ∧ k ≤ 1000 ∧ z.length ≤ 1000 ∧ Q (.str ⟨(repD k.toNat z.cps.toList).toArray⟩) H) := by
  intro pins s σ H x y v u Q I rx ry h
  obtain ⟨z, k, rfl, rfl, h0, h1, h2, q⟩ := h
  obtain ⟨t, rfl⟩ := rx
  obtain ⟨t', rfl⟩ := ry
  refine PySem.P.mul_str (by rw [decide_eq_false (by omega), decide_eq_false (by omega)]; rfl) (fun c1 _ => ?_) (fun c1 _ => ?_) ?_
  · have : (1000 : Int) ≤ (2 ^ 63 - 1) / k := by
      rw [Int.le_ediv_iff_mul_le (by omega)]
      omega
    omega
  · have h3 : z.length * k.toNat ≤ 1000 * 1000 := Nat.mul_le_mul h2 (by omega)
    unfold Builtin.Str.tooLong
    exact decide_eq_false (by rw [sizeLine_eq]; omega)
  · have fin : ∀ (w : Str), w.cps = (repD k.toNat z.cps.toList).toArray → Q (.str w) H := fun w e => by
      have : w = ⟨(repD k.toNat z.cps.toList).toArray⟩ := by rw [← e]
      rw [this]; exact q
    split
    · next c =>
      have : k = 0 := by omega
      subst this
      exact ⟨by decide, ⟨.str _, H, I.tok _, ⟨_, rfl⟩, fin _ rfl⟩⟩
    · split
      · next c =>
        refine ⟨.str z, H, I, ⟨_, rfl⟩, fin _ ?_⟩
        rw [Bool.or_eq_true] at c
        rcases c with c | c
        · have : k = 1 := by simpa using c
          subst this
          simp [repD]
        · have hz : z.cps = #[] := by
            have : z.cps.size = 0 := by simpa [Str.length] using c
            exact Array.size_eq_zero_iff.mp this
          rw [hz]
          simp [repD]
      · have e : ∀ m : Nat, (List.replicate m z.cps).foldl (· ++ ·) #[] = (repD m z.cps.toList).toArray := fun m => by
          have : ∀ (l : List (Array Nat)) (a : Array Nat), l.foldl (· ++ ·) a = a ++ (l.map Array.toList).flatten.toArray := by
            intro l
            induction l with
            | nil => intro a; simp
            | cons b r ih => intro a; rw [List.foldl_cons, ih]; apply Array.toList_inj.mp; simp
          rw [this]
          simp [repD]
        rw [e]
        refine ⟨?_, ⟨.str _, H, I.tok _, ⟨_, rfl⟩, fin _ rfl⟩⟩
        have h3 : z.length * k.toNat ≤ 1000 * 1000 := Nat.mul_le_mul h2 (by omega)
        have h4 : (repD k.toNat z.cps.toList).length = k.toNat * z.length := by simp [repD, Str.length]
        show (repD k.toNat z.cps.toList).toArray.size ≤ sizeLine
        rw [List.size_toArray, h4, sizeLine_eq, Nat.mul_comm]
        omega
theorem op_bin (hK : G.K = X.K) (op : Bop) : OpR X (binaryOp (opOf op)) (rBin G n0 op) := by
  intro pins s σ H x y v u Q I rx ry h
  obtain ⟨t, d, e, r, rfl, ok, rd, re, hb, g⟩ := h
  unfold binD at hb
  split at hb
  · next i j h1 h2 =>
    cases hb
    exact op_add pins s σ _ _ _ _ _ Q I rx ry ⟨i, j, un_int ok rd h1, un_int ok re h2, g.here ok (.int _)⟩
  · next i j h1 h2 =>
    split at hb
    · next hz =>
      cases hb
      exact op_add_str pins s σ _ _ _ _ _ Q I rx ry ⟨i, j, un_str ok rd h1, un_str ok re h2, hz, g.here ok (.str _)⟩
    · cases hb
  · next xs ys h1 h2 =>
    split at hb
    · next hz =>
      cases hb
      obtain ⟨p, vs, e1, s1, r1⟩ := un_lst ok rd h1
      obtain ⟨p2, vs2, e2, s2, r2⟩ := un_lst ok re h2
      exact op_cat pins s σ _ _ _ _ _ Q I rx ry ⟨p, p2, vs, vs2, e1, e2, s1, s2, by rw [← r1.length, ← r2.length]; exact hz, g.new ok (.lst (r1.append r2))⟩
    · cases hb
  · next xs ys h1 h2 =>
    split at hb
    · next hz =>
      cases hb
      obtain ⟨ed, p, vs, e1, s1, r1⟩ := un_tup ok rd h1
      obtain ⟨ee, p2, vs2, e2, s2, r2⟩ := un_tup ok re h2
      subst ed ee e1 e2
      rw [hK] at s1 s2
      refine op_catA pins s σ _ _ _ _ _ Q I rx ry ⟨p, p2, vs, vs2, rfl, rfl, s1, s2, by rw [← r1.length, ← r2.length]; exact hz, fun z => ?_, fun _ z => ?_, fun _ _ => g.newT ok (r1.append r2)⟩
      · subst z
        cases r1
        exact g.here ok re
      · subst z
        cases r2
        rw [List.append_nil] at g
        exact g.here ok rd
    · cases hb
  · next i j h1 h2 =>
    cases hb
    exact op_sub pins s σ _ _ _ _ _ Q I rx ry ⟨i, j, un_int ok rd h1, un_int ok re h2, g.here ok (.int _)⟩
  · next i j h1 h2 =>
    split at hb
    · next hz =>
      cases hb
      exact op_mulW pins s σ _ _ _ _ _ Q I rx ry ⟨i, j, un_int ok rd h1, un_int ok re h2, hz, g.here ok (.int _)⟩
    · cases hb
  · next xs k h1 h2 =>
    split at hb
    · next hz =>
      cases hb
      obtain ⟨p, vs, e1, s1, r1⟩ := un_lst ok rd h1
      exact op_rep pins s σ _ _ _ _ _ Q I rx ry ⟨p, k, vs, e1, un_int ok re h2, s1, by omega, hz.2.1, by rw [← r1.length]; exact hz.2.2, g.new ok (.lst (r1.rep _))⟩
    · cases hb
  · next z k h1 h2 =>
    split at hb
    · next hz =>
      cases hb
      exact op_repStr pins s σ _ _ _ _ _ Q I rx ry ⟨z, k, un_str ok rd h1, un_int ok re h2, hz.1, hz.2.1, hz.2.2, g.here ok (.str _)⟩
    · cases hb
  · next i j h1 h2 =>
    split at hb
    · next hz =>
      cases hb
      exact op_fdivX pins s σ _ _ _ _ _ Q I rx ry ⟨i, j, un_int ok rd h1, un_int ok re h2, hz, g.here ok (.int _)⟩
    · cases hb
  · next i j h1 h2 =>
    split at hb
    · next hz =>
      cases hb
      exact op_modN pins s σ _ _ _ _ _ Q I rx ry ⟨i, j, un_int ok rd h1, un_int ok re h2, hz, g.here ok (.int _)⟩
    · cases hb
  · next i j h1 h2 =>
    split at hb
    · next hz =>
      cases hb
      exact op_powX pins s σ _ _ _ _ _ Q I rx ry ⟨i, j, un_int ok rd h1, un_int ok re h2, hz, g.here ok (.int _)⟩
    · cases hb
  · cases hb
end
end EF

/-! EE: comparisons by values. -/
namespace EF
open PySem PySem.Spec PyProof.Rows L2
open PySem.SeqAt (EqAt RcAt RcNeAt)

theorem eqZ_len {f : D → D → Option Bool} : ∀ {xs ys : List D} {b : Bool}, eqZ f xs ys = some b → ∀ j (h1 : j < xs.length) (h2 : j < ys.length), ∃ c, f xs[j] ys[j] = some c
  | [], _, _, _, j, h1, _ => absurd h1 (Nat.not_lt_zero _)
  | _ :: _, [], _, _, j, _, h2 => absurd h2 (Nat.not_lt_zero _)
  | x :: xs, y :: ys, b, h, j, h1, h2 => by
    unfold eqZ at h
    split at h
    · next a c e1 e2 =>
      cases j with
      | zero => exact ⟨a, e1⟩
      | succ j => exact eqZ_len e2 j (Nat.lt_of_succ_lt_succ h1) (Nat.lt_of_succ_lt_succ h2)
    · cases h
/-- the pairs' answers by their places -/
def pairB (f : D → D → Option Bool) (xs ys : List D) (j : Nat) : Bool := (f (xs.getD j .non) (ys.getD j .non)).getD false
theorem eqZ_all {f : D → D → Option Bool} : ∀ {xs ys : List D} {b : Bool}, eqZ f xs ys = some b → (List.range (min xs.length ys.length)).all (pairB f xs ys) = b
  | [], ys, b, h => by
    unfold eqZ at h
    cases h
    simp
  | x :: xs, [], b, h => by
    unfold eqZ at h
    cases h
    simp
  | x :: xs, y :: ys, b, h => by
    unfold eqZ at h
    split at h
    · next a c e1 e2 =>
      cases h
      have ih := eqZ_all e2
      have e0 : min (x :: xs).length (y :: ys).length = min xs.length ys.length + 1 := by simp only [List.length_cons]; omega
      rw [e0, List.range_succ_eq_map, List.all_cons, List.all_map]
      have e3 : pairB f (x :: xs) (y :: ys) 0 = a := by simp [pairB, e1]
      rw [e3, ← ih]
      rfl
    · cases h

section
variable {X : Cx} {G : Gx} {n0 : Nat} {pins : List (Addr × Obj)} {σ : L2.St} {s : Shared} {x : Sit}
theorem is_lst (I : L2.Inv X pins σ x.H s) {a : Addr} {vs : List V} (h : x.H a = some (.lst vs)) : ∃ its : List Value, Vals vs its ∧ s.heap.IsList a its.toArray := by
  obtain ⟨_, its, n, r, e⟩ := I.hok a _ h
  exact ⟨its, r, _, e, rfl, n, rfl⟩
theorem is_tup (I : L2.Inv X pins σ x.H s) {a : Addr} {vs : List V} (h : SqT X.K x.H a vs) : ∃ its : List Value, Vals vs its ∧ s.heap.IsTuple a its.toArray := by
  obtain ⟨its, r, t, _⟩ := I.tuple h
  exact ⟨its, r, t⟩
theorem lst_tup (I : L2.Inv X pins σ x.H s) {a : Addr} {vs ws : List V} (h : x.H a = some (.lst vs)) (h' : SqT X.K x.H a ws) : False := by
  obtain ⟨_, _, o, e, c, _⟩ := is_lst I h
  obtain ⟨_, _, o', e', c', _⟩ := is_tup I h'
  rw [e] at e'
  cases e'
  rw [c] at c'
  injection c' with c'
  exact absurd c' (by decide)
/-- two trees at one value are equal -/
theorem eqT_refl (hK : G.K = X.K) (I : L2.Inv X pins σ x.H s) (ok : OkS G n0 x) : ∀ (n : Nat) (d e : D) (v : V) (b : Bool), Rep G x.ρ x.S d v → Rep G x.ρ x.S e v → eqT n d e = some b → b = true
  | 0, _, _, _, _, _, _, h => nomatch h
  | n + 1, d, e, v, b, r1, r2, h => by
    have go : ∀ (xs ys : List D) (vs : List V) (b : Bool), Reps G x.ρ x.S xs vs → Reps G x.ρ x.S ys vs → eqZ (eqT n) xs ys = some b → b = true := by
      intro xs
      induction xs with
      | nil => intro ys vs b q1 q2 h; cases q1; cases q2; unfold eqZ at h; cases h; rfl
      | cons z zs ih =>
        intro ys vs b q1 q2 h
        cases q1 with
        | cons p1 q1 =>
          cases q2 with
          | cons p2 q2 =>
            unfold eqZ at h
            split at h
            · next a c e1 e2 =>
              cases h
              rw [eqT_refl hK I ok n _ _ _ _ p1 p2 e1, ih _ _ _ q1 q2 e2]
              rfl
            · cases h
    cases r1 with
    | non => cases r2 <;> simp [eqT, kindD] at h <;> first | exact h | exact h.symm
    | bl c => cases r2 <;> simp [eqT, kindD] at h <;> first | exact h | exact h.symm
    | int i => cases r2 <;> simp [eqT, kindD] at h <;> first | exact h | exact h.symm
    | str z => cases r2 <;> simp [eqT, kindD] at h <;> first | exact h | exact h.symm
    | @tup xs a vs h1 q1 =>
      cases r2 with
      | @tup ys _ ws h2 q2 =>
        have e1 : vs = ws := I.tuple_inj (hK ▸ sqT_mono ok.sub.h h1) (hK ▸ sqT_mono ok.sub.h h2)
        subst e1
        have hl : xs.length = ys.length := q1.length.trans q2.length.symm
        unfold eqT at h
        simp only [Option.map_eq_some_iff] at h
        obtain ⟨c, e2, e3⟩ := h
        rw [go _ _ _ _ q1 q2 e2, hl] at e3
        simpa using e3.symm
      | lst h2 _ => exact (lst_tup I (ok.sub _ _ h2) (hK ▸ sqT_mono ok.sub.h h1)).elim
      | _ => simp [eqT, kindD] at h
    | @lst xs a vs h1 q1 =>
      cases r2 with
      | @lst ys _ ws h2 q2 =>
        rw [h1] at h2
        cases h2
        have hl : xs.length = ys.length := q1.length.trans q2.length.symm
        unfold eqT at h
        simp only [hl, if_true] at h
        exact go _ _ _ _ q1 q2 h
      | tup h2 _ => exact (lst_tup I (ok.sub _ _ h1) (hK ▸ sqT_mono ok.sub.h h2)).elim
      | _ => simp [eqT, kindD] at h
    | _ => cases r2 <;> simp [eqT, kindD] at h
/-- a value behind its token -/
inductive Bears (G : Gx) (x : Sit) : D → V → Prop where
  | non : Bears G x .non .non
  | bl (b : Bool) : Bears G x (.bl b) (.bl b)
  | int (i : Int) : Bears G x (.int i) (.int i)
  | str (z : Str) : Bears G x (.str z) (.str z)
  | lst {xs : List D} {a : Addr} {vs : List V} (h : x.H a = some (.lst vs)) (r : Reps G x.ρ x.S xs vs) : Bears G x (.lst xs) (.ref a)
  | tup {xs : List D} {a : Addr} {vs : List V} (h : SqT G.K x.H a vs) (r : Reps G x.ρ x.S xs vs) : Bears G x (.tup xs) (.ref a)
theorem Rep.bears (ok : OkS G n0 x) {d : D} {v : V} (h : Rep G x.ρ x.S d v) (k : kindD d ≠ none) : Bears G x d v := by
  cases h with
  | non => exact .non
  | bl b => exact .bl b
  | int i => exact .int i
  | str z => exact .str z
  | tup h r => exact .tup (sqT_mono ok.sub.h h) r
  | lst h r => exact .lst (ok.sub _ _ h) r
  | _ => exact absurd rfl k
theorem Rep.bearsU (ok : OkS G n0 x) {d : D} {v : V} (h : Rep G x.ρ x.S d v) (k : kindD (un x.ν d) ≠ none) : Bears G x (un x.ν d) v := by
  cases e : un x.ν d with
  | non => rw [un_non ok h e]; exact .non
  | bl b => rw [un_bl ok h e]; exact .bl b
  | int i => rw [un_int ok h e]; exact .int i
  | str z => rw [un_str ok h e]; exact .str z
  | tup xs =>
    obtain ⟨_, p, vs, rfl, h1, h2⟩ := un_tup ok h e
    exact .tup h1 h2
  | lst xs =>
    obtain ⟨p, vs, rfl, h1, h2⟩ := un_lst ok h e
    exact .lst h1 h2
  | _ => rw [e] at k; exact absurd rfl k
theorem eqT_kind {n : Nat} {d e : D} {b : Bool} (h : eqT n d e = some b) : kindD d ≠ none ∧ kindD e ≠ none := by
  cases n with
  | zero => cases h
  | succ n =>
    cases d <;> cases e <;> first | (exfalso; simp [eqT, kindD] at h; done) | (refine ⟨?_, ?_⟩ <;> simp [kindD])
theorem eqAt_of (hK : G.K = X.K) (I : L2.Inv X pins σ x.H s) (ok : OkS G n0 x) : ∀ (n : Nat) (d e : D) (v w : V) (u u' : Value) (b : Bool) (A : Around), Bears G x d v → Bears G x e w → RelV v u → RelV w u' → eqT n d e = some b → (v = w → b = true) → A.units + n < cLine →
    EqAt A s u u' b ∧ RcAt A s u u' b ∧ RcNeAt A s u u' (!b)
  | 0, _, _, _, _, _, _, _, _, _, _, _, _, h, _, _ => nomatch h
  | n + 1, d, e, v, w, u, u', b, A, r1, r2, q1, q2, h, hs, hu => by
    have pairs : ∀ {xs ys : List D} {vs ws : List V} {its its2 : List Value} {c : Bool}, Reps G x.ρ x.S xs vs → Reps G x.ρ x.S ys ws → Vals vs its → Vals ws its2 → eqZ (eqT n) xs ys = some c →
        ∀ j (h1 : j < its.toArray.size) (h2 : j < its2.toArray.size), EqAt A.in1 s its.toArray[j] its2.toArray[j] (pairB (eqT n) xs ys j) := by
      intro xs ys vs ws its its2 c p1 p2 t1 t2 hz j h1 h2
      have l1 : j < xs.length := by rw [p1.length, t1.length]; simpa using h1
      have l2 : j < ys.length := by rw [p2.length, t2.length]; simpa using h2
      obtain ⟨c', hc⟩ := eqZ_len hz j l1 l2
      obtain ⟨v1, g1, m1⟩ := p1.get (List.getElem?_eq_getElem l1)
      obtain ⟨v2, g2, m2⟩ := p2.get (List.getElem?_eq_getElem l2)
      obtain ⟨o1, f1, k1⟩ := t1.get g1
      obtain ⟨o2, f2, k2⟩ := t2.get g2
      have e1 : its.toArray[j] = o1 := by
        have : its[j]? = some o1 := f1
        simpa using (List.getElem?_eq_some_iff.mp this).2
      have e2 : its2.toArray[j] = o2 := by
        have : its2[j]? = some o2 := f2
        simpa using (List.getElem?_eq_some_iff.mp this).2
      have e3 : pairB (eqT n) xs ys j = c' := by simp [pairB, List.getD_eq_getElem?_getD, List.getElem?_eq_getElem l1, List.getElem?_eq_getElem l2, hc]
      rw [e1, e2, e3]
      obtain ⟨z1, z2⟩ := eqT_kind hc
      exact (eqAt_of hK I ok n _ _ _ _ _ _ _ A.in1 (m1.bears ok z1) (m2.bears ok z2) k1 k2 hc (fun q => eqT_refl hK I ok n _ _ _ _ m1 (q ▸ m2) hc) (by show A.units + 1 + n < cLine; omega)).1
    have hu0 : A.units < cLine := by omega
    cases r1 with
    | non =>
      cases (show u = Value.none from q1)
      cases r2 with
      | non =>
        cases (show u' = Value.none from q2)
        cases h
        exact ⟨EqAt.same _, RcAt.none_none, RcNeAt.none_none⟩
      | bl b2 =>
        cases (show u' = Value.bool b2 from q2)
        cases h
        exact ⟨EqAt.none_bool b2, RcAt.none_bool b2, RcNeAt.none_bool b2⟩
      | int i2 =>
        obtain ⟨t2, rfl⟩ := q2
        cases h
        exact ⟨EqAt.none_int i2 t2, RcAt.none_int i2 t2, RcNeAt.none_int i2 t2⟩
      | str z2 =>
        obtain ⟨t2, rfl⟩ := q2
        cases h
        exact ⟨EqAt.none_str z2 t2, RcAt.none_str z2 t2, RcNeAt.none_str z2 t2⟩
      | @lst xs2 a2 vs2 h2 p2 =>
        cases (show u' = Value.ref a2 from q2); obtain ⟨its2, w2, k2⟩ := is_lst I h2
        cases h
        exact ⟨EqAt.none_list k2 hu0, RcAt.none_list k2 hu0, RcNeAt.none_list k2 hu0⟩
      | @tup xs2 a2 vs2 h2 p2 =>
        cases (show u' = Value.ref a2 from q2); obtain ⟨its2, w2, k2⟩ := is_tup I (hK ▸ h2)
        cases h
        exact ⟨EqAt.none_tuple k2 hu0, RcAt.none_tuple k2 hu0, RcNeAt.none_tuple k2 hu0⟩
    | bl b1 =>
      cases (show u = Value.bool b1 from q1)
      cases r2 with
      | non =>
        cases (show u' = Value.none from q2)
        cases h
        exact ⟨EqAt.bool_none b1, RcAt.bool_none b1, RcNeAt.bool_none b1⟩
      | bl b2 =>
        cases (show u' = Value.bool b2 from q2)
        cases h
        exact ⟨EqAt.bool_bool b1 b2, RcAt.bool_bool b1 b2, RcNeAt.bool_bool b1 b2⟩
      | int i2 =>
        obtain ⟨t2, rfl⟩ := q2
        cases h
        exact ⟨EqAt.bool_int b1 i2 t2, RcAt.bool_int b1 i2 t2, RcNeAt.bool_int b1 i2 t2⟩
      | str z2 =>
        obtain ⟨t2, rfl⟩ := q2
        cases h
        exact ⟨EqAt.bool_str b1 z2 t2, RcAt.bool_str b1 z2 t2, RcNeAt.bool_str b1 z2 t2⟩
      | @lst xs2 a2 vs2 h2 p2 =>
        cases (show u' = Value.ref a2 from q2); obtain ⟨its2, w2, k2⟩ := is_lst I h2
        cases h
        exact ⟨EqAt.bool_list b1 k2 hu0, RcAt.bool_list b1 k2 hu0, RcNeAt.bool_list b1 k2 hu0⟩
      | @tup xs2 a2 vs2 h2 p2 =>
        cases (show u' = Value.ref a2 from q2); obtain ⟨its2, w2, k2⟩ := is_tup I (hK ▸ h2)
        cases h
        exact ⟨EqAt.bool_tuple b1 k2 hu0, RcAt.bool_tuple b1 k2 hu0, RcNeAt.bool_tuple b1 k2 hu0⟩
    | int i1 =>
      obtain ⟨t1, rfl⟩ := q1
      cases r2 with
      | non =>
        cases (show u' = Value.none from q2)
        cases h
        exact ⟨EqAt.int_none i1 t1, RcAt.int_none i1 t1, RcNeAt.int_none i1 t1⟩
      | bl b2 =>
        cases (show u' = Value.bool b2 from q2)
        cases h
        exact ⟨EqAt.int_bool i1 t1 b2, RcAt.int_bool i1 t1 b2, RcNeAt.int_bool i1 t1 b2⟩
      | int i2 =>
        obtain ⟨t2, rfl⟩ := q2
        cases h
        exact ⟨EqAt.int_int i1 t1 i2 t2, RcAt.int_int i1 t1 i2 t2, RcNeAt.int_int i1 t1 i2 t2⟩
      | str z2 =>
        obtain ⟨t2, rfl⟩ := q2
        cases h
        exact ⟨EqAt.int_str i1 t1 z2 t2, RcAt.int_str i1 t1 z2 t2, RcNeAt.int_str i1 t1 z2 t2⟩
      | @lst xs2 a2 vs2 h2 p2 =>
        cases (show u' = Value.ref a2 from q2); obtain ⟨its2, w2, k2⟩ := is_lst I h2
        cases h
        exact ⟨EqAt.int_list i1 t1 k2 hu0, RcAt.int_list i1 t1 k2 hu0, RcNeAt.int_list i1 t1 k2 hu0⟩
      | @tup xs2 a2 vs2 h2 p2 =>
        cases (show u' = Value.ref a2 from q2); obtain ⟨its2, w2, k2⟩ := is_tup I (hK ▸ h2)
        cases h
        exact ⟨EqAt.int_tuple i1 t1 k2 hu0, RcAt.int_tuple i1 t1 k2 hu0, RcNeAt.int_tuple i1 t1 k2 hu0⟩
    | str z1 =>
      obtain ⟨t1, rfl⟩ := q1
      cases r2 with
      | non =>
        cases (show u' = Value.none from q2)
        cases h
        exact ⟨EqAt.str_none z1 t1, RcAt.str_none z1 t1, RcNeAt.str_none z1 t1⟩
      | bl b2 =>
        cases (show u' = Value.bool b2 from q2)
        cases h
        exact ⟨EqAt.str_bool z1 t1 b2, RcAt.str_bool z1 t1 b2, RcNeAt.str_bool z1 t1 b2⟩
      | int i2 =>
        obtain ⟨t2, rfl⟩ := q2
        cases h
        exact ⟨EqAt.str_int z1 t1 i2 t2, RcAt.str_int z1 t1 i2 t2, RcNeAt.str_int z1 t1 i2 t2⟩
      | str z2 =>
        obtain ⟨t2, rfl⟩ := q2
        cases h
        exact ⟨EqAt.str_str z1 t1 z2 t2, RcAt.str_str z1 t1 z2 t2, RcNeAt.str_str z1 t1 z2 t2⟩
      | @lst xs2 a2 vs2 h2 p2 =>
        cases (show u' = Value.ref a2 from q2); obtain ⟨its2, w2, k2⟩ := is_lst I h2
        cases h
        exact ⟨EqAt.str_list z1 t1 k2 hu0, RcAt.str_list z1 t1 k2 hu0, RcNeAt.str_list z1 t1 k2 hu0⟩
      | @tup xs2 a2 vs2 h2 p2 =>
        cases (show u' = Value.ref a2 from q2); obtain ⟨its2, w2, k2⟩ := is_tup I (hK ▸ h2)
        cases h
        exact ⟨EqAt.str_tuple z1 t1 k2 hu0, RcAt.str_tuple z1 t1 k2 hu0, RcNeAt.str_tuple z1 t1 k2 hu0⟩
    | @lst xs1 a1 vs1 h1 p1 =>
      cases (show u = Value.ref a1 from q1); obtain ⟨its1, w1, k1⟩ := is_lst I h1
      cases r2 with
      | non =>
        cases (show u' = Value.none from q2)
        cases h
        exact ⟨EqAt.list_none k1 hu0, RcAt.list_none k1 hu0, RcNeAt.list_none k1 hu0⟩
      | bl b2 =>
        cases (show u' = Value.bool b2 from q2)
        cases h
        exact ⟨EqAt.list_bool b2 k1 hu0, RcAt.list_bool b2 k1 hu0, RcNeAt.list_bool b2 k1 hu0⟩
      | int i2 =>
        obtain ⟨t2, rfl⟩ := q2
        cases h
        exact ⟨EqAt.list_int i2 t2 k1 hu0, RcAt.list_int i2 t2 k1 hu0, RcNeAt.list_int i2 t2 k1 hu0⟩
      | str z2 =>
        obtain ⟨t2, rfl⟩ := q2
        cases h
        exact ⟨EqAt.list_str z2 t2 k1 hu0, RcAt.list_str z2 t2 k1 hu0, RcNeAt.list_str z2 t2 k1 hu0⟩
      | @lst xs2 a2 vs2 h2 p2 =>
        cases (show u' = Value.ref a2 from q2); obtain ⟨its2, w2, k2⟩ := is_lst I h2
        unfold eqT at h
        simp only at h
        have n1 : its1.toArray.size = xs1.length := by rw [p1.length, w1.length]; simp
        have n2 : its2.toArray.size = xs2.length := by rw [p2.length, w2.length]; simp
        split at h
        · next hl =>
          have hsz : its1.toArray.size = its2.toArray.size := by omega
          have ha := eqZ_all h
          rw [← hl, Nat.min_self, ← n1] at ha
          have rc := RcAt.lists k1 k2 hsz hu0 (pairs p1 p2 w1 w2 h)
          have rn := RcNeAt.lists k1 k2 hsz hu0 (pairs p1 p2 w1 w2 h)
          rw [ha] at rc rn
          refine ⟨?_, rc, rn⟩
          by_cases ea : a1 = a2
          · subst ea
            rw [hs rfl]
            exact EqAt.same _
          · exact EqAt.of_refs ea rc
        · next hl =>
          cases h
          have hsz : (its1.toArray.size != its2.toArray.size) = true := by
            rw [bne_iff_ne]; omega
          have rc := RcAt.lists_lengths k1 k2 hsz hu0
          refine ⟨?_, rc, RcNeAt.lists_lengths k1 k2 hsz hu0⟩
          by_cases ea : a1 = a2
          · subst ea
            exact absurd (hs rfl) (by decide)
          · exact EqAt.of_refs ea rc
      | @tup xs2 a2 vs2 h2 p2 =>
        cases (show u' = Value.ref a2 from q2); obtain ⟨its2, w2, k2⟩ := is_tup I (hK ▸ h2)
        cases h
        exact ⟨EqAt.list_tuple k1 k2 hu0, RcAt.list_tuple k1 k2 hu0, RcNeAt.list_tuple k1 k2 hu0⟩
    | @tup xs1 a1 vs1 h1 p1 =>
      cases (show u = Value.ref a1 from q1); obtain ⟨its1, w1, k1⟩ := is_tup I (hK ▸ h1)
      cases r2 with
      | non =>
        cases (show u' = Value.none from q2)
        cases h
        exact ⟨EqAt.tuple_none k1 hu0, RcAt.tuple_none k1 hu0, RcNeAt.tuple_none k1 hu0⟩
      | bl b2 =>
        cases (show u' = Value.bool b2 from q2)
        cases h
        exact ⟨EqAt.tuple_bool b2 k1 hu0, RcAt.tuple_bool b2 k1 hu0, RcNeAt.tuple_bool b2 k1 hu0⟩
      | int i2 =>
        obtain ⟨t2, rfl⟩ := q2
        cases h
        exact ⟨EqAt.tuple_int i2 t2 k1 hu0, RcAt.tuple_int i2 t2 k1 hu0, RcNeAt.tuple_int i2 t2 k1 hu0⟩
      | str z2 =>
        obtain ⟨t2, rfl⟩ := q2
        cases h
        exact ⟨EqAt.tuple_str z2 t2 k1 hu0, RcAt.tuple_str z2 t2 k1 hu0, RcNeAt.tuple_str z2 t2 k1 hu0⟩
      | @lst xs2 a2 vs2 h2 p2 =>
        cases (show u' = Value.ref a2 from q2); obtain ⟨its2, w2, k2⟩ := is_lst I h2
        cases h
        exact ⟨EqAt.tuple_list k1 k2 hu0, RcAt.tuple_list k1 k2 hu0, RcNeAt.tuple_list k1 k2 hu0⟩
      | @tup xs2 a2 vs2 h2 p2 =>
        cases (show u' = Value.ref a2 from q2); obtain ⟨its2, w2, k2⟩ := is_tup I (hK ▸ h2)
        unfold eqT at h
        simp only [Option.map_eq_some_iff] at h
        obtain ⟨c, h, hc⟩ := h
        have n1 : its1.toArray.size = xs1.length := by rw [p1.length, w1.length]; simp
        have n2 : its2.toArray.size = xs2.length := by rw [p2.length, w2.length]; simp
        have ha := eqZ_all h
        have rc := RcAt.tuples k1 k2 hu0 (pairs p1 p2 w1 w2 h)
        have rn := RcNeAt.tuples k1 k2 hu0 (pairs p1 p2 w1 w2 h)
        rw [n1, n2, ha, hc] at rc rn
        refine ⟨?_, rc, rn⟩
        by_cases ea : a1 = a2
        · subst ea
          rw [hs rfl]
          exact EqAt.same _
        · exact EqAt.of_refs ea rc
end
end EF

/-! EG: comparisons as operations; truth. -/
namespace EF
open PySem PySem.Spec PyProof.Rows L2

def cpOf : Cop → CmpOp
  | .eq => .Eq
  | .ne => .NotEq
  | .lt => .Lt
  | .le => .LtE
  | .gt => .Gt
  | .ge => .GtE
  | .is => .Is
  | .isnot => .IsNot
  | .inn => .In
  | .notin => .NotIn
def rCmp (G : Gx) (n0 : Nat) (op : Cop) : R2 := fun x y H Q => ∃ (s : Sit) (d e : D) (b : Bool), s.H = H ∧ OkS G n0 s ∧ Rep G s.ρ s.S d x ∧ Rep G s.ρ s.S e y ∧ cmpD s.ν op d e = some b ∧ Give G n0 s (.bl b) Q
section
variable {X : Cx} {G : Gx} {n0 : Nat} {x : Sit}
theorem rep_flat {xs : List D} {vs : List V} {ρ : List Addr} {S : Hp} (h : Reps G ρ S xs vs) (f : xs.all flat = true) : vs.all flatV = true := by
  induction xs generalizing vs with
  | nil => cases h; rfl
  | cons d ds ih =>
    cases h with
    | cons h r =>
      rw [List.all_cons, Bool.and_eq_true] at f
      rw [List.all_cons, ih r f.2, Bool.and_true]
      have f1 := f.1
      cases h <;> first | rfl | (exfalso; simp [flat] at f1; done)
theorem rep_flat1 {d : D} {v : V} {ρ : List Addr} {S : Hp} (h : Rep G ρ S d v) (f : flat d = true) : flatV v = true := by
  cases h <;> first | rfl | (exfalso; simp [flat] at f; done)
theorem eqV_of {d e : D} {v w : V} {ρ : List Addr} {S : Hp} (h : Rep G ρ S d v) (k : Rep G ρ S e w) (f : flat d = true) (g : flat e = true) : (eqD d e).getD false = eqV v w := by
  cases h <;> first | (exfalso; simp [flat] at f; done) | (cases k <;> first | (exfalso; simp [flat] at g; done) | (simp [eqD, eqT, kindD, eqV]; done) | (simp [eqD, eqT, kindD, eqV, Bool.beq_eq_decide_eq]; done))
theorem inV_of {d : D} {v : V} {ρ : List Addr} {S : Hp} (h : Rep G ρ S d v) (f : flat d = true) : ∀ {xs : List D} {vs : List V}, Reps G ρ S xs vs → xs.all flat = true → (xs.any fun y => (eqD y d).getD false) = inV v vs
  | _, _, .nil, _ => rfl
  | _, _, .cons k r, g => by
    rw [List.all_cons, Bool.and_eq_true] at g
    rw [List.any_cons, eqV_of k h g.1 f, inV_of h f r g.2]
    rfl
theorem contains_of {kvs : List (Key × V)} {k : Key} : (kvs.map fun kv => DK.one kv.1).contains (.one k) = (valV kvs k).isSome := by
  induction kvs with
  | nil => rfl
  | cons p r ih =>
    rw [List.map_cons, List.contains_cons, ih]
    by_cases e : p.1 = k
    · rw [valV_pos e]; simp [e]
    · rw [valV_neg e]
      have : (DK.one k == DK.one p.1) = false := by
        rw [beq_eq_false_iff_ne]
        intro z
        cases z
        exact e rfl
      rw [this, Bool.false_or]
theorem is_one {A : Around} {M : Model} {E : Value → Shared → Prop} {s : Shared} {d : D} {v : V} {u : Value} {ρ : List Addr} {S : Hp} {c : Value} {R : Bool → Shared → Prop} (r : RelV v u) (hc : c = .none ∨ ∃ b, c = .bool b) (q : R (u == c) s) : wpAny M A (isSame u c) R E s := by
  have : plainIs u c = true := by
    rcases hc with rfl | ⟨b, rfl⟩ <;> cases v <;> first | (cases (show u = _ from r); rfl) | (obtain ⟨t, rfl⟩ := r; rfl)
  exact wpAny_isSame_plain this q
theorem eqZ_refl {pins : List (Addr × Obj)} {σ : L2.St} {s : Shared} (hK : G.K = X.K) (I : L2.Inv X pins σ x.H s) (ok : OkS G n0 x) {n : Nat} : ∀ {xs ys : List D} {vs : List V} {b : Bool}, Reps G x.ρ x.S xs vs → Reps G x.ρ x.S ys vs → eqZ (eqT n) xs ys = some b → b = true
  | [], _, _, _, q1, q2, h => by cases q1; cases q2; unfold eqZ at h; cases h; rfl
  | z :: zs, ys, vs, b, q1, q2, h => by
    cases q1 with
    | cons p1 q1 =>
      cases q2 with
      | cons p2 q2 =>
        unfold eqZ at h
        split at h
        · next a c e1 e2 =>
          cases h
          rw [eqT_refl hK I ok n _ _ _ _ p1 p2 e1, eqZ_refl hK I ok q1 q2 e2]
          rfl
        · cases h
theorem bears_refl {pins : List (Addr × Obj)} {σ : L2.St} {s : Shared} (hK : G.K = X.K) (I : L2.Inv X pins σ x.H s) (ok : OkS G n0 x) {n : Nat} {d e : D} {v : V} {b : Bool} (r1 : Bears G x d v) (r2 : Bears G x e v) (h : eqT n d e = some b) : b = true := by
  cases n with
  | zero => cases h
  | succ n =>
    cases r1 with
    | non => cases r2; simp [eqT] at h; exact h
    | bl c => cases r2; simp [eqT] at h; exact h
    | int i => cases r2; simp [eqT] at h; exact h
    | str z => cases r2; simp [eqT] at h; exact h
    | @lst xs a vs h1 q1 =>
      cases r2 with
      | @lst ys _ ws h2 q2 =>
        rw [h1] at h2
        cases h2
        have hl : xs.length = ys.length := q1.length.trans q2.length.symm
        unfold eqT at h
        simp only [hl, if_true] at h
        exact eqZ_refl hK I ok q1 q2 h
      | tup h2 _ => exact (lst_tup I h1 (hK ▸ h2)).elim
    | @tup xs a vs h1 q1 =>
      cases r2 with
      | lst h2 _ => exact (lst_tup I h2 (hK ▸ h1)).elim
      | @tup ys _ ws h2 q2 =>
        have e1 : vs = ws := I.tuple_inj (hK ▸ h1) (hK ▸ h2)
        subst e1
        have hl : xs.length = ys.length := q1.length.trans q2.length.symm
        unfold eqT at h
        simp only [Option.map_eq_some_iff] at h
        obtain ⟨c, e2, e3⟩ := h
        rw [eqZ_refl hK I ok q1 q2 e2, hl] at e3
        simpa using e3.symm
theorem rep_non {d : D} {v : V} {ρ : List Addr} {S : Hp} (h : Rep G ρ S d v) : (decide (v = .non)) = isNonD d := by
  cases h <;> rfl
theorem rep_bl {d : D} {v : V} {u : Value} {c : Bool} {ρ : List Addr} {S : Hp} (h : Rep G ρ S d v) (r : RelV v u) : (u == .bool c) = isBlD c d := by
  cases h with
  | bl b =>
    cases (show u = _ from r)
    cases b <;> cases c <;> rfl
  | int i => obtain ⟨t, rfl⟩ := r; rfl
  | str i => obtain ⟨t, rfl⟩ := r; rfl
  | non => cases (show u = _ from r); rfl
  | _ => cases (show u = _ from r); rfl
theorem Rep.intV {i : Int} {v : V} {ρ : List Addr} {S : Hp} (h : Rep G ρ S (.int i) v) : v = .int i := by cases h; rfl
theorem Rep.strV {i : Str} {v : V} {ρ : List Addr} {S : Hp} (h : Rep G ρ S (.str i) v) : v = .str i := by cases h; rfl
theorem Rep.blV {i : Bool} {v : V} {ρ : List Addr} {S : Hp} (h : Rep G ρ S (.bl i) v) : v = .bl i := by cases h; rfl
theorem Rep.nonV {v : V} {ρ : List Addr} {S : Hp} (h : Rep G ρ S .non v) : v = .non := by cases h; rfl
theorem op_cmp (hK : G.K = X.K) (hu : X.A.units + 8 < cLine) (op : Cop) : OpR X (compareOp (cpOf op)) (rCmp G n0 op) := by
  intro pins s σ H v w u u' Q I rx ry h
  obtain ⟨t, d, e, b, rfl, ok, rd, re, hb, g⟩ := h
  have fin : Q (.bl b) t.H := g.here ok (.bl b)
  cases op with
  | eq =>
    have hb : eqT 6 (un t.ν d) (un t.ν e) = some b := hb
    obtain ⟨z1, z2⟩ := eqT_kind hb
    have b1 := rd.bearsU ok z1
    have b2 := re.bearsU ok z2
    obtain ⟨_, q, _⟩ := eqAt_of hK I ok 6 (un t.ν d) (un t.ν e) v w u u' b X.A b1 b2 rx ry hb (fun z => by
      subst z
      exact bears_refl hK I ok b1 b2 hb) (by omega)
    exact q X.prog X.w X.xe _ (fin_bl I fin rfl)
  | ne =>
    have hb : (eqT 6 (un t.ν d) (un t.ν e)).map (!·) = some b := hb
    rw [Option.map_eq_some_iff] at hb
    obtain ⟨c, hc, rfl⟩ := hb
    have hb := hc
    obtain ⟨z1, z2⟩ := eqT_kind hb
    have b1 := rd.bearsU ok z1
    have b2 := re.bearsU ok z2
    obtain ⟨_, _, q⟩ := eqAt_of hK I ok 6 (un t.ν d) (un t.ν e) v w u u' c X.A b1 b2 rx ry hb (fun z => by
      subst z
      exact bears_refl hK I ok b1 b2 hb) (by omega)
    exact q X.prog X.w X.xe _ (fin_bl I fin rfl)
  | lt =>
    simp only [cmpD] at hb
    split at hb
    · cases hb; exact op_lt pins s σ _ _ _ _ _ Q I rx ry ⟨_, _, rd.intV, re.intV, fin⟩
    · cases hb; exact op_lt_str pins s σ _ _ _ _ _ Q I rx ry ⟨_, _, rd.strV, re.strV, fin⟩
    · cases hb
  | le =>
    simp only [cmpD] at hb
    split at hb
    · cases hb; exact op_le pins s σ _ _ _ _ _ Q I rx ry ⟨_, _, rd.intV, re.intV, fin⟩
    · cases hb; exact op_le_str pins s σ _ _ _ _ _ Q I rx ry ⟨_, _, rd.strV, re.strV, fin⟩
    · cases hb
  | gt =>
    simp only [cmpD] at hb
    split at hb
    · cases hb; exact op_gt pins s σ _ _ _ _ _ Q I rx ry ⟨_, _, rd.intV, re.intV, fin⟩
    · cases hb; exact op_gt_str pins s σ _ _ _ _ _ Q I rx ry ⟨_, _, rd.strV, re.strV, fin⟩
    · cases hb
  | ge =>
    simp only [cmpD] at hb
    split at hb
    · cases hb; exact op_ge pins s σ _ _ _ _ _ Q I rx ry ⟨_, _, rd.intV, re.intV, fin⟩
    · cases hb; exact op_ge_str pins s σ _ _ _ _ _ Q I rx ry ⟨_, _, rd.strV, re.strV, fin⟩
    · cases hb
  | is =>
    simp only [cmpD] at hb
    split at hb
    · cases hb
      exact op_isN pins s σ _ _ _ _ _ Q I rx ry ⟨re.nonV, by rw [rep_non rd]; exact fin⟩
    · cases hb
      cases re
      cases (show u' = _ from ry)
      show wpAny _ _ ((isSame u (Value.bool _)) >>= fun z => pure (Value.bool z)) _ _ s
      refine wpAny_bind (is_one (ρ := t.ρ) (S := t.S) (d := d) rx (.inr ⟨_, rfl⟩) (wpAny_pure (fin_bl I fin ?_)))
      rw [rep_bl rd rx]
    · cases hb
  | isnot =>
    simp only [cmpD] at hb
    split at hb
    · cases hb
      refine op_notN pins s σ _ _ _ _ _ Q I rx ry ⟨re.nonV, ?_⟩
      rw [rep_non rd]
      exact fin
    · cases hb
      cases re
      cases (show u' = _ from ry)
      show wpAny _ _ ((isSame u (Value.bool _)) >>= fun z => pure (Value.bool (!z))) _ _ s
      refine wpAny_bind (is_one (ρ := t.ρ) (S := t.S) (d := d) rx (.inr ⟨_, rfl⟩) (wpAny_pure (fin_bl I fin ?_)))
      rw [rep_bl rd rx]
    · cases hb
  | inn =>
    simp only [cmpD] at hb
    split at hb
    · next c z h1 =>
      have e1 := rd.strV
      have e2 := un_str ok re h1
      unfold inS at hb
      split at hb
      · next a ha =>
        cases hb
        have : c = ⟨#[a]⟩ := by
          cases c
          exact congrArg Str.mk (Array.toList_inj.mp ha)
        exact op_in_sign pins s σ _ _ _ _ _ Q I rx ry ⟨a, z, by rw [e1, this], e2, fin⟩
      · cases hb
    · next xs h1 h2 =>
      unfold inL at hb
      split at hb
      · next hf =>
        cases hb
        rw [Bool.and_eq_true] at hf
        obtain ⟨p, vs, e2, s2, r2⟩ := un_lst ok re h2
        refine op_in_seq pins s σ _ _ _ _ _ Q I rx ry ⟨p, vs, e2, .inl (SqL.of s2), rep_flat1 rd hf.1, rep_flat r2 hf.2, ?_⟩
        rw [inV_of rd hf.1 r2 hf.2] at fin
        exact fin
      · cases hb
    · next xs h1 h2 =>
      unfold inL at hb
      split at hb
      · next hf =>
        cases hb
        rw [Bool.and_eq_true] at hf
        obtain ⟨_, p, vs, e2, s2, r2⟩ := un_tup ok re h2
        refine op_in_seq pins s σ _ _ _ _ _ Q I rx ry ⟨p, vs, e2, .inr (hK ▸ s2), rep_flat1 rd hf.1, rep_flat r2 hf.2, ?_⟩
        rw [inV_of rd hf.1 r2 hf.2] at fin
        exact fin
      · cases hb
    · next k ks ds h1 =>
      cases hb
      obtain ⟨p, e2, kvs, h2, rfl, r2⟩ := un_dct ok re h1
      subst e2
      cases (show u' = _ from ry)
      rw [contains_of] at fin
      exact d_in (by omega) I (show DGet t.H p (kV (.inr k)) (valV kvs (.inr k)) from .inl ⟨kvs, .inr k, h2, rfl, rfl⟩) (show RelV (.str k) u by rw [← rd.strV]; exact rx) fun s' I' => ⟨.bl _, _, I', rfl, fin⟩
    · cases hb
  | notin =>
    simp only [cmpD] at hb
    split at hb
    · next c z h1 =>
      have e1 := rd.strV
      have e2 := un_str ok re h1
      unfold inS at hb
      rw [Option.map_eq_some_iff] at hb
      obtain ⟨c', hb, rfl⟩ := hb
      split at hb
      · next a ha =>
        cases hb
        have : c = ⟨#[a]⟩ := by
          cases c
          exact congrArg Str.mk (Array.toList_inj.mp ha)
        exact op_notIn_sign pins s σ _ _ _ _ _ Q I rx ry ⟨a, z, by rw [e1, this], e2, fin⟩
      · cases hb
    · next xs h1 h2 =>
      unfold inL at hb
      rw [Option.map_eq_some_iff] at hb
      obtain ⟨c', hb, rfl⟩ := hb
      split at hb
      · next hf =>
        cases hb
        rw [Bool.and_eq_true] at hf
        obtain ⟨p, vs, e2, s2, r2⟩ := un_lst ok re h2
        refine op_notIn_seq pins s σ _ _ _ _ _ Q I rx ry ⟨p, vs, e2, .inl (SqL.of s2), rep_flat1 rd hf.1, rep_flat r2 hf.2, ?_⟩
        rw [inV_of rd hf.1 r2 hf.2] at fin
        exact fin
      · cases hb
    · next xs h1 h2 =>
      unfold inL at hb
      rw [Option.map_eq_some_iff] at hb
      obtain ⟨c', hb, rfl⟩ := hb
      split at hb
      · next hf =>
        cases hb
        rw [Bool.and_eq_true] at hf
        obtain ⟨_, p, vs, e2, s2, r2⟩ := un_tup ok re h2
        refine op_notIn_seq pins s σ _ _ _ _ _ Q I rx ry ⟨p, vs, e2, .inr (hK ▸ s2), rep_flat1 rd hf.1, rep_flat r2 hf.2, ?_⟩
        rw [inV_of rd hf.1 r2 hf.2] at fin
        exact fin
      · cases hb
    · next k ks ds h1 =>
      cases hb
      obtain ⟨p, e2, kvs, h2, rfl, r2⟩ := un_dct ok re h1
      subst e2
      cases (show u' = _ from ry)
      rw [contains_of] at fin
      exact d_notIn (by omega) I (show DGet t.H p (kV (.inr k)) (valV kvs (.inr k)) from .inl ⟨kvs, .inr k, h2, rfl, rfl⟩) (show RelV (.str k) u by rw [← rd.strV]; exact rx) fun s' I' => ⟨.bl _, _, I', rfl, fin⟩
    · cases hb
end
end EF

/-! EH: truth, isinstance, built-in functions. -/
namespace EF
open PySem PySem.Spec PyProof.Rows L2

section
variable {X : Cx} {G : Gx} {n0 : Nat} {x : Sit}
theorem Reps.emp {ρ : List Addr} {S : Hp} {ds : List D} {vs : List V} (r : Reps G ρ S ds vs) : ds.isEmpty = vs.isEmpty := by cases r <;> rfl
/-- truth, as the library asks it -/
def TruW (K : PySem.W.Frag) (v : V) (H : Hp) (k : Bool) : Prop := TruV K v H k ∨ ∃ p kvs, v = .ref p ∧ Rd H p (.dK kvs) ∧ k = !kvs.isEmpty
theorem truW_ok : TruR X (fun x H Q => ∃ k, TruW X.K x H k ∧ Q k H) := by
  intro pins s σ H x v Q I rx h
  obtain ⟨k, h | ⟨p, kvs, rfl, hd, rfl⟩, q⟩ := h
  · exact tru_ok pins s σ H x v Q I rx ⟨k, h, q⟩
  · cases (show v = _ from rx)
    exact d_truth I hd fun s' I' => ⟨H, I', q⟩
theorem tru_of (hK : G.K = X.K) (ok : OkS G n0 x) {d : D} {v : V} {k : Bool} (r : Rep G x.ρ x.S d v) (h : tru (un x.ν d) = some k) : TruW X.K v x.H k := by
  cases e : un x.ν d with
  | non => rw [e] at h; cases h; rw [un_non ok r e]; exact .inl rfl
  | bl b => rw [e] at h; cases h; rw [un_bl ok r e]; exact .inl rfl
  | int i => rw [e] at h; cases h; rw [un_int ok r e]; exact .inl rfl
  | str z =>
    rw [e] at h
    rw [un_str ok r e]
    simp only [tru] at h
    split at h
    · next hz =>
      cases h
      refine .inl ⟨hz, ?_⟩
      rw [Bool.eq_iff_iff]
      simp
    · cases h
  | lst xs =>
    rw [e] at h; cases h
    obtain ⟨p, vs, rfl, h1, h2⟩ := un_lst ok r e
    exact .inl (.inl ⟨vs, SqL.of h1, by rw [h2.emp]⟩)
  | tup xs =>
    rw [e] at h; cases h
    obtain ⟨_, p, vs, rfl, h1, h2⟩ := un_tup ok r e
    exact .inl (.inr (.inl ⟨vs, hK ▸ h1, by rw [h2.emp]⟩))
  | frz xs =>
    rw [e] at h; cases h
    obtain ⟨p, vs, rfl, h1, h2⟩ := un_frz ok r e
    exact .inl (.inl ⟨vs, hK ▸ h1, by rw [h2.emp]⟩)
  | dct ks ds =>
    rw [e] at h; cases h
    obtain ⟨p, rfl, kvs, h1, rfl, h2⟩ := un_dct ok r e
    exact .inr ⟨p, kvs, rfl, h1, by cases kvs <;> rfl⟩
  | _ => rw [e] at h; cases h
end

/-! ### isinstance -/
def tyName : Nat → String
  | 0 => "int"
  | 1 => "bool"
  | 2 => "str"
  | 3 => "list"
  | 4 => "tuple"
  | 5 => "dict"
  | _ => "NoneType"
def clsV (G : Gx) : Cl → V
  | .ty t => .ty (tyName t)
  | .own C => .ref (G.cad C)
def clsU (G : Gx) : Cl → Value
  | .ty t => .type (tyName t)
  | .own C => .ref (G.cad C)
def Cl.fit (n : Nat) : Cl → Bool
  | .ty t => decide (t < 6)
  | .own C => decide (C < n)
/-- what isinstance asks of own classes -/
structure ClsK (G : Gx) : Prop where
  ty : ∀ C, C < G.nC → Cls G.K (G.cad C) ∧ PySem.W.findIn G.K (.ref (G.cad C)) "__class__" = some (some (.builtin "object.__class__")) ∧
      PySem.W.specialIn G.K (.builtin "object.__class__") "__get__" = some (some (.builtin "getset_descriptor.__get__")) ∧ PySem.W.takesIn G.K (.builtin "object.__class__") = some true ∧ PySem.W.mroIn G.K (G.cad C) (.type "object") = some true
  kt : ∀ C, C < G.nC → ∀ t, t < 6 → PySem.W.kitOne G.K (.ref (G.cad C)) (.type (tyName t)) = some false
  ko : ∀ C C', C < G.nC → C' < G.nC → PySem.W.kitOne G.K (.ref (G.cad C)) (.ref (G.cad C')) = some (C == C')
  tk : ∀ C, C < G.nC → ∀ t, t < 7 → PySem.W.kitOne G.K (.type (tyName t)) (.ref (G.cad C)) = some false
section
variable {X : Cx} {G : Gx} {n0 : Nat} {x : Sit}
theorem kit_tt : ∀ t, t < 7 → ∀ u, u < 6 → kitB (tyName t) (tyName u) = some (t == u || (t == 1 && u == 0)) := by decide +kernel
/-- the type of what is borne -/
inductive TyD (G : Gx) (H : Hp) : D → V → Value → Prop where
  | ty {d : D} {v : V} {t : Nat} (h : TyX G.K H v (.type (tyName t))) (e : tyOf d = some t) (ht : t < 7) (ho : ∀ C ns vs, d ≠ .obj C ns vs) : TyD G H d v (.type (tyName t))
  | obj {C : Nat} {ns : List Nat} {vs : List D} {v : V} (h : TyX G.K H v (.ref (G.cad C))) (hC : C < G.nC) : TyD G H (.obj C ns vs) v (.ref (G.cad C))
theorem TyD.tyx {H : Hp} {d : D} {v : V} {t : Value} (T : TyD G H d v t) : TyX G.K H v t := by cases T <;> assumption
theorem tyX_lst {K : PySem.W.Frag} {H : Hp} {a : Addr} {vs : List V} (h : SqL K H a vs) : TyX K H (.ref a) (.type "list") := by
  rcases h with (h | ⟨o, h⟩) | ⟨o, its, n, h, hh⟩
  · exact .base (.lst h)
  · exact .base (.frz h)
  · exact .kList h hh.1
theorem tyX_tup {K : PySem.W.Frag} {H : Hp} {a : Addr} {vs : List V} (h : SqT K H a vs) : TyX K H (.ref a) (.type "tuple") := by
  rcases h with (h | ⟨o, h⟩) | ⟨o, its, n, h, hh⟩
  · exact .base (.tup h)
  · exact .fTuple h
  · exact .kTuple h hh.1
theorem tyD_of (F : ClsK G) (ok : OkS G n0 x) {d : D} {v : V} (r : Rep G x.ρ x.S d v) (h : un x.ν d ≠ .tok 0 ∧ ((tyOf (un x.ν d)).isSome = true ∨ ∃ C ns vs, un x.ν d = .obj C ns vs)) : ∃ t, TyD G x.H (un x.ν d) v t := by
  cases e : un x.ν d with
  | non => rw [un_non ok r e]; exact ⟨_, .ty (t := 6) (.base .non) rfl (by decide) (by simp)⟩
  | bl b => rw [un_bl ok r e]; exact ⟨_, .ty (t := 1) (.base (.bl b)) rfl (by decide) (by simp)⟩
  | int i => rw [un_int ok r e]; exact ⟨_, .ty (t := 0) (.base (.int i)) rfl (by decide) (by simp)⟩
  | str z => rw [un_str ok r e]; exact ⟨_, .ty (t := 2) (.base (.str z)) rfl (by decide) (by simp)⟩
  | lst xs =>
    obtain ⟨p, vs, rfl, h1, h2⟩ := un_lst ok r e
    exact ⟨_, .ty (t := 3) (.base (.lst h1)) rfl (by decide) (by simp)⟩
  | frz xs =>
    obtain ⟨p, vs, rfl, h1, h2⟩ := un_frz ok r e
    exact ⟨_, .ty (t := 3) (tyX_lst h1) rfl (by decide) (by simp)⟩
  | tup xs =>
    obtain ⟨_, p, vs, rfl, h1, h2⟩ := un_tup ok r e
    exact ⟨_, .ty (t := 4) (tyX_tup h1) rfl (by decide) (by simp)⟩
  | dct ks ds =>
    obtain ⟨p, rfl, kvs, h1, _, h2⟩ := un_dct ok r e
    exact ⟨_, .ty (t := 5) (by
      rcases h1 with h1 | ⟨o, h1⟩
      · exact .base (.dK h1)
      · exact .fDict h1) rfl (by decide) (by simp)⟩
  | obj C ns ds =>
    obtain ⟨p, dx, fs, rfl, h1, hC, _, _⟩ := un_obj ok r e
    obtain ⟨f1, f2, f3, f4, f5⟩ := F.ty C hC
    exact ⟨_, .obj (.base (.ins h1 f1 f2 f3 f4 f5)) hC⟩
  | wlk ks ds =>
    rw [e] at h
    rcases h.2 with z | ⟨_, _, _, z⟩ <;> cases z
  | tok n =>
    rw [e] at h
    rcases h.2 with z | ⟨_, _, _, z⟩ <;> cases z
theorem isi1_ok {d : D} {c : Cl} {b : Bool} {v : V} {t : Value} {H : Hp} (F : ClsK G) (hc : c.fit G.nC = true) (T : TyD G H d v t) (h : isi1 d c = some b) : PySem.W.kitOne G.K t (clsU G c) = some b := by
  cases T with
  | obj hx hC =>
    cases c with
    | ty u => cases h; exact F.kt _ hC u (by simpa [Cl.fit] using hc)
    | own C' => cases h; exact F.ko _ _ hC (by simpa [Cl.fit] using hc)
  | @ty d v t hx e ht ho =>
    have e1 : isi1 d c = (match c with
      | .ty u => some (t == u || (t == 1 && u == 0))
      | .own _ => some false) := by
      cases c <;> cases d <;> first | (exfalso; exact ho _ _ _ rfl) | (cases e; rfl) | cases e
    rw [e1] at h
    cases c with
    | ty u => rw [← h]; exact kit_ty (kit_tt t ht u (by simpa [Cl.fit] using hc))
    | own C' => rw [← h]; exact F.tk C' (by simpa [Cl.fit] using hc) t ht
theorem isiD_ok {d : D} {v : V} {t : Value} {H : Hp} (F : ClsK G) (T : TyD G H d v t) : ∀ {cs : List Cl} {b : Bool}, (cs.all (Cl.fit G.nC)) = true → isiD d cs = some b → PySem.W.kitAny G.K t (cs.map (clsU G)) = some b
  | [], b, _, h => by cases h; exact kitAny_nil
  | c :: cs, b, hc, h => by
    rw [List.all_cons, Bool.and_eq_true] at hc
    unfold isiD at h
    split at h
    · next a b' e1 e2 =>
      cases h
      refine kitAny_cons (isi1_ok F hc.1 T e1) (fun z => ?_) (fun z => by rw [z]; rfl)
      rw [z, Bool.false_or]
      exact isiD_ok F T hc.2 e2
    · cases h
theorem isi_some {d : D} {c : Cl} {cs : List Cl} {b : Bool} (h : isiD d (c :: cs) = some b) : d ≠ .tok 0 ∧ ((tyOf d).isSome = true ∨ ∃ C ns vs, d = .obj C ns vs) := by
  unfold isiD at h
  split at h
  · next a b' e1 e2 =>
    cases d <;> first | exact ⟨by simp, .inl rfl⟩ | exact ⟨by simp, .inr ⟨_, _, _, rfl⟩⟩ | (cases c <;> cases e1)
  · cases h
theorem clsV_ok (c : Cl) : ClsV (clsV G c) (clsU G c) := by
  cases c with
  | ty t => exact .ty _
  | own C => exact .own _
theorem clsVs_ok : ∀ cs : List Cl, Paired ClsV (cs.map (clsV G)) (cs.map (clsU G))
  | [] => .nil
  | c :: cs => .cons (clsV_ok c) (clsVs_ok cs)
/-- isinstance(x, c) or isinstance(x, (c, ..)): cp is the class, or the tuple just laid -/
def rIsiD (G : Gx) (n0 : Nat) (cs : List Cl) : List V → Hp → VK → Prop := fun vs H Q => ∃ (s : Sit) (d : D) (v cp : V) (b : Bool), vs = [v, cp] ∧ s.H = H ∧ OkS G n0 s ∧ Rep G s.ρ s.S d v ∧ isiD (un s.ν d) cs = some b ∧ Give G n0 s (.bl b) Q ∧
  ((∃ c, cs = [c] ∧ cp = clsV G c) ∨ ∃ tp, cp = .ref tp ∧ H tp = some (.tup (cs.map (clsV G))) ∧ cs ≠ [])
theorem call_isiD (hK : G.K = X.K) (F : ClsK G) {cs : List Cl} (hc : (cs.all (Cl.fit G.nC)) = true) : CallR X (.builtin "isinstance") (rIsiD G n0 cs) := by
  intro pins s σ H vs us Q I r h
  obtain ⟨t, d, v, cp, b, rfl, rfl, ok, rd, hb, g, hcp⟩ := h
  have fin : Q (.bl b) t.H := g.here ok (.bl b)
  rcases hcp with ⟨c, rfl, rfl⟩ | ⟨tp, rfl, hT, hne⟩
  · obtain ⟨ty, T⟩ := tyD_of F ok rd (isi_some hb)
    have e1 : isi1 (un t.ν d) c = some b := by
      unfold isiD at hb
      split at hb
      · next a b' e1 e2 =>
        cases e2
        rw [Bool.or_false] at hb
        rw [e1, hb]
      · cases hb
    have hx : TyX X.K t.H v ty := by rw [← hK]; exact T.tyx
    exact call_isi pins s σ _ _ us Q I r ⟨v, _, ty, _, b, rfl, clsV_ok c, hx, by rw [← hK]; exact isi1_ok F (by simpa using hc) T e1, fin⟩
  · cases cs with
    | nil => exact absurd rfl hne
    | cons c cs =>
      obtain ⟨ty, T⟩ := tyD_of F ok rd (isi_some hb)
      have hx : TyX X.K t.H v ty := by rw [← hK]; exact T.tyx
      exact call_isiT pins s σ _ _ us Q I r ⟨v, tp, _, ty, _, b, rfl, hT, clsVs_ok _, hx, by rw [← hK]; exact isiD_ok F T hc hb, fin⟩
end

/-! ### built-in functions -/
/-- a new value, perhaps as a token -/
def Mkd (G : Gx) (n0 : Nat) (nw : Bool) (x : Sit) (d : D) (Q : VK) : Prop := match nw with
  | false => Give G n0 x d Q
  | true => ∀ (v : V) (y : Sit), y.ν = x.ν ++ [d] → Ext n0 x y → OkS G n0 y → Rep G y.ρ y.S (.tok x.ν.length) v → Q v y.H
section
variable {X : Cx} {G : Gx} {n0 : Nat} {x : Sit} {nw : Bool} {d : D} {Q : VK}
theorem Mkd.of {W : WX} {σ : L2.St} (h : After G n0 (RepR G) W σ x (mkNew nw d) Q) : Mkd G n0 nw x d Q := by
  cases nw <;> exact h
theorem Mkd.new (h : Mkd G n0 nw x d Q) (a : OkS G n0 x) {o : HO} (n : Node G x.ρ x.S d o) : ∀ p, x.H p = none → Q (.ref p) (upd x.H p o) := fun p hp => by
  cases nw with
  | true =>
    obtain ⟨e1, e2, e3⟩ := a.layTok hp n
    exact h (.ref p) ⟨x.S, upd x.H p o, x.ρ ++ [p], x.ν ++ [d]⟩ rfl e1 e2 e3
  | false => exact Give.new h a n p hp
def biV : Bi → Value
  | .len => .builtin "len"
  | .int => .type "int"
  | .abs => .builtin "abs"
  | .gcd => .builtin "math.gcd"
  | .sum => .builtin "sum"
  | .all => .builtin "all"
  | .any => .builtin "any"
  | .tuple => .type "tuple"
  | .list => .type "list"
  | .str => .type "str"
  | .min2 => .builtin "min"
  | .max2 => .builtin "max"
  | .dict => .type "dict"
def rBi (G : Gx) (n0 : Nat) (nw : Bool) (b : Bi) : List V → Hp → VK → Prop := fun vs H Q => ∃ (s : Sit) (ds : List D) (r : D), s.H = H ∧ OkS G n0 s ∧ Reps G s.ρ s.S ds vs ∧ biD s.ν b ds = some r ∧ Mkd G n0 nw s r Q
theorem reps_intsD {ρ : List Addr} {S : Hp} : ∀ {ds : List D} {vs : List V} {ns : List Int}, Reps G ρ S ds vs → intsD ds = some ns → vs = ns.map V.int
  | [], _, ns, r, h => by cases r; cases h; rfl
  | d :: ds, _, ns, r, h => by
    cases r with
    | cons r1 r2 =>
      cases d <;> first | (cases h; done) | skip
      simp only [intsD, Option.map_eq_some_iff] at h
      obtain ⟨ms, h, rfl⟩ := h
      rw [r1.intV, reps_intsD r2 h]
      rfl
theorem reps_bools {ρ : List Addr} {S : Hp} : ∀ {ds : List D} {vs : List V} {ns : List Bool}, Reps G ρ S ds vs → bools ds = some ns → vs = ns.map V.bl
  | [], _, ns, r, h => by cases r; cases h; rfl
  | d :: ds, _, ns, r, h => by
    cases r with
    | cons r1 r2 =>
      cases d <;> first | (cases h; done) | skip
      simp only [bools, Option.map_eq_some_iff] at h
      obtain ⟨ms, h, rfl⟩ := h
      rw [r1.blV, reps_bools r2 h]
      rfl
theorem reps_strs {ρ : List Addr} {S : Hp} : ∀ {ds : List D} {vs : List V} {ns : List Str}, Reps G ρ S ds vs → strs' ds = some ns → vs = ns.map V.str
  | [], _, ns, r, h => by cases r; cases h; rfl
  | d :: ds, _, ns, r, h => by
    cases r with
    | cons r1 r2 =>
      cases d <;> first | (cases h; done) | skip
      simp only [strs', Option.map_eq_some_iff] at h
      obtain ⟨ms, h, rfl⟩ := h
      rw [r1.strV, reps_strs r2 h]
      rfl
theorem Reps.inv1 {ρ : List Addr} {S : Hp} {d : D} {vs : List V} (r : Reps G ρ S [d] vs) : ∃ v, vs = [v] ∧ Rep G ρ S d v := by
  cases r with
  | cons h t => cases t; exact ⟨_, rfl, h⟩
theorem Reps.inv2 {ρ : List Addr} {S : Hp} {d e : D} {vs : List V} (r : Reps G ρ S [d, e] vs) : ∃ v w, vs = [v, w] ∧ Rep G ρ S d v ∧ Rep G ρ S e w := by
  cases r with
  | cons h t =>
    obtain ⟨w, rfl, k⟩ := t.inv1
    exact ⟨_, _, rfl, h, k⟩
theorem Reps.map {ρ : List Addr} {S : Hp} {f : D → D} {g : V → V} (hf : ∀ d v, Rep G ρ S d v → Rep G ρ S (f d) (g v)) : ∀ {ds : List D} {vs : List V}, Reps G ρ S ds vs → Reps G ρ S (ds.map f) (vs.map g)
  | _, _, .nil => .nil
  | _, _, .cons h r => .cons (hf _ _ h) (Reps.map hf r)
/-- a dict's trees, put -/
theorem zip_ok {ρ : List Addr} {S : Hp} {k : Key} {d : D} {v : V} (hd : Rep G ρ S d v) : ∀ {kvs : List (Key × V)} {ds : List D}, Reps G ρ S ds (kvs.map (·.2)) →
    Reps G ρ S (List.zipWith (fun k' v' => if k' = DK.one k then d else v') (kvs.map fun kv => DK.one kv.1) ds) ((kvs.map fun kv => if kv.1 = k then (kv.1, v) else kv).map (·.2))
  | [], _, r => by cases r; exact .nil
  | p :: kvs, _, r => by
    cases r with
    | cons h r =>
      simp only [List.map_cons, List.zipWith_cons_cons]
      refine .cons ?_ (zip_ok hd r)
      by_cases e : p.1 = k
      · rw [if_pos e, if_pos (by rw [e])]; exact hd
      · rw [if_neg e, if_neg (fun z => e (DK.one.inj z))]; exact h
theorem putD_ok {ρ : List Addr} {S : Hp} {k : Key} {d : D} {v : V} (hd : Rep G ρ S d v) {kvs : List (Key × V)} {ds : List D} (r : Reps G ρ S ds (kvs.map (·.2))) :
    (putD (kvs.map fun kv => DK.one kv.1) ds (.one k) d).1 = (putK kvs k v).map (fun kv => DK.one kv.1) ∧ Reps G ρ S (putD (kvs.map fun kv => DK.one kv.1) ds (.one k) d).2 ((putK kvs k v).map (·.2)) := by
  unfold putD putK
  rw [contains_of, valV_any]
  by_cases e : (valV kvs k).isSome = true
  · rw [if_pos e, if_pos e]
    refine ⟨?_, zip_ok hd r⟩
    rw [List.map_map]
    refine List.map_congr_left fun p _ => ?_
    show _ = DK.one (if p.1 = k then (p.1, v) else p).1
    by_cases h : p.1 = k
    · rw [if_pos h]
    · rw [if_neg h]
  · rw [if_neg e, if_neg e]
    refine ⟨by simp, ?_⟩
    rw [List.map_append]
    exact r.append (.cons hd .nil)
/-- dict(pairs) -/
theorem dictOf_ok (ok : OkS G n0 x) : ∀ {xs : List D} {vs : List V} {kvs : List (Key × V)} {ds : List D} {r : D}, Reps G x.ρ x.S xs vs → Reps G x.ρ x.S ds (kvs.map (·.2)) → dictOf xs (kvs.map fun kv => DK.one kv.1) ds = some r →
    ∃ (ps : List Addr) (more : List (Key × V)) (ds' : List D), vs = ps.map V.ref ∧ Paired (fun p kv => SqT G.K x.H p [kV kv.1, kv.2]) ps more ∧ r = .dct ((mergeK kvs more).map fun kv => DK.one kv.1) ds' ∧ Reps G x.ρ x.S ds' ((mergeK kvs more).map (·.2))
  | [], _, kvs, ds, r, h1, h2, h => by
    cases h1
    cases h
    exact ⟨[], [], ds, rfl, .nil, rfl, h2⟩
  | d :: xs, _, kvs, ds, r, h1, h2, h => by
    cases h1 with
    | cons r1 r2 =>
      unfold dictOf at h
      split at h
      · next hz => cases hz
      · next k v' rest hz =>
        cases hz
        cases r1 with
        | @tup _ p ws hs q =>
          obtain ⟨w1, w2, rfl, q1, q2⟩ := q.inv2
          obtain ⟨p1, p2⟩ := putD_ok (k := .inr k) q2 h2
          rw [p1] at h
          obtain ⟨ps, more, ds', z1, z2, z3, z4⟩ := dictOf_ok ok r2 p2 h
          refine ⟨p :: ps, (.inr k, w2) :: more, ds', by rw [z1]; rfl, .cons ?_ z2, z3, z4⟩
          rw [q1.strV] at hs
          exact sqT_mono ok.sub.h hs
      · cases h
theorem rBi_ok (hK : G.K = X.K) (hc : X.calm = true) (b : Bi) (hb : nw = true → b.new = true) : CallR X (biV b) (rBi G n0 nw b) := by
  intro pins s σ H vs us Q I r h
  obtain ⟨t, ds, r0, rfl, ok, rd, hr, g⟩ := h
  have give : nw = false → Give G n0 t r0 Q := fun z => by subst z; exact g
  have low : b.new = false → Give G n0 t r0 Q := fun z => give (by
    cases nw with
    | false => rfl
    | true => rw [hb rfl] at z; cases z)
  cases b with
  | len =>
    simp only [biD] at hr
    split at hr
    · next d =>
      rw [Option.map_eq_some_iff] at hr
      obtain ⟨n, hn, rfl⟩ := hr
      obtain ⟨v, rfl, r1⟩ := rd.inv1
      have fin : Q (.int n) t.H := (low rfl).here ok (.int _)
      cases e : un t.ν d with
      | str z =>
        rw [e] at hn
        simp only [lenD] at hn
        split at hn
        · next hz => cases hn; exact call_len pins s σ _ _ us Q I r ⟨_, _, rfl, (show LenV X.K v t.H z.length by rw [un_str ok r1 e]; exact ⟨hz, rfl⟩), fin⟩
        · cases hn
      | lst xs =>
        rw [e] at hn; cases hn
        obtain ⟨p, ws, rfl, h1, h2⟩ := un_lst ok r1 e
        exact call_len pins s σ _ _ us Q I r ⟨_, _, rfl, .inl ⟨ws, SqL.of h1, h2.length⟩, fin⟩
      | frz xs =>
        rw [e] at hn; cases hn
        obtain ⟨p, ws, rfl, h1, h2⟩ := un_frz ok r1 e
        exact call_len pins s σ _ _ us Q I r ⟨_, _, rfl, .inl ⟨ws, hK ▸ h1, h2.length⟩, fin⟩
      | tup xs =>
        rw [e] at hn; cases hn
        obtain ⟨_, p, ws, rfl, h1, h2⟩ := un_tup ok r1 e
        exact call_len pins s σ _ _ us Q I r ⟨_, _, rfl, .inr ⟨ws, hK ▸ h1, h2.length⟩, fin⟩
      | dct ks ws =>
        rw [e] at hn; cases hn
        obtain ⟨p, rfl, kvs, h1, rfl, h2⟩ := un_dct ok r1 e
        obtain ⟨u, rfl, rx⟩ := vals1 r
        cases (show u = _ from rx)
        rw [List.length_map] at fin
        exact d_len I h1 fun tk s2 I2 => ⟨.int _, _, I2, ⟨tk, rfl⟩, fin⟩
      | _ => rw [e] at hn; cases hn
    · cases hr
  | int =>
    simp only [biD] at hr
    split at hr
    · cases hr
      obtain ⟨v, rfl, r1⟩ := rd.inv1
      cases r1
      exact call_int1 pins s σ _ _ us Q I r (.inl ⟨_, rfl, (low rfl).here ok (.int _)⟩)
    · cases hr
      obtain ⟨v, rfl, r1⟩ := rd.inv1
      cases r1
      exact call_int1 pins s σ _ _ us Q I r (.inr ⟨_, rfl, (low rfl).here ok (.int _)⟩)
    · split at hr
      · next hz =>
        rw [Option.map_eq_some_iff] at hr
        obtain ⟨n, hn, rfl⟩ := hr
        obtain ⟨v, rfl, r1⟩ := rd.inv1
        cases r1
        exact call_int_str pins s σ _ _ us Q I r ⟨_, n, rfl, hn, hz, (low rfl).here ok (.int _)⟩
      · cases hr
    · cases hr
  | abs =>
    simp only [biD] at hr
    split at hr
    · cases hr
      obtain ⟨v, rfl, r1⟩ := rd.inv1
      cases r1
      exact call_abs pins s σ _ _ us Q I r ⟨_, rfl, (low rfl).here ok (.int _)⟩
    · cases hr
  | gcd =>
    simp only [biD] at hr
    split at hr
    · cases hr
      obtain ⟨v, w, rfl, r1, r2⟩ := rd.inv2
      cases r1
      cases r2
      exact cr_gcd pins s σ _ _ us Q I r ⟨_, _, rfl, (low rfl).here ok (.int _)⟩
    · cases hr
  | sum =>
    simp only [biD] at hr
    split at hr
    · next d =>
      split at hr
      · next xs e =>
        rw [Option.map_eq_some_iff] at hr
        obtain ⟨n, hn, rfl⟩ := hr
        obtain ⟨v, rfl, r1⟩ := rd.inv1
        obtain ⟨p, ws, rfl, h1, h2⟩ := un_lst ok r1 e
        rw [reps_intsD h2 hn] at h1
        exact cr_sum hc pins s σ _ _ us Q I r ⟨p, n, rfl, SqL.of h1, (low rfl).here ok (.int _)⟩
      · cases hr
    · cases hr
  | all =>
    simp only [biD] at hr
    split at hr
    · next d =>
      split at hr
      · next xs e =>
        rw [Option.map_eq_some_iff] at hr
        obtain ⟨n, hn, rfl⟩ := hr
        obtain ⟨v, rfl, r1⟩ := rd.inv1
        obtain ⟨p, ws, rfl, h1, h2⟩ := un_lst ok r1 e
        rw [reps_bools h2 hn] at h1
        exact cr_all hc pins s σ _ _ us Q I r ⟨p, n, rfl, SqL.of h1, (low rfl).here ok (.bl _)⟩
      · cases hr
    · cases hr
  | any =>
    simp only [biD] at hr
    split at hr
    · next d =>
      split at hr
      · next xs e =>
        rw [Option.map_eq_some_iff] at hr
        obtain ⟨n, hn, rfl⟩ := hr
        obtain ⟨v, rfl, r1⟩ := rd.inv1
        obtain ⟨p, ws, rfl, h1, h2⟩ := un_lst ok r1 e
        rw [reps_bools h2 hn] at h1
        exact cr_any hc pins s σ _ _ us Q I r ⟨p, n, rfl, SqL.of h1, (low rfl).here ok (.bl _)⟩
      · cases hr
    · cases hr
  | tuple =>
    simp only [biD] at hr
    split at hr
    · next d =>
      obtain ⟨v, rfl, r1⟩ := rd.inv1
      split at hr
      · next xs e =>
        cases hr
        obtain ⟨p, ws, rfl, h1, h2⟩ := un_lst ok r1 e
        exact call_tuple_of pins s σ _ _ us Q I r ⟨p, ws, rfl, .inl ⟨SqL.of h1, (low rfl).newT ok h2⟩⟩
      · next xs e =>
        cases hr
        obtain ⟨rfl, p, ws, rfl, h1, h2⟩ := un_tup ok r1 e
        exact call_tuple_of pins s σ _ _ us Q I r ⟨p, ws, rfl, .inr ⟨hK ▸ h1, (low rfl).here ok r1⟩⟩
      · cases hr
    · cases hr
  | list =>
    simp only [biD] at hr
    split at hr
    · next d =>
      obtain ⟨v, rfl, r1⟩ := rd.inv1
      split at hr
      · next xs e =>
        cases hr
        obtain ⟨p, ws, rfl, h1, h2⟩ := un_lst ok r1 e
        exact call_list_of pins s σ _ _ us Q I r ⟨p, ws, rfl, .inl (SqL.of h1), g.new ok (.lst h2)⟩
      · next xs e =>
        cases hr
        obtain ⟨_, p, ws, rfl, h1, h2⟩ := un_tup ok r1 e
        exact call_list_of pins s σ _ _ us Q I r ⟨p, ws, rfl, .inr (hK ▸ h1), g.new ok (.lst h2)⟩
      · cases hr
    · cases hr
  | str =>
    simp only [biD] at hr
    split at hr
    · split at hr
      · next hz =>
        cases hr
        obtain ⟨v, rfl, r1⟩ := rd.inv1
        cases r1
        exact call_str_int pins s σ _ _ us Q I r ⟨_, rfl, hz, (low rfl).here ok (.str _)⟩
      · cases hr
    · cases hr
  | min2 =>
    simp only [biD] at hr
    split at hr
    · cases hr
      obtain ⟨v, w, rfl, r1, r2⟩ := rd.inv2
      cases r1
      cases r2
      exact call_min2 hc pins s σ _ _ us Q I r ⟨_, _, rfl, (low rfl).here ok (.int _)⟩
    · cases hr
  | max2 =>
    simp only [biD] at hr
    split at hr
    · cases hr
      obtain ⟨v, w, rfl, r1, r2⟩ := rd.inv2
      cases r1
      cases r2
      exact call_max2 hc pins s σ _ _ us Q I r ⟨_, _, rfl, (low rfl).here ok (.int _)⟩
    · cases hr
  | dict =>
    simp only [biD] at hr
    split at hr
    · next d =>
      obtain ⟨v, rfl, r1⟩ := rd.inv1
      split at hr
      · next xs e =>
        obtain ⟨p, ws, rfl, h1, h2⟩ := un_lst ok r1 e
        obtain ⟨ps, more, ds', rfl, z2, rfl, z4⟩ := dictOf_ok (kvs := []) ok h2 .nil hr
        exact call_dictP hc pins s σ _ _ us Q I r ⟨p, ps, more, rfl, SqL.of h1, hK ▸ z2, g.new ok (.dctK rfl z4)⟩
      · cases hr
    · cases hr
end
end EF

/-! EI: a token's content put; places, parts, attributes, methods. -/
namespace EF
open PySem PySem.Spec PyProof.Rows L2

section
variable {X : Cx} {G : Gx} {n0 : Nat} {x : Sit}
mutual
theorem low_up {n m : Nat} : ∀ (d : D), n ≤ m → d.low n = true → d.low m = true
  | .non, _, _ => rfl
  | .bl _, _, _ => rfl
  | .int _, _, _ => rfl
  | .str _, _, _ => rfl
  | .tup xs, h, l => by simp only [D.low] at l ⊢; exact lows_up xs h l
  | .lst xs, h, l => by simp only [D.low] at l ⊢; exact lows_up xs h l
  | .frz xs, h, l => by simp only [D.low] at l ⊢; exact lows_up xs h l
  | .dct _ xs, h, l => by simp only [D.low] at l ⊢; exact lows_up xs h l
  | .wlk _ xs, h, l => by simp only [D.low] at l ⊢; exact lows_up xs h l
  | .obj _ _ xs, h, l => by simp only [D.low] at l ⊢; exact lows_up xs h l
  | .tok k, h, l => by simp only [D.low, decide_eq_true_eq] at l ⊢; omega
theorem lows_up {n m : Nat} : ∀ (ds : List D), n ≤ m → D.lows n ds = true → D.lows m ds = true
  | [], _, _ => rfl
  | d :: ds, h, l => by
    simp only [D.lows, Bool.and_eq_true] at l ⊢
    exact ⟨low_up d h l.1, lows_up ds h l.2⟩
end
/-- a token's content is put -/
theorem OkS.put (a : OkS G n0 x) {n : Nat} {p : Addr} {o : HO} {d : D} (h : x.ρ[n]? = some p) (nd : Node G x.ρ x.S d o) (hw : ∀ d', x.ν[n]? = some d' → noWk d' = true) (hl : n < n0 → ∀ d', x.ν[n]? = some d' → ∀ k, d'.low k = true → d.low k = true) :
    Ext n0 x ⟨x.S, upd x.H p o, x.ρ, x.ν.set n d⟩ ∧ OkS G n0 ⟨x.S, upd x.H p o, x.ρ, x.ν.set n d⟩ := by
  obtain ⟨d0, o0, h1, h2, h3⟩ := a.tok h
  have hp : p ∈ x.ρ := List.mem_of_getElem? h
  have hS : x.S p = none := (a.cont n p d0 h h1).1
  have hn : n < x.ν.length := (List.getElem?_eq_some_iff.mp h1).1
  refine ⟨⟨fun _ _ e => .inl e, ⟨[], by simp⟩, fun b u e hb => .inl ?_, fun b e q => ?_, fun _ _ e => .inl (by rw [e]; simp), fun _ m => .inl m, fun m hm d' h' => ?_, fun b ob u e => ?_⟩, ⟨fun b u e => ?_, ?_, ?_, a.nd, fun m c e e1 e2 => ?_⟩⟩
  · show upd x.H p o b = some u
    rw [upd_ne (show b ≠ p from fun z => hb (by rw [z]; exact hp))]
    exact e
  · have q' : upd x.H p o b = none := q
    by_cases hb : b = p
    · rw [hb, upd_same] at q'; cases q'
    · rw [upd_ne hb] at q'; exact e q'
  · have h' : (x.ν.set n d)[m]? = some d' := h'
    by_cases hm2 : n = m
    · subst hm2
      rw [List.getElem?_set_self hn] at h'
      cases h'
      exact ⟨d0, h1, hl hm d0 h1⟩
    · rw [List.getElem?_set_ne hm2] at h'
      exact ⟨d', h', fun _ q => q⟩
  · show upd x.H p o b = _
    rw [upd_ne (fun z => by
      rw [z] at e
      have e' : x.H p = some (.frz ob u) := e
      rw [h2] at e'
      exact h3.nofrz (hw d0 h1) ob u (Option.some.inj e'))]
    exact e
  · show upd x.H p o b = some u
    rw [upd_ne (fun z => by rw [z] at e; have e' : x.S p = some u := e; rw [hS] at e'; cases e')]
    exact a.sub b u e
  · show x.ρ.length = (x.ν.set n d).length
    rw [List.length_set]; exact a.len
  · show n0 ≤ (x.ν.set n d).length
    rw [List.length_set]; exact a.base
  · have e1 : x.ρ[m]? = some c := e1
    have e2 : (x.ν.set n d)[m]? = some e := e2
    by_cases hm2 : n = m
    · subst hm2
      rw [List.getElem?_set_self hn] at e2
      cases e2
      rw [h] at e1
      cases e1
      exact ⟨hS, o, upd_same, .nd nd⟩
    · rw [List.getElem?_set_ne hm2] at e2
      obtain ⟨q1, u, q2, q3⟩ := a.cont m c e e1 e2
      have hc : c ≠ p := fun z => by
        subst z
        have i1 := (List.getElem?_eq_some_iff.mp e1)
        have i2 := (List.getElem?_eq_some_iff.mp h)
        obtain ⟨l1, g1⟩ := i1
        obtain ⟨l2, g2⟩ := i2
        exact hm2 ((List.getElem_inj a.nd).mp (g2.trans g1.symm))
      exact ⟨q1, u, by show upd x.H p o c = _; rw [upd_ne hc]; exact q2, q3⟩

/-! ### places -/
def rIdx (G : Gx) (n0 : Nat) : R2 := fun u w H Q => ∃ (s : Sit) (d e r : D), s.H = H ∧ OkS G n0 s ∧ Rep G s.ρ s.S d u ∧ Rep G s.ρ s.S e w ∧ idxD s.ν d e = some r ∧ Give G n0 s r Q
theorem dictAt_ok {ρ : List Addr} {S : Hp} {k : Key} : ∀ {kvs : List (Key × V)} {ds : List D} {r : D}, Reps G ρ S ds (kvs.map (·.2)) → dictAt (kvs.map fun kv => DK.one kv.1) ds (.one k) = some r → ∃ v, valV kvs k = some v ∧ Rep G ρ S r v
  | [], _, _, h, e => by cases h; cases e
  | p :: kvs, _, r, h, e => by
    cases h with
    | cons h q =>
      rw [List.map_cons] at e
      unfold dictAt at e
      split at e
      · next hk => cases e; exact ⟨_, valV_pos (DK.one.inj hk), h⟩
      · next hk =>
        obtain ⟨v, z1, z2⟩ := dictAt_ok q e
        exact ⟨v, by rw [valV_neg (fun z => hk (by rw [z]))]; exact z1, z2⟩
theorem at_ok {ρ : List Addr} {S : Hp} {xs : List D} {vs : List V} {i : Int} {r : D} (h : Reps G ρ S xs vs) (e : (L2.ixN xs.length i).bind (fun j => xs[j]?) = some r) : ∃ v, atI vs i = some v ∧ Rep G ρ S r v := by
  rw [Option.bind_eq_some_iff] at e
  obtain ⟨j, e1, e2⟩ := e
  obtain ⟨v, z1, z2⟩ := h.get e2
  refine ⟨v, ?_, z2⟩
  unfold atI
  rw [← h.length, e1]
  exact z1
theorem ix_all (hK : G.K = X.K) (hu : X.A.units + 8 < cLine) : IxR X (rIdx G n0) := by
  intro value slice pins s σ H u w v iv Q I rx ry h hs
  obtain ⟨t, d, e, r, rfl, ok, rd, re, hr, g⟩ := h
  unfold idxD at hr
  split at hr
  · next xs i h1 =>
    obtain ⟨p, vs, rfl, s1, r1⟩ := un_frz ok rd h1
    obtain ⟨v', z1, z2⟩ := at_ok r1 hr
    exact ix_list value slice pins s σ _ _ _ _ _ Q I rx ry ⟨p, vs, i, v', rfl, re.intV, hK ▸ s1, z1, g.here ok z2⟩ hs
  · next xs i h1 =>
    obtain ⟨p, vs, rfl, s1, r1⟩ := un_lst ok rd h1
    obtain ⟨v', z1, z2⟩ := at_ok r1 hr
    exact ix_list value slice pins s σ _ _ _ _ _ Q I rx ry ⟨p, vs, i, v', rfl, re.intV, SqL.of s1, z1, g.here ok z2⟩ hs
  · next xs i h1 =>
    obtain ⟨_, p, vs, rfl, s1, r1⟩ := un_tup ok rd h1
    obtain ⟨v', z1, z2⟩ := at_ok r1 hr
    exact ix_tup value slice pins s σ _ _ _ _ _ Q I rx ry ⟨p, vs, i, v', rfl, re.intV, hK ▸ s1, z1, g.here ok z2⟩ hs
  · next z i h1 =>
    split at hr
    · next hz =>
      rw [Option.map_eq_some_iff] at hr
      obtain ⟨c, hc, rfl⟩ := hr
      exact ix_str value slice pins s σ _ _ _ _ _ Q I rx ry ⟨z, i, c, un_str ok rd h1, re.intV, hz, hc, g.here ok (.str _)⟩ hs
    · cases hr
  · next ks ds h1 =>
    rw [Option.bind_eq_some_iff] at hr
    obtain ⟨k, hk, hr⟩ := hr
    obtain ⟨p, rfl, kvs, h2, rfl, r2⟩ := un_dct ok rd h1
    obtain ⟨k', rfl, ew⟩ : ∃ k' : Key, k = .one k' ∧ w = kV k' := by
      unfold keyOf at hk
      split at hk
      · cases hk; exact ⟨_, rfl, re.intV⟩
      · cases hk; exact ⟨_, rfl, re.strV⟩
      · cases hk
    obtain ⟨v', z1, z2⟩ := dictAt_ok r2 hr
    subst ew
    cases (show v = _ from rx)
    have gg : DGet t.H p (kV k') (some v') := by rw [← z1]; exact .inl ⟨kvs, k', h2, rfl, rfl⟩
    exact tail_any (dict_typeIs I gg) PySem.F.slot_dict_getitem.lookup (d_getItem (by omega) I gg ry fun w' s' I' r' => ⟨v', _, I', r', g.here ok z2⟩) hs
  · cases hr

/-! ### parts -/
theorem cut_ok {ρ : List Addr} {S : Hp} {xs : List D} {vs : List V} (lo hi : Option Int) (h : Reps G ρ S xs vs) : Reps G ρ S (cutL xs lo hi) (cutV vs lo hi) := by
  unfold cutL cutV
  rw [h.length]
  exact (h.drop _).take _
def rSli (G : Gx) (n0 : Nat) (nw : Bool) : V → Option Int → Option Int → Hp → VK → Prop := fun u lo hi H Q => ∃ (s : Sit) (d r : D), s.H = H ∧ OkS G n0 s ∧ Rep G s.ρ s.S d u ∧ sliD nw s.ν d lo hi = some r ∧ Mkd G n0 nw s r Q
theorem sl_all {nw : Bool} (hK : G.K = X.K) : SlR X (rSli G n0 nw) := by
  intro pins s σ H u v vl vu lo hi sl Q I rx hs pl pu h
  obtain ⟨t, d, r, rfl, ok, rd, hr, g⟩ := h
  unfold sliD at hr
  split at hr
  · next xs h1 =>
    cases hr
    obtain ⟨p, vs, rfl, s1, r1⟩ := un_frz ok rd h1
    exact sl_list pins s σ _ _ v vl vu lo hi sl Q I rx hs pl pu ⟨p, vs, rfl, hK ▸ s1, g.new ok (.lst (cut_ok lo hi r1))⟩
  · next xs h1 =>
    cases hr
    obtain ⟨p, vs, rfl, s1, r1⟩ := un_lst ok rd h1
    exact sl_list pins s σ _ _ v vl vu lo hi sl Q I rx hs pl pu ⟨p, vs, rfl, SqL.of s1, g.new ok (.lst (cut_ok lo hi r1))⟩
  · next xs h1 =>
    split at hr
    · cases hr
    · next hn =>
      cases hr
      have hn : nw = false := by cases nw <;> simp_all
      subst hn
      obtain ⟨ed, p, vs, rfl, s1, r1⟩ := un_tup ok rd h1
      refine sl_tupA pins s σ _ _ v vl vu lo hi sl Q I rx hs pl pu ⟨p, vs, rfl, hK ▸ s1, fun z => ?_, fun _ => Give.newT g ok (cut_ok lo hi r1)⟩
      have : cutL xs lo hi = xs := by
        unfold cutL
        rw [r1.length, z.1, z.2, ← r1.length]
        simp
      rw [this, ← ed] at g
      exact Give.here g ok rd
  · next z h1 =>
    split at hr
    · next hz =>
      cases hr
      have hn : nw = false := by cases nw <;> simp_all
      subst hn
      exact sl_str pins s σ _ _ v vl vu lo hi sl Q I rx hs pl pu ⟨z, un_str ok rd h1, hz.2, Give.here g ok (by
        have : (cutS z lo hi) = ⟨(cutL z.cps.toList lo hi).toArray⟩ := by
          unfold cutS cutL
          simp [Str.length]
        rw [this]
        exact .str _)⟩
    · cases hr
  · cases hr

/-! ### attributes -/
/-- what reading attributes asks of own classes: no field's name stands in a class -/
def FldK (G : Gx) (f : Nat) : Prop := ∀ C, C < G.nC → NoAttr G.K (G.cad C) (G.fld f)
theorem fldAt_ok {ρ : List Addr} {S : Hp} {f : Nat} (inj : ∀ g, G.fld g = G.fld f → g = f) : ∀ {ns : List Nat} {ds : List D} {fs : List (Str × V)} {r : D}, fs.map (·.1) = ns.map G.fld → Reps G ρ S ds (fs.map (·.2)) → fldAt f ns ds = some r → ∃ v, fs.lookup (G.fld f) = some v ∧ Rep G ρ S r v
  | [], _, _, _, _, _, e => by cases e
  | n :: ns, ds, fs, r, h1, h2, e => by
    cases fs with
    | nil => cases h1
    | cons p fs =>
      rw [List.map_cons, List.map_cons] at h1
      injection h1 with e1 e2
      cases h2 with
      | cons h q =>
        unfold fldAt at e
        obtain ⟨k, v⟩ := p
        split at e
        · next hk =>
          cases e
          refine ⟨v, ?_, h⟩
          rw [List.lookup_cons, show (G.fld f == k) = true from by rw [show k = G.fld f from by rw [← hk]; exact e1]; exact beq_self_eq_true _]
        · next hk =>
          obtain ⟨w, z1, z2⟩ := fldAt_ok inj e2 q e
          refine ⟨w, ?_, z2⟩
          rw [List.lookup_cons, show (G.fld f == k) = false from by
            rw [beq_eq_false_iff_ne]
            intro z
            exact hk (inj n (e1.symm.trans z.symm))]
          exact z1
theorem attr_ok {A : Around} {E : Value → Shared → Prop} {pins : List (Addr × Obj)} {σ : L2.St} {s : Shared} {b : Bool} {Q : Value → Shared → Prop} (hK : G.K = X.K) (F : ClsK G) {f : Nat} (hf : FldK G f) (inj : ∀ g, G.fld g = G.fld f → g = f) (I : L2.Inv X pins σ x.H s) (ok : OkS G n0 x) {d r : D} {v : V} {u : Value}
    (rd : Rep G x.ρ x.S d v) (ru : RelV v u) (h : attrD x.ν d f = some r) (q : ∀ w u' s', L2.Inv X pins σ x.H s' → Rep G x.ρ x.S r w → RelV w u' → Q u' s') : wpAny (model X.prog X.w) A (getAttr u (G.fld f) b) Q E s := by
  unfold attrD at h
  split at h
  · next C ns vs e =>
    obtain ⟨p, dx, fs, rfl, h1, hC, h2, h3⟩ := un_obj ok rd e
    obtain ⟨w, z1, z2⟩ := fldAt_ok inj h2 h3 h
    cases (show u = _ from ru)
    exact getattr_ok I h1 (hK ▸ (F.ty C hC).1) (hK ▸ hf C hC) z1 fun u' s' I' r' => q w u' s' I' z2 r'
  · cases h

/-! ### methods -/
def mtName : Mt → Str
  | .partition => "partition"
  | .split => "split"
  | .join => "join"
  | .index => "index"
  | .append => "append"
  | .get => "get"
def mtId : Mt → String
  | .partition => "str.partition"
  | .split => "str.split"
  | .join => "str.join"
  | .index => "str.index"
  | .append => "list.append"
  | .get => "dict.get"
def mtT : Mt → String
  | .append => "list"
  | .get => "dict"
  | _ => "str"
theorem mtTy_ok (hK : G.K = X.K) (ok : OkS G n0 x) {m : Mt} {d : D} {v : V} (rd : Rep G x.ρ x.S d v) (h : mtTy m (un x.ν d) = some ()) : tyV X.K (mtT m) v x.H := by
  unfold mtTy at h
  split at h
  · next xs e =>
    obtain ⟨p, vs, rfl, h1, _⟩ := un_lst ok rd e
    exact .inl ⟨rfl, vs, SqL.of h1⟩
  all_goals first | (cases h; done) | skip
  all_goals
    next z e =>
    rw [un_str ok rd e]
    rfl
theorem lows_app {k : Nat} : ∀ {xs ys : List D}, D.lows k xs = true → D.lows k ys = true → D.lows k (xs ++ ys) = true
  | [], _, _, h => h
  | x :: xs, ys, h, q => by
    simp only [D.lows, Bool.and_eq_true, List.cons_append] at h ⊢
    exact ⟨h.1, lows_app h.2 q⟩
theorem lows_snoc {xs : List D} {z : D} {k : Nat} (h : (D.lst xs).low k = true) (q : z.low 0 = true) : (D.lst (xs ++ [z])).low k = true := by
  have h : D.lows k xs = true := by simpa [D.low] using h
  show D.low k (.lst (xs ++ [z])) = true
  simp only [D.low]
  exact lows_app h (by simp [D.lows, low_up z (Nat.zero_le k) q])
theorem mtE_some {n0 : Nat} {nw : Bool} {m : Mt} {n : Nat} {ds : List D} {ν ν' : Sto} {d : D} (e : mtW n0 ν m n ds = some (d, ν')) : mtE n0 nw m (.tok n) ds ν = some (.ok d, ν') := by
  show mtK _ = _
  rw [e]
  rfl
theorem mtE_none {n0 : Nat} {nw : Bool} {m : Mt} {n : Nat} {ds : List D} {ν : Sto} (e : mtW n0 ν m n ds = none) : mtE n0 nw m (.tok n) ds ν = none := by
  show mtK _ = _
  rw [e]
  rfl
def rMt (G : Gx) (n0 : Nat) (nw : Bool) (m : Mt) : V → List V → Hp → VK → Prop := fun u vs H Q => ∃ (W : WX) (σ : L2.St) (s : Sit) (d : D) (ds : List D), s.H = H ∧ OkS G n0 s ∧ Rep G s.ρ s.S d u ∧ Reps G s.ρ s.S ds vs ∧ After G n0 (RepR G) W σ s (mtE n0 nw m d ds) Q
theorem vsStr_map (ys : List Str) : Reps G x.ρ x.S (ys.map D.str) (ys.map V.str) := by
  induction ys with
  | nil => exact .nil
  | cons y ys ih => exact .cons (.str _) ih
theorem mt_all {nw : Bool} {m : Mt} (hK : G.K = X.K) (hm : nw = true → m.new = true) : MtR X (mtId m) (rMt G n0 nw m) := by
  intro pins s σ H u vs v us Q I rx rs h
  obtain ⟨W, σ', t, d, ds, rfl, ok, rd, rds, ha⟩ := h
  by_cases hd : ∃ n, d = .tok n
  · obtain ⟨n, rfl⟩ := hd
    cases e : mtW n0 t.ν m n ds with
    | none => exact (ha.nonOf (mtE_none e)).elim
    | some r =>
      obtain ⟨r, ν'⟩ := r
      have ha := ha.okOf (mtE_some e)
      unfold mtW at e
      split at e
      · next xs z hz =>
        split at e
        · next hc =>
          cases e
          cases rd with
          | tok ht =>
            obtain ⟨d', o, h1, h2, h3⟩ := ok.tok ht
            rw [hz] at h1
            cases h1
            cases h3.plain rfl with
            | lst r1 =>
              obtain ⟨w, rfl, r2⟩ := rds.inv1
              obtain ⟨e1, e2⟩ := ok.put (d := .lst (xs ++ [z])) (o := .lst (_ ++ [w])) ht (.lst (r1.append (.cons r2 .nil))) (fun d' hd' => by rw [hz] at hd'; cases hd'; rfl) (fun hn d' hd' k hk => by
                rw [hz] at hd'
                cases hd'
                rcases hc.2 with q | q
                · omega
                · exact lows_snoc hk q)
              refine mt_append pins s σ _ _ _ _ _ Q I rx rs ⟨_, _, w, rfl, rfl, h2, by rw [← r1.length]; exact hc.1, ?_⟩
              exact ha .non ⟨t.S, _, t.ρ, _⟩ rfl e1 e2 .non
        · cases e
      · cases e
  · have e0 : mtE n0 nw m d ds = ((M.look fun ν => mtD ν m d ds).bind fun d => mkNew nw d) := by
      cases d <;> first | rfl | exact absurd ⟨_, rfl⟩ hd
    rw [e0] at ha
    obtain ⟨r, hr, ha⟩ := ha.lookBind
    have g := Mkd.of ha
    have low : m.new = false → Give G n0 t r Q := fun z => by
      cases nw with
      | false => exact g
      | true => rw [hm rfl] at z; cases z
    cases m with
    | partition =>
      simp only [mtD] at hr
      split at hr
      · next a b =>
        split at hr
        · next hz =>
          cases hr
          obtain ⟨w, rfl, r2⟩ := rds.inv1
          exact mt_partition pins s σ _ _ _ _ _ Q I rx rs ⟨a, b, rd.strV, by rw [r2.strV], hz.1, hz.2, (low rfl).newT ok (.cons (.str _) (.cons (.str _) (.cons (.str _) .nil)))⟩
        · cases hr
      · cases hr
    | split =>
      simp only [mtD] at hr
      split at hr
      · next a b =>
        split at hr
        · next hz =>
          cases hr
          obtain ⟨w, rfl, r2⟩ := rds.inv1
          exact mt_split pins s σ _ _ _ _ _ Q I rx rs ⟨a, b, rd.strV, by rw [r2.strV], hz.1, hz.2, g.new ok (.lst (vsStr_map _))⟩
        · cases hr
      · cases hr
    | join =>
      simp only [mtD] at hr
      split at hr
      · next a l =>
        split at hr
        · next xs e =>
          rw [Option.bind_eq_some_iff] at hr
          obtain ⟨ys, hy, hr⟩ := hr
          split at hr
          · next hz =>
            cases hr
            obtain ⟨w, rfl, r2⟩ := rds.inv1
            obtain ⟨p, ws, rfl, h1, h2⟩ := un_lst ok r2 e
            rw [reps_strs h2 hy] at h1
            exact mt_join pins s σ _ _ _ _ _ Q I rx rs ⟨a, p, ys, rd.strV, rfl, .inl (SqL.of h1), hz, (low rfl).here ok (.str _)⟩
          · cases hr
        · cases hr
      · cases hr
    | index =>
      simp only [mtD] at hr
      split at hr
      · next a b =>
        split at hr
        · next i rest e =>
          cases hr
          obtain ⟨w, rfl, r2⟩ := rds.inv1
          exact mt_sindex pins s σ _ _ _ _ _ Q I rx rs ⟨a, b, i, rest, rd.strV, by rw [r2.strV], e, (low rfl).here ok (.int _)⟩
        · cases hr
      · cases hr
    | _ => cases hr
end
end EF

/-! EJ: what a def leaves; contracts; calls. -/
namespace EF
open PySem PySem.Spec PyProof.Rows L2

/-! ### own tokens turn into trees -/
section
variable {G : Gx} {x y : Sit}
theorem idx_of_mem {ρ : List Addr} {a : Addr} (h : a ∈ ρ) : ∃ n : Nat, ρ[n]? = some a := by
  obtain ⟨n, hn, e⟩ := List.mem_iff_getElem.mp h
  exact ⟨n, by rw [List.getElem?_eq_getElem hn, e]⟩
theorem nodup_at {ρ : List Addr} (nd : ρ.Nodup) {a : Addr} {n m : Nat} (h : ρ[n]? = some a) (k : ρ[m]? = some a) : n = m := by
  obtain ⟨l1, g1⟩ := List.getElem?_eq_some_iff.mp h
  obtain ⟨l2, g2⟩ := List.getElem?_eq_some_iff.mp k
  exact (List.getElem_inj nd).mp (g1.trans g2.symm)
open Classical in
/-- the situation behind the def: its own tokens' objects stand still -/
noncomputable def shut (n0 : Nat) (y : Sit) : Sit := ⟨fun b => if b ∈ y.ρ.drop n0 then y.H b else y.S b, y.H, y.ρ.take n0, y.ν.take n0⟩
theorem shut_S {n0 : Nat} (o : OkS G n0 y) : SubS y.S (shut n0 y).S := fun b u e => by
  show (if b ∈ y.ρ.drop n0 then y.H b else y.S b) = some u
  by_cases h : b ∈ y.ρ.drop n0
  · rw [if_pos h]; exact o.sub b u e
  · rw [if_neg h]; exact e
theorem take_at {α : Type} {l : List α} {n m : Nat} {a : α} : (l.take n)[m]? = some a ↔ m < n ∧ l[m]? = some a := by
  rw [List.getElem?_take]
  by_cases h : m < n
  · simp [h]
  · simp [h]
theorem cutR {n0 : Nat} : ∀ (m : Nat) (a : Addr), m < n0 → y.ρ[m]? = some a → (shut n0 y).ρ[m]? = some a := fun m a h e => take_at.mpr ⟨h, e⟩
theorem shut_rep {n0 : Nat} (o : OkS G n0 y) {d : D} {v : V} (l : d.low n0 = true) (r : Rep G y.ρ y.S d v) : Rep G (shut n0 y).ρ (shut n0 y).S d v := Rep.mono (shut_S o).h (fun _ _ h => h) d v (Rep.cut cutR d v l r)
theorem shut_node {n0 : Nat} (o : OkS G n0 y) {d : D} {u : HO} (l : d.low n0 = true) (r : NodeW G y.ρ y.S d u) : NodeW G (shut n0 y).ρ (shut n0 y).S d u := NodeW.mono (shut_S o).h (fun _ _ h => h) (NodeW.cut cutR l r)
theorem shut_ok {n0 : Nat} (hx : x.ν.length = n0) (ox : OkS G n0 x) (o : OkS G n0 y) (e : Ext n0 x y) : OkS G n0 (shut n0 y) ∧ Ext n0 x (shut n0 y) := by
  have lx : x.ρ.length = n0 := ox.len.trans hx
  have hρ : y.ρ.take n0 = x.ρ := by
    obtain ⟨r, er⟩ := e.r
    rw [er, ← lx, List.take_left']
    rfl
  have inD : ∀ b, b ∈ y.ρ.drop n0 → b ∈ y.ρ ∧ b ∉ x.ρ ∧ x.H b = none := fun b hb => by
    have h1 : b ∈ y.ρ := List.mem_of_mem_drop hb
    have h2 : b ∉ x.ρ := fun h => by
      have nd := o.nd
      rw [← List.take_append_drop n0 y.ρ, hρ] at nd
      exact (List.nodup_append.mp nd).2.2 b h b hb rfl
    exact ⟨h1, h2, (e.n2 b h1).resolve_left h2⟩
  have lowc : ∀ (m : Nat) (d : D), m < n0 → y.ν[m]? = some d → d.low n0 = true := fun m d hm h => by
    obtain ⟨d0, h0, hl⟩ := e.t m hm d h
    refine hl n0 ?_
    have hm' : m < x.ρ.length := by omega
    obtain ⟨_, u, _, q⟩ := ox.cont m _ d0 (List.getElem?_eq_getElem hm') h0
    rw [← lx]
    exact q.lowR
  refine ⟨⟨fun b u h => ?_, ?_, ?_, ?_, fun m c d h1 h2 => ?_⟩, ⟨fun b u h => (e.s b u h).trans (shut_S o).h, ⟨[], ?_⟩, e.f, e.g, fun b u h => ?_, fun b h => ?_, fun m hm d h => ?_, e.w⟩⟩
  · have h : (if b ∈ y.ρ.drop n0 then y.H b else y.S b) = some u := h
    by_cases hb : b ∈ y.ρ.drop n0
    · rw [if_pos hb] at h; exact h
    · rw [if_neg hb] at h; exact o.sub b u h
  · show (y.ρ.take n0).length = (y.ν.take n0).length
    rw [List.length_take, List.length_take, o.len]
  · show n0 ≤ (y.ν.take n0).length
    rw [List.length_take]
    have := o.base
    omega
  · show (y.ρ.take n0).Nodup
    exact o.nd.sublist (List.take_sublist _ _)
  · obtain ⟨hm, h1⟩ := take_at.mp h1
    obtain ⟨_, h2⟩ := take_at.mp h2
    obtain ⟨q1, u, q2, q3⟩ := o.cont m c d h1 h2
    refine ⟨?_, u, q2, shut_node o (lowc m d hm h2) q3⟩
    show (if c ∈ y.ρ.drop n0 then y.H c else y.S c) = none
    rw [if_neg, q1]
    intro hc
    have : c ∈ x.ρ := by
      rw [← hρ]
      exact List.mem_of_getElem? (take_at.mpr ⟨hm, h1⟩)
    exact (inD c hc).2.1 this
  · show y.ρ.take n0 = x.ρ ++ []
    rw [hρ, List.append_nil]
  · have h : (if b ∈ y.ρ.drop n0 then y.H b else y.S b) = some u := h
    by_cases hb : b ∈ y.ρ.drop n0
    · exact .inr (inD b hb).2.2
    · rw [if_neg hb] at h; exact e.n1 b u h
  · left
    have h : b ∈ y.ρ.take n0 := h
    rw [hρ] at h
    exact h
  · obtain ⟨_, h⟩ := take_at.mp h
    exact e.t m hm d h
theorem noWk_of {d : D} (h : ∀ ks vs, d = .wlk ks vs → False) : noWk d = true := by
  cases d with
  | wlk ks vs => exact (h ks vs rfl).elim
  | _ => rfl
theorem out_ok {n0 : Nat} (o : OkS G n0 y) {d d' : D} {v : V} (r : Rep G y.ρ y.S d v) (h : outD n0 y.ν d = some d') : Rep G (shut n0 y).ρ (shut n0 y).S d' v := by
  unfold outD at h
  split at h
  · next n =>
    split at h
    · next hn =>
      cases h
      exact shut_rep o (by simpa [D.low] using hn) r
    · next hn =>
      split at h
      · cases h
      · next c nw hc =>
        split at h
        · next hl =>
          cases h
          cases r with
          | @tok _ a ht =>
            obtain ⟨q1, u, q2, q3⟩ := o.cont n a d' ht hc
            refine Node.rep ((shut_node o hl q3).plain (noWk_of nw)) ?_
            show (if a ∈ y.ρ.drop n0 then y.H a else y.S a) = some u
            rw [if_pos, q2]
            have : (y.ρ.drop n0)[n - n0]? = some a := by
              rw [List.getElem?_drop, show n0 + (n - n0) = n by omega]
              exact ht
            exact List.mem_of_getElem? this
        · cases h
      · cases h
  · split at h
    · next hl => cases h; exact shut_rep o hl r
    · cases h
theorem outs_ok {n0 : Nat} (o : OkS G n0 y) : ∀ {ds ds' : List D} {vs : List V}, Reps G y.ρ y.S ds vs → outDs n0 y.ν ds = some ds' → Reps G (shut n0 y).ρ (shut n0 y).S ds' vs
  | [], ds', _, r, h => by
    cases r
    unfold outDs at h
    simp at h
    subst h
    exact .nil
  | d :: ds, ds', _, r, h => by
    cases r with
    | cons r1 r2 =>
      unfold outDs at h
      rw [List.mapM_cons] at h
      cases e1 : outD n0 y.ν d with
      | none => rw [e1] at h; cases h
      | some d' =>
        rw [e1] at h
        cases e2 : outDs n0 y.ν ds with
        | none =>
          unfold outDs at e2
          rw [show ((some d' : Option D) >>= fun a => List.mapM (outD n0 y.ν) ds >>= fun b => pure (a :: b)) = (List.mapM (outD n0 y.ν) ds >>= fun b => pure (d' :: b)) from rfl, e2] at h
          cases h
        | some ds'' =>
          have e3 := e2
          unfold outDs at e2
          rw [show ((some d' : Option D) >>= fun a => List.mapM (outD n0 y.ν) ds >>= fun b => pure (a :: b)) = (List.mapM (outD n0 y.ν) ds >>= fun b => pure (d' :: b)) from rfl, e2] at h
          cases h
          exact .cons (out_ok o r1 e1) (outs_ok o r2 e3)
end

/-! ### contracts -/
/-- what a call of the function leaves, from x on -/
def AfterF (G : Gx) (x : Sit) (m : M D) (Q : VK) (E : XK) : Prop := match m x.ν with
  | some (.ok a, ν') => ∀ (b : V) (y : Sit), y.ν = ν' → Ext x.ν.length x y → OkS G x.ν.length y → Rep G y.ρ y.S a b → Q b y.H
  | some (.ex e, ν') => ∀ (c : Value) (dx : Option Addr) (y : Sit), y.ν = ν' → Ext x.ν.length x y → OkS G x.ν.length y → ERep G y e c dx → E c dx y.H
  | none => False
theorem AfterF.okOf {G : Gx} {x : Sit} {m : M D} {Q : VK} {E : XK} {a : D} {ν' : Sto} (h : AfterF G x m Q E) (e : m x.ν = some (.ok a, ν')) : ∀ (b : V) (y : Sit), y.ν = ν' → Ext x.ν.length x y → OkS G x.ν.length y → Rep G y.ρ y.S a b → Q b y.H := by
  unfold AfterF at h; rw [e] at h; exact h
theorem AfterF.exOf {G : Gx} {x : Sit} {m : M D} {Q : VK} {E : XK} {a : Exn} {ν' : Sto} (h : AfterF G x m Q E) (e : m x.ν = some (.ex a, ν')) : ∀ (c : Value) (dx : Option Addr) (y : Sit), y.ν = ν' → Ext x.ν.length x y → OkS G x.ν.length y → ERep G y a c dx → E c dx y.H := by
  unfold AfterF at h; rw [e] at h; exact h
theorem AfterF.nonOf {G : Gx} {x : Sit} {m : M D} {Q : VK} {E : XK} (h : AfterF G x m Q E) (e : m x.ν = none) : False := by
  unfold AfterF at h; rw [e] at h; exact h
def spF (G : Gx) (F : List D → M D) (np : Nat) : Sp := fun vs H Q E => ∃ (x : Sit) (ds : List D), x.H = H ∧ OkS G 0 x ∧ Reps G x.ρ x.S ds vs ∧ ds.length = np ∧ AfterF G x (F ds) Q E
theorem After.toF {G : Gx} {n0 : Nat} {W : WX} {σ : L2.St} {x : Sit} {m : M D} {Q : VK} (h : After G n0 (RepR G) W σ x m Q) (o : OkS G n0 x) : AfterF G x m Q (WE W σ) := by
  unfold After at h
  unfold AfterF
  cases e : m x.ν with
  | none => rw [e] at h; exact h
  | some r =>
    obtain ⟨r, ν'⟩ := r
    rw [e] at h
    cases r with
    | ok a => exact fun b y h1 h2 h3 h4 => h b y h1 (h2.less o.base) (h3.less o.base) h4
    | ex q => exact fun c dx y h1 h2 h3 h4 => h c dx y h1 (h2.less o.base) (h3.less o.base) h4
end EF

/-! EK: calls of defs and of own classes. -/
namespace EF
open PySem PySem.Spec PyProof.Rows L2

section
variable {X : Cx} {CX : CXT} {k : Nat} {f : Addr} {fd : FuncData} {ps : List Str} {sp : Sp} {E : XK}
/-- a def runs, however its parameters are bound -/
theorem run_any {pins : List (Addr × Obj)} {σ : L2.St} {H : Hp} {s : Shared} {Q : VK} {us ps' : List Value} {kw : List (Str × Value)} {vs : List V} (F : FnOk X.prog X.w X.K X.mg X.base CX k f fd ps sp) (hr : Room k X.A) (hx : PassesAt CX X σ E)
    (I : L2.Inv X pins σ H s) (hb : BindsTo s fd ⟨ps', kw⟩ (ps.zip us)) (r : Vals vs us) (h : sp vs H Q E) : wpAny (model X.prog X.w) X.A (call (.ref f) ps' kw) (EP X pins σ Q) X.xe s := by
  refine wpAny_call (codeAny_mono (F.run X.A X.stack s H ⟨ps', kw⟩ us vs Q E hr I.env0 hb r h) fun r s' hq => ?_)
  cases r with
  | error e => exact hx pins H s e s' I hq
  | ok fl =>
    cases fl with
    | ret u => exact I.after hq
    | next => exact False.elim hq
    | brk => exact False.elim hq
    | cont => exact False.elim hq
/-- an own class is called: hx where the instance is under way -/
theorem run_mkAny {C : Addr} {pins : List (Addr × Obj)} {σ : L2.St} {H : Hp} {s : Shared} {Q : VK} {us ps' : List Value} {kw : List (Str × Value)} {vs : List V} (M : Mk X.K C f) (F : FnOk X.prog X.w X.K X.mg X.base CX k f fd ps sp) (hr : Room (k + 1) X.A) (hx : PassesAt CX X σ E)
    (I : L2.Inv X pins σ H s) (hb : ∀ (s : Shared) (x : Value), X.K.In s.heap → BindsTo s fd ⟨x :: ps', kw⟩ (ps.zip (x :: us))) (r : Vals vs us)
    (h : ∀ x dx, H x = none → H dx = none → dx ≠ x → sp (.ref x :: vs) (upd (upd H dx (.own x)) x (.ins C dx [])) (fun v H2 => v = .non ∧ Q (.ref x) H2) E) :
    wpAny (model X.prog X.w) X.A (call (.ref C) ps' kw) (EP X pins σ Q) X.xe s := by
  have hq := h (s.heap.objs.size + 1) s.heap.objs.size (I.hok.fresh (Nat.le_succ _)) (I.hok.fresh (Nat.le_refl _)) (Nat.ne_of_lt (Nat.lt_succ_self _))
  have I2 := Inv.made (C := C) I
  refine wpAny_call (make_map (f := f) I.kIn M.makes M.init (beq_iff_eq.mp M.fn) (codeAny_mono (F.run _ X.stack _ _ ⟨Value.ref (s.heap.objs.size + 1) :: ps', kw⟩ (Value.ref (s.heap.objs.size + 1) :: us) _ _ E (hr.make C ps' kw)
    (I2.env0.make C ps' kw) (hb _ (Value.ref (s.heap.objs.size + 1)) I2.kIn) (Paired.cons (show RelV (V.ref (s.heap.objs.size + 1)) (Value.ref (s.heap.objs.size + 1)) from rfl) r) hq) fun r s' hq' => ?_))
  cases r with
  | error e => exact hx pins _ _ e s' I2 hq'
  | ok fl =>
    cases fl with
    | ret u =>
      obtain ⟨v, H', I3, rv, ev, q3⟩ := I2.after hq'
      subst ev
      exact ⟨rv, ⟨V.ref (s.heap.objs.size + 1), H', I3, rfl, q3⟩⟩
    | next => exact False.elim hq'
    | brk => exact False.elim hq'
    | cont => exact False.elim hq'
end

/-! ### how values are bound -/
def permL {α : Type} (p : List Nat) (l : List α) : List α := p.filterMap fun i => l[i]?
/-- positional values us and keywords ks bind the parameters in the order p -/
structure KwOk (fd : FuncData) (ps : List Str) (n : Nat) (ks : List Str) (p : List Nat) : Prop where
  to : ∀ us ws : List Value, us.length = n → ws.length = ks.length → bindArgs fd ⟨us, ks.zip ws⟩ = pure (ps.zip (permL p (us ++ ws)))
/-- a def as it is called -/
structure DefOk (P : Program) (w : World) (K : PySem.W.Frag) (mg : Str → Option Value) (base : Heap) (k : Nat) (G : Gx) (Ff : List D → M D) (np : Nat) (fa : Addr) (fd : FuncData) (ps : List Str) : Prop where
  kp : PySem.W.keepIn K (.ref fa) = true
  ok : FnOk P w K mg base (L2.CX P w) k fa fd ps (spF G Ff np)
  pos : ∀ us : List Value, us.length = np → bindArgs fd ⟨us, []⟩ = pure (ps.zip us)

section
variable {X : Cx} {G : Gx} {n0 k np : Nat} {W : WX} {x : Sit} {Ff : List D → M D} {fa : Addr} {fd : FuncData} {ps : List Str} {pins : List (Addr × Obj)} {σ : L2.St} {s : Shared} {Q : VK} {us : List Value} {vs : List V} {ds : List D}
/-- the function's value is not asked for at another number of values -/
def Wants (Ff : List D → M D) (np : Nat) : Prop := ∀ (ds : List D) (ν : Sto), Ff ds ν ≠ none → ds.length = np
theorem DefOk.call (F : DefOk X.prog X.w X.K X.mg X.base k G Ff np fa fd ps) (hw : Wants Ff np) (hr : Room k X.A) (tk : Takes X W) (I : L2.Inv X pins σ x.H s) (ok : OkS G n0 x) (rd : Reps G x.ρ x.S ds vs) (r : Vals vs us)
    (h : After G n0 (RepR G) W σ x (Ff ds) Q) : wpAny (model X.prog X.w) X.A (PySem.call (.ref fa) us) (EP X pins σ Q) X.xe s := by
  have hl : ds.length = np := hw ds x.ν fun z => h.nonOf z
  refine run_any F.ok hr (passAt tk σ) I (BindsTo.of_eq (F.pos us ?_)) r ⟨x, ds, rfl, ok.less (Nat.zero_le _), rd, hl, h.toF ok⟩
  rw [← r.length, ← rd.length, hl]
theorem perm_len : ∀ {p : List Nat} {ds as : List D}, permD p ds = some as → as.length = p.length ∧ permL p ds = as
  | [], ds, as, h => by
    unfold permD at h
    simp at h
    subst h
    exact ⟨rfl, rfl⟩
  | i :: p, ds, as, h => by
    unfold permD at h
    rw [List.mapM_cons] at h
    cases e1 : ds[i]? with
    | none => rw [e1] at h; cases h
    | some d =>
      rw [e1] at h
      cases e2 : permD p ds with
      | none =>
        unfold permD at e2
        rw [show ((some d : Option D) >>= fun a => List.mapM (fun i => ds[i]?) p >>= fun b => pure (a :: b)) = (List.mapM (fun i => ds[i]?) p >>= fun b => pure (d :: b)) from rfl, e2] at h
        cases h
      | some as' =>
        obtain ⟨z1, z2⟩ := perm_len e2
        unfold permD at e2
        rw [show ((some d : Option D) >>= fun a => List.mapM (fun i => ds[i]?) p >>= fun b => pure (a :: b)) = (List.mapM (fun i => ds[i]?) p >>= fun b => pure (d :: b)) from rfl, e2] at h
        cases h
        refine ⟨by simp [z1], ?_⟩
        unfold permL
        rw [List.filterMap_cons, e1]
        show d :: permL p ds = _
        rw [z2]
theorem perm_reps {ρ : List Addr} {S : Hp} (rd : Reps G ρ S ds vs) : ∀ {p : List Nat} {as : List D}, permD p ds = some as → Reps G ρ S as (permL p vs)
  | [], as, h => by
    unfold permD at h
    simp at h
    subst h
    exact .nil
  | i :: p, as, h => by
    unfold permD at h
    rw [List.mapM_cons] at h
    cases e1 : ds[i]? with
    | none => rw [e1] at h; cases h
    | some d =>
      rw [e1] at h
      obtain ⟨v, e3, r⟩ := rd.get e1
      cases e2 : permD p ds with
      | none =>
        unfold permD at e2
        rw [show ((some d : Option D) >>= fun a => List.mapM (fun i => ds[i]?) p >>= fun b => pure (a :: b)) = (List.mapM (fun i => ds[i]?) p >>= fun b => pure (d :: b)) from rfl, e2] at h
        cases h
      | some as' =>
        have z := perm_reps rd e2
        unfold permD at e2
        rw [show ((some d : Option D) >>= fun a => List.mapM (fun i => ds[i]?) p >>= fun b => pure (a :: b)) = (List.mapM (fun i => ds[i]?) p >>= fun b => pure (d :: b)) from rfl, e2] at h
        cases h
        unfold permL
        rw [List.filterMap_cons, e3]
        exact .cons r z
theorem perm_vals (r : Vals vs us) : ∀ {p : List Nat}, Vals (permL p vs) (permL p us)
  | [] => .nil
  | i :: p => by
    unfold permL
    rw [List.filterMap_cons, List.filterMap_cons]
    cases e : vs[i]? with
    | none =>
      rw [r.none_of e]
      exact perm_vals r
    | some v =>
      obtain ⟨u, e2, r2⟩ := r.get e
      rw [e2]
      exact .cons r2 (perm_vals r)
theorem DefOk.callk {n : Nat} {ks : List Str} {p : List Nat} {ws : List Value} {zs : List V} {es as : List D} (F : DefOk X.prog X.w X.K X.mg X.base k G Ff np fa fd ps) (kw : KwOk fd ps n ks p) (hw : Wants Ff np) (hr : Room k X.A) (tk : Takes X W) (I : L2.Inv X pins σ x.H s) (ok : OkS G n0 x)
    (rd : Reps G x.ρ x.S ds vs) (r : Vals vs us) (re : Reps G x.ρ x.S es zs) (rz : Vals zs ws) (l1 : ds.length = n) (l2 : es.length = ks.length) (hp : permD p (ds ++ es) = some as)
    (h : After G n0 (RepR G) W σ x (Ff as) Q) : wpAny (model X.prog X.w) X.A (PySem.call (.ref fa) us (ks.zip ws)) (EP X pins σ Q) X.xe s := by
  have hl : as.length = np := hw as x.ν fun z => h.nonOf z
  refine run_any F.ok hr (passAt tk σ) I (BindsTo.of_eq (kw.to us ws (by rw [← r.length, ← rd.length, l1]) (by rw [← rz.length, ← re.length, l2]))) (perm_vals (r.append rz)) ⟨x, as, rfl, ok.less (Nat.zero_le _), perm_reps (rd.append re) hp, hl, h.toF ok⟩

/-! ### own classes -/
theorem OkS.up (o : OkS G n0 x) : OkS G x.ν.length x := ⟨o.sub, o.len, Nat.le_refl _, o.nd, o.cont⟩
theorem lows_le {n : Nat} {ds : List D} (h : D.lows 0 ds = true) : D.lows n ds = true := lows_up ds (Nat.zero_le _) h
theorem ERep.shut {n : Nat} {y : Sit} {e : Exn} {c : Value} {dx : Option Addr} (o : OkS G n y) (l : D.lows n e.vs = true) (h : ERep G y e c dx) : ERep G (shut n y) e c dx := by
  obtain ⟨dd, fs, h1, h2, h3, h4, h5⟩ := h
  exact ⟨dd, fs, h1, h2, shut_S o _ _ h3, h4, Reps.mono (shut_S o).h (fun _ _ h => h) _ _ (Reps.cut cutR _ _ l h5)⟩
/-- what an own class must have to be made -/
structure ClsOk (P : Program) (w : World) (K : PySem.W.Frag) (mg : Str → Option Value) (base : Heap) (k : Nat) (G : Gx) (T : Tab) (F1 : Nat → List D → M D) (C : Nat) : Prop where
  lt : C < G.nC
  def_ : ∃ f np fa fd ps, T.init C = some f ∧ Mk K (G.cad C) fa ∧ DefOk P w K mg base k G (F1 f) np fa fd ps ∧ Wants (F1 f) np
/-- the step shared by both ways to bind -/
theorem make_step {C : Nat} {f : Nat} {T : Tab} {F1 : Nat → List D → M D} {np : Nat} (hC : C < G.nC) (hi : T.init C = some f) (ok : OkS G n0 x) (rd : Reps G x.ρ x.S ds vs) (hw : Wants (F1 f) np)
    (h : After G n0 (RepR G) W σ x (makeD T F1 C ds) Q) : ∀ px dx, x.H px = none → x.H dx = none → dx ≠ px →
    spF G (F1 f) np (.ref px :: vs) (upd (upd x.H dx (.own px)) px (.ins (G.cad C) dx [])) (fun v H2 => v = .non ∧ Q (.ref px) H2) (WE W σ) := by
  intro px dx hp hd hne
  have o1 := ok.up
  obtain ⟨e2, o2⟩ := o1.layAny (o := .own px) hd
  have hp2 : upd x.H dx (.own px) px = none := by rw [upd_ne (Ne.symm hne)]; exact hp
  obtain ⟨e3, o3, r3⟩ := o2.layTok (d := newObj C) (o := .ins (G.cad C) dx []) hp2 (.obj (ns := []) (ds := []) hC rfl .nil)
  have e := e2.trans e3
  have hm : ∀ r, F1 f (.tok x.ν.length :: ds) (x.ν ++ [newObj C]) = r → makeD T F1 C ds x.ν = mkK x.ν.length r := fun r hr => by
    unfold makeD
    rw [hi, ← hr]
  have lenx : (x.ν ++ [newObj C]).length = x.ν.length + 1 := by simp
  refine ⟨⟨upd x.S dx (.own px), upd (upd x.H dx (.own px)) px (.ins (G.cad C) dx []), x.ρ ++ [px], x.ν ++ [newObj C]⟩, .tok x.ν.length :: ds, rfl, o3.less (Nat.zero_le _), .cons r3 (e.reps rd), ?_, ?_⟩
  · exact hw _ (x.ν ++ [newObj C]) fun z => h.nonOf (by rw [hm _ z]; rfl)
  · unfold AfterF
    cases hr : F1 f (.tok x.ν.length :: ds) (x.ν ++ [newObj C]) with
    | none => exact h.nonOf (by rw [hm _ hr]; rfl)
    | some r =>
      obtain ⟨r, ν'⟩ := r
      have back : ∀ y : Sit, Ext (x.ν ++ [newObj C]).length ⟨upd x.S dx (.own px), upd (upd x.H dx (.own px)) px (.ins (G.cad C) dx []), x.ρ ++ [px], x.ν ++ [newObj C]⟩ y → OkS G (x.ν ++ [newObj C]).length y →
          OkS G x.ν.length y ∧ OkS G x.ν.length (shut x.ν.length y) ∧ Ext x.ν.length x (shut x.ν.length y) ∧ y.ρ[x.ν.length]? = some px := fun y ey oy => by
        have oy' : OkS G x.ν.length y := oy.less (by rw [lenx]; omega)
        have ey' : Ext x.ν.length x y := e.trans (ey.less (by rw [lenx]; omega))
        obtain ⟨z1, z2⟩ := shut_ok rfl o1 oy' ey'
        refine ⟨oy', z1, z2, ey.rn _ _ ?_⟩
        show (x.ρ ++ [px])[x.ν.length]? = some px
        rw [← ok.len, List.getElem?_append_right (Nat.le_refl _), Nat.sub_self]
        rfl
      cases r with
      | ex q =>
        intro c dxx y hy ey oy re
        have hq := hm _ hr
        obtain ⟨oy', z1, z2, _⟩ := back y ey oy
        by_cases hl : D.lows x.ν.length q.vs = true
        · unfold mkK at hq
          simp only [hl, if_true] at hq
          exact h.exOf hq c dxx (shut x.ν.length y) (by show y.ν.take _ = _; rw [hy]) (z2.less ok.base) (z1.less ok.base) (re.shut oy' hl)
        · unfold mkK at hq
          simp only [hl] at hq
          exact (h.nonOf hq).elim
      | ok a =>
        intro b y hy ey oy re
        have hq := hm _ hr
        obtain ⟨oy', z1, z2, z3⟩ := back y ey oy
        cases a with
        | non =>
          refine ⟨re.nonV, ?_⟩
          unfold mkK at hq
          simp only at hq
          split at hq
          · next C' ns ws hc =>
            split at hq
            · next hl =>
              refine h.okOf hq (.ref px) (shut x.ν.length y) (by show y.ν.take _ = _; rw [hy]) (z2.less ok.base) (z1.less ok.base) ?_
              refine out_ok oy' (d := .tok x.ν.length) (.tok z3) ?_
              simp only [outD]
              rw [if_neg (Nat.lt_irrefl _), hy, hc]
              simp only
              rw [if_pos]
              show D.low x.ν.length (.obj C' ns ws) = true
              simp only [D.low]
              exact lows_le hl
            · exact (h.nonOf hq).elim
          · exact (h.nonOf hq).elim
        | _ => exact (h.nonOf (by rw [hq]; rfl)).elim
end
end EF

/-! EL: statements' readings; a def's end. -/
namespace EF
open PySem PySem.Spec PyProof.Rows L2

section
variable {G : Gx} {x y : Sit}
open Classical in
/-- behind a def that hands out its own token k -/
noncomputable def shutK (n0 k : Nat) (a : Addr) (c : D) (y : Sit) : Sit := ⟨fun b => if b ∈ y.ρ.drop n0 ∧ b ≠ a then y.H b else y.S b, y.H, y.ρ.take n0 ++ [a], y.ν.take n0 ++ [c]⟩
theorem shutK_ok {n0 k : Nat} {a : Addr} {c : D} (hx : x.ν.length = n0) (ox : OkS G n0 x) (o : OkS G n0 y) (e : Ext n0 x y) (hk : n0 ≤ k) (ha : y.ρ[k]? = some a) (hc : y.ν[k]? = some c) (hl : c.low n0 = true) :
    OkS G n0 (shutK n0 k a c y) ∧ Ext n0 x (shutK n0 k a c y) ∧ Rep G (shutK n0 k a c y).ρ (shutK n0 k a c y).S (.tok n0) (.ref a) := by
  have lx : x.ρ.length = n0 := ox.len.trans hx
  have hρ : y.ρ.take n0 = x.ρ := by
    obtain ⟨r, er⟩ := e.r
    rw [er, ← lx, List.take_left']
    rfl
  have lt : (y.ρ.take n0).length = n0 := by rw [hρ, lx]
  have ltν : (y.ν.take n0).length = n0 := by
    rw [List.length_take]
    have := o.base
    omega
  have inD : ∀ b, b ∈ y.ρ.drop n0 → b ∈ y.ρ ∧ b ∉ x.ρ ∧ x.H b = none := fun b hb => by
    have h1 : b ∈ y.ρ := List.mem_of_mem_drop hb
    have h2 : b ∉ x.ρ := fun h => by
      have nd := o.nd
      rw [← List.take_append_drop n0 y.ρ, hρ] at nd
      exact (List.nodup_append.mp nd).2.2 b h b hb rfl
    exact ⟨h1, h2, (e.n2 b h1).resolve_left h2⟩
  have aD : a ∈ y.ρ.drop n0 := by
    have : (y.ρ.drop n0)[k - n0]? = some a := by
      rw [List.getElem?_drop, show n0 + (k - n0) = k by omega]
      exact ha
    exact List.mem_of_getElem? this
  have aS : y.S a = none := (o.cont k a c ha hc).1
  have sS : SubS y.S (shutK n0 k a c y).S := fun b u h => by
    show (if b ∈ y.ρ.drop n0 ∧ b ≠ a then y.H b else y.S b) = some u
    by_cases hb : b ∈ y.ρ.drop n0 ∧ b ≠ a
    · rw [if_pos hb]; exact o.sub b u h
    · rw [if_neg hb]; exact h
  have lowc : ∀ (m : Nat) (d : D), m < n0 → y.ν[m]? = some d → d.low n0 = true := fun m d hm h => by
    obtain ⟨d0, h0, hl⟩ := e.t m hm d h
    refine hl n0 ?_
    have hm' : m < x.ρ.length := by omega
    obtain ⟨_, u, _, q⟩ := ox.cont m _ d0 (List.getElem?_eq_getElem hm') h0
    rw [← lx]
    exact q.lowR
  have cr : ∀ (m : Nat) (b : Addr), m < n0 → y.ρ[m]? = some b → (shutK n0 k a c y).ρ[m]? = some b := fun m b hm h => by
    show (y.ρ.take n0 ++ [a])[m]? = some b
    rw [List.getElem?_append_left (by rw [lt]; exact hm)]
    exact take_at.mpr ⟨hm, h⟩
  have node : ∀ {d : D} {u : HO}, d.low n0 = true → NodeW G y.ρ y.S d u → NodeW G (shutK n0 k a c y).ρ (shutK n0 k a c y).S d u := fun l q => NodeW.mono sS.h (fun _ _ h => h) (NodeW.cut cr l q)
  have atN : (shutK n0 k a c y).ρ[n0]? = some a := by
    show (y.ρ.take n0 ++ [a])[n0]? = some a
    rw [List.getElem?_append_right (by rw [lt]; exact Nat.le_refl _), lt, Nat.sub_self]
    rfl
  refine ⟨⟨fun b u h => ?_, ?_, ?_, ?_, fun m b d h1 h2 => ?_⟩, ⟨fun b u h => (e.s b u h).trans sS.h, ⟨[a], ?_⟩, e.f, e.g, fun b u h => ?_, fun b h => ?_, fun m hm d h => ?_, e.w⟩, .tok atN⟩
  · have h : (if b ∈ y.ρ.drop n0 ∧ b ≠ a then y.H b else y.S b) = some u := h
    by_cases hb : b ∈ y.ρ.drop n0 ∧ b ≠ a
    · rw [if_pos hb] at h; exact h
    · rw [if_neg hb] at h; exact o.sub b u h
  · show (y.ρ.take n0 ++ [a]).length = (y.ν.take n0 ++ [c]).length
    simp [o.len]
  · show n0 ≤ (y.ν.take n0 ++ [c]).length
    rw [List.length_append, ltν]
    exact Nat.le_add_right _ _
  · show (y.ρ.take n0 ++ [a]).Nodup
    rw [List.nodup_append]
    refine ⟨o.nd.sublist (List.take_sublist _ _), by simp, fun b hb d hd => ?_⟩
    rw [List.mem_singleton.mp hd]
    rintro rfl
    rw [hρ] at hb
    exact (inD b aD).2.1 hb
  · have h1 : (y.ρ.take n0 ++ [a])[m]? = some b := h1
    have h2 : (y.ν.take n0 ++ [c])[m]? = some d := h2
    by_cases hm : m < n0
    · rw [List.getElem?_append_left (by rw [lt]; exact hm)] at h1
      rw [List.getElem?_append_left (by rw [ltν]; exact hm)] at h2
      obtain ⟨_, h1⟩ := take_at.mp h1
      obtain ⟨_, h2⟩ := take_at.mp h2
      obtain ⟨q1, u, q2, q3⟩ := o.cont m b d h1 h2
      refine ⟨?_, u, q2, node (lowc m d hm h2) q3⟩
      show (if b ∈ y.ρ.drop n0 ∧ b ≠ a then y.H b else y.S b) = none
      rw [if_neg, q1]
      intro hc
      have : b ∈ x.ρ := by
        rw [← hρ]
        exact List.mem_of_getElem? (take_at.mpr ⟨hm, h1⟩)
      exact (inD b hc.1).2.1 this
    · have hm2 : m = n0 := by
        have := (List.getElem?_eq_some_iff.mp h1).1
        rw [List.length_append, lt, List.length_singleton] at this
        omega
      subst hm2
      rw [List.getElem?_append_right (by rw [lt]; exact Nat.le_refl _), lt, Nat.sub_self] at h1
      rw [List.getElem?_append_right (by rw [ltν]; exact Nat.le_refl _), ltν, Nat.sub_self] at h2
      simp at h1 h2
      subst h1 h2
      obtain ⟨q1, u, q2, q3⟩ := o.cont k a c ha hc
      refine ⟨?_, u, q2, node hl q3⟩
      show (if a ∈ y.ρ.drop m ∧ a ≠ a then y.H a else y.S a) = none
      rw [if_neg (fun z => z.2 rfl)]
      exact q1
  · show y.ρ.take n0 ++ [a] = x.ρ ++ [a]
    rw [hρ]
  · have h : (if b ∈ y.ρ.drop n0 ∧ b ≠ a then y.H b else y.S b) = some u := h
    by_cases hb : b ∈ y.ρ.drop n0 ∧ b ≠ a
    · exact .inr (inD b hb.1).2.2
    · rw [if_neg hb] at h; exact e.n1 b u h
  · have h : b ∈ y.ρ.take n0 ++ [a] := h
    rcases List.mem_append.mp h with z | z
    · left; rw [hρ] at z; exact z
    · right
      rw [List.mem_singleton.mp z]
      exact (inD a aD).2.2
  · have h : (y.ν.take n0 ++ [c])[m]? = some d := h
    rw [List.getElem?_append_left (by rw [ltν]; exact hm)] at h
    obtain ⟨_, h⟩ := take_at.mp h
    exact e.t m hm d h
/-- what leave leaves -/
theorem leave_ok {n0 : Nat} {kp : Bool} {d : D} {v : V} {r : Res D} {ν' : Sto} (hx : x.ν.length = n0) (ox : OkS G n0 x) (o : OkS G n0 y) (e : Ext n0 x y) (rd : Rep G y.ρ y.S d v) (h : leave n0 kp d y.ν = some (r, ν')) :
    ∃ (d' : D) (z : Sit), r = .ok d' ∧ z.ν = ν' ∧ z.H = y.H ∧ OkS G n0 z ∧ Ext n0 x z ∧ Rep G z.ρ z.S d' v := by
  unfold leave at h
  split at h
  · cases h
    exact ⟨d, y, rfl, rfl, rfl, o, e, rd⟩
  · have plain : ∀ {d : D}, Rep G y.ρ y.S d v → leaveT n0 d y.ν = some (r, ν') → ∃ (d' : D) (z : Sit), r = .ok d' ∧ z.ν = ν' ∧ z.H = y.H ∧ OkS G n0 z ∧ Ext n0 x z ∧ Rep G z.ρ z.S d' v := fun {d} rd h => by
      unfold leaveT at h
      split at h
      · next d' hd =>
        cases h
        obtain ⟨z1, z2⟩ := shut_ok hx ox o e
        exact ⟨d', shut n0 y, rfl, rfl, rfl, z1, z2, out_ok o rd hd⟩
      · cases h
    split at h
    · next n =>
      split at h
      · exact plain rd h
      · next hn =>
        unfold leaveK at h
        split at h
        · cases h
        · next c nw hc =>
          split at h
          · next hl =>
            cases h
            cases rd with
            | @tok _ a ht =>
              obtain ⟨z1, z2, z3⟩ := shutK_ok hx ox o e (Nat.le_of_not_lt hn) ht hc hl
              exact ⟨_, shutK n0 n a c y, rfl, rfl, rfl, z1, z2, z3⟩
          · cases h
        · cases h
    · exact plain rd h
theorem leaveX_ok {n0 : Nat} {q : Exn} {c : Value} {dx : Option Addr} {r : Res D} {ν' : Sto} (hx : x.ν.length = n0) (ox : OkS G n0 x) (o : OkS G n0 y) (e : Ext n0 x y) (rd : ERep G y q c dx) (h : leaveX n0 q y.ν = some (r, ν')) :
    ∃ (q' : Exn) (z : Sit), r = .ex q' ∧ z.ν = ν' ∧ z.H = y.H ∧ OkS G n0 z ∧ Ext n0 x z ∧ ERep G z q' c dx := by
  unfold leaveX at h
  split at h
  · cases h
    exact ⟨q, y, rfl, rfl, rfl, o, e, rd⟩
  · split at h
    · next vs hd =>
      cases h
      obtain ⟨z1, z2⟩ := shut_ok hx ox o e
      obtain ⟨dd, fs, h1, h2, h3, h4, h5⟩ := rd
      exact ⟨_, shut n0 y, rfl, rfl, rfl, z1, z2, dd, fs, h1, h2, shut_S o _ _ h3, h4, outs_ok o h5 hd⟩
    · cases h
end
end EF

/-! EM: statements' readings; the rule for a def. -/
namespace EF
open PySem PySem.Spec PyProof.Rows L2

section
variable (G : Gx) (n0 : Nat) (W : WX)
def AfterS (x : Sit) (m : MF) (D : Ends) : Prop := match m x.ν with
  | some (.nx env', ν') => ∀ (σ' : L2.St) (y : Sit), y.ν = ν' → Ext n0 x y → OkS G n0 y → EnvOk G y σ' env' → D.nx σ' y.H
  | some (.bk env', ν') => ∀ (σ' : L2.St) (y : Sit), y.ν = ν' → Ext n0 x y → OkS G n0 y → EnvOk G y σ' env' → D.bk σ' y.H
  | some (.ct env', ν') => ∀ (σ' : L2.St) (y : Sit), y.ν = ν' → Ext n0 x y → OkS G n0 y → EnvOk G y σ' env' → D.ct σ' y.H
  | some (.rt d, ν') => ∀ (v : V) (y : Sit), y.ν = ν' → Ext n0 x y → OkS G n0 y → Rep G y.ρ y.S d v → D.rt v y.H
  | some (.ex e env', ν') => ∀ (c : Value) (dx : Option Addr) (σ' : L2.St) (y : Sit), y.ν = ν' → Ext n0 x y → OkS G n0 y → EnvOk G y σ' env' → ERep G y e c dx → W c dx σ' y.H
  | none => False
def tofS (m : Env → MF) : TS := fun D σ H => ∃ (x : Sit) (env : Env), x.H = H ∧ OkS G n0 x ∧ EnvOk G x σ env ∧ AfterS G n0 W x (m env) D
def tofG (tg : Tg) : TG := fun v σ H Q => ∃ (x : Sit) (env : Env) (d : D) (env' : Env), x.H = H ∧ OkS G n0 x ∧ EnvOk G x σ env ∧ Rep G x.ρ x.S d v ∧ bindT x.ν tg d env = some env' ∧
  ∀ (σ' : L2.St) (y : Sit), y.ν = x.ν → Ext n0 x y → OkS G n0 y → EnvOk G y σ' env' → Q σ' y.H
end
section
variable {G : Gx} {n0 : Nat} {W : WX} {x y : Sit} {D : Ends} {σ : L2.St} {env env' : Env} {ν' : Sto}
theorem AfterS.nonOf {m : MF} (h : AfterS G n0 W x m D) (e : m x.ν = none) : False := by
  unfold AfterS at h; rw [e] at h; exact h
theorem AfterS.nxOf {m : MF} (h : AfterS G n0 W x m D) (e : m x.ν = some (.nx env', ν')) : ∀ (σ' : L2.St) (y : Sit), y.ν = ν' → Ext n0 x y → OkS G n0 y → EnvOk G y σ' env' → D.nx σ' y.H := by
  unfold AfterS at h; rw [e] at h; exact h
theorem AfterS.bkOf {m : MF} (h : AfterS G n0 W x m D) (e : m x.ν = some (.bk env', ν')) : ∀ (σ' : L2.St) (y : Sit), y.ν = ν' → Ext n0 x y → OkS G n0 y → EnvOk G y σ' env' → D.bk σ' y.H := by
  unfold AfterS at h; rw [e] at h; exact h
theorem AfterS.ctOf {m : MF} (h : AfterS G n0 W x m D) (e : m x.ν = some (.ct env', ν')) : ∀ (σ' : L2.St) (y : Sit), y.ν = ν' → Ext n0 x y → OkS G n0 y → EnvOk G y σ' env' → D.ct σ' y.H := by
  unfold AfterS at h; rw [e] at h; exact h
theorem AfterS.rtOf {m : MF} {d : EF.D} (h : AfterS G n0 W x m D) (e : m x.ν = some (.rt d, ν')) : ∀ (v : V) (y : Sit), y.ν = ν' → Ext n0 x y → OkS G n0 y → Rep G y.ρ y.S d v → D.rt v y.H := by
  unfold AfterS at h; rw [e] at h; exact h
theorem AfterS.exOf {m : MF} {q : Exn} (h : AfterS G n0 W x m D) (e : m x.ν = some (.ex q env', ν')) : ∀ (c : Value) (dx : Option Addr) (σ' : L2.St) (y : Sit), y.ν = ν' → Ext n0 x y → OkS G n0 y → EnvOk G y σ' env' → ERep G y q c dx → W c dx σ' y.H := by
  unfold AfterS at h; rw [e] at h; exact h
/-- all of it at once -/
theorem AfterS.mk {m : MF} (h0 : m x.ν ≠ none)
    (h1 : ∀ env' ν', m x.ν = some (.nx env', ν') → ∀ (σ' : L2.St) (y : Sit), y.ν = ν' → Ext n0 x y → OkS G n0 y → EnvOk G y σ' env' → D.nx σ' y.H)
    (h2 : ∀ env' ν', m x.ν = some (.bk env', ν') → ∀ (σ' : L2.St) (y : Sit), y.ν = ν' → Ext n0 x y → OkS G n0 y → EnvOk G y σ' env' → D.bk σ' y.H)
    (h3 : ∀ env' ν', m x.ν = some (.ct env', ν') → ∀ (σ' : L2.St) (y : Sit), y.ν = ν' → Ext n0 x y → OkS G n0 y → EnvOk G y σ' env' → D.ct σ' y.H)
    (h4 : ∀ d ν', m x.ν = some (.rt d, ν') → ∀ (v : V) (y : Sit), y.ν = ν' → Ext n0 x y → OkS G n0 y → Rep G y.ρ y.S d v → D.rt v y.H)
    (h5 : ∀ q env' ν', m x.ν = some (.ex q env', ν') → ∀ (c : Value) (dx : Option Addr) (σ' : L2.St) (y : Sit), y.ν = ν' → Ext n0 x y → OkS G n0 y → EnvOk G y σ' env' → ERep G y q c dx → W c dx σ' y.H) : AfterS G n0 W x m D := by
  unfold AfterS
  cases e : m x.ν with
  | none => exact absurd e h0
  | some r =>
    obtain ⟨r, ν'⟩ := r
    cases r with
    | nx env' => exact h1 env' ν' e
    | rt d => exact h4 d ν' e
    | bk env' => exact h2 env' ν' e
    | ct env' => exact h3 env' ν' e
    | ex q env' => exact h5 q env' ν' e
/-- from y on what was from x on -/
theorem AfterS.from {m k : MF} (h : AfterS G n0 W x m D) (e : Ext n0 x y) (hm : m x.ν = k y.ν) : AfterS G n0 W y k D := by
  refine .mk (fun z => h.nonOf (hm.trans z)) (fun env' ν' z σ' w hw ew ow en => h.nxOf (hm.trans z) σ' w hw (e.trans ew) ow en) (fun env' ν' z σ' w hw ew ow en => h.bkOf (hm.trans z) σ' w hw (e.trans ew) ow en)
    (fun env' ν' z σ' w hw ew ow en => h.ctOf (hm.trans z) σ' w hw (e.trans ew) ow en) (fun d ν' z v w hw ew ow en => h.rtOf (hm.trans z) v w hw (e.trans ew) ow en) (fun q env' ν' z c dx σ' w hw ew ow en er => h.exOf (hm.trans z) c dx σ' w hw (e.trans ew) ow en er)
theorem AfterS.then {α β : Type} {R : Sit → α → β → Prop} {m : M α} {k : α → MF} {Q : β → Hp → Prop} (h : AfterS G n0 W x (thenM env m k) D) (en : EnvOk G x σ env)
    (kont : ∀ (a : α) (b : β) (y : Sit), Ext n0 x y → OkS G n0 y → R y a b → AfterS G n0 W y (k a) D → Q b y.H) : After G n0 R W σ x m Q := by
  refine .mk (fun z => h.nonOf ?_) (fun a ν' z b y ey ex oy ry => kont a b y ex oy ry (h.from ex ?_)) (fun q ν' z c dx y ey ex oy er => h.exOf (env' := env) (ν' := ν') ?_ c dx σ y ey ex oy (en.mono ex) er)
  · unfold thenM; rw [z]
  · unfold thenM; rw [z, ey]
  · unfold thenM; rw [z]
end

/-! ### the rule for a def -/
section
variable {P : Program} {w : World} {K : PySem.W.Frag} {mg : Str → Option Value} {base : Heap} {x qual : Str} {params : Arguments} {body : List Stmt} {scope : Scope} {f : Addr} {fd : FuncData} {G : Gx}
theorem setR_at {env : Env} {i : Nat} {d : D} : (env.set i none)[i]? ≠ some (some d) := by
  rw [List.getElem?_set]
  simp
theorem start_env {y : Sit} {N : List Str} {ds : List D} {vs : List V} {fn : Fn} (hn : fn.ns = N.length) (hp : fn.np = ds.length) (r : Reps G y.ρ y.S ds vs) : EnvOk G y (L2.start N vs) (startE fn ds) := by
  unfold L2.start startE
  refine ⟨?_, fun i d h => ?_⟩
  · simp [r.length, hn, hp]
  · by_cases hi : i < ds.length
    · rw [List.getElem?_append_left (by simpa using hi), List.getElem?_map] at h
      rw [List.getElem?_append_left (by rw [List.length_map, ← r.length]; exact hi), List.getElem?_map]
      rw [List.getElem?_eq_getElem hi] at h
      cases h
      obtain ⟨v, h1, h2⟩ := r.get (List.getElem?_eq_getElem hi)
      exact ⟨v, by rw [h1]; rfl, h2⟩
    · rw [List.getElem?_append_right (by simpa using Nat.le_of_not_lt hi), List.getElem?_replicate] at h
      split at h <;> cases h
theorem fn_rule {N ps : List Str} {k : Nat} {fn : Fn} {ev : Nat → Env → MF} (F : FunD K x qual params body scope [] [] f fd) (S : FnScope N ps scope) (hn : fn.ns = N.length) (hp : fn.np = ps.length)
    (hbody : ∀ (cdv : Value) (A : Around) (outer : List PySem.Env) (s : Shared) (H : Hp) (E : XK) (n0 : Nat), Room k (A.deeper (envOfC qual scope s.heap.objs.size f cdv)) →
      PSs (cxOf (L2.CX P w) P w K mg base N qual scope f cdv A outer s H E) body (tofS G n0 (fun c dx _ H => E c dx H) (ev n0))) :
    FnOk P w K mg base (L2.CX P w) (k + 1) f fd ps (spF G (fun ds => if ds.length = fn.np then fun ν => fin ν.length fn.kp (ev ν.length (startE fn ds) ν) else M.fail) fn.np) := by
  refine F.ok S (fun vs H Q E h => ?_) (fun cdv A outer s H vs Q E hr h => ?_)
  · obtain ⟨y, ds, _, _, r, hl, _⟩ := h
    rw [← r.length, hl, hp]
  · obtain ⟨y, ds, rfl, ok, r, hl, ha⟩ := h
    refine ⟨_, hbody cdv A outer s y.H E y.ν.length hr, y, startE fn ds, rfl, ok.up, start_env hn hl.symm r, ?_⟩
    have e0 : (if ds.length = fn.np then (fun ν => fin ν.length fn.kp (ev ν.length (startE fn ds) ν) : M EF.D) else M.fail) y.ν = fin y.ν.length fn.kp (ev y.ν.length (startE fn ds) y.ν) :=
      congrFun (if_pos hl) y.ν
    have fine : ∀ {d : D} {ν' : Sto} (v : V) (z : Sit), fin y.ν.length fn.kp (ev y.ν.length (startE fn ds) y.ν) = leave y.ν.length fn.kp d ν' → z.ν = ν' → Ext y.ν.length y z → OkS G y.ν.length z → Rep G z.ρ z.S d v → Q v z.H := fun {d ν'} v z hf hz ez oz rz => by
      subst hz
      cases hl : leave y.ν.length fn.kp d z.ν with
      | none => exact (ha.nonOf (e0.trans (hf.trans hl))).elim
      | some r =>
        obtain ⟨r, ν2⟩ := r
        obtain ⟨d', u, rfl, hu, hH, ou, eu, ru⟩ := leave_ok rfl ok.up oz ez rz hl
        have := ha.okOf (e0.trans (hf.trans hl)) v u hu eu ou ru
        rw [hH] at this
        exact this
    refine .mk (fun z => ?_) (fun env' ν' z σ' u hu eu ou en => ?_) (fun env' ν' z => ?_) (fun env' ν' z => ?_) (fun d ν' z v u hu eu ou ru => ?_) (fun q env' ν' z c dx σ' u hu eu ou en er => ?_)
    · exact ha.nonOf (e0.trans (by rw [z]; rfl))
    · exact fine .non u (by rw [z]; rfl) hu eu ou .non
    · exact (ha.nonOf (e0.trans (by rw [z]; rfl))).elim
    · exact (ha.nonOf (e0.trans (by rw [z]; rfl))).elim
    · exact fine v u (by rw [z]; rfl) hu eu ou ru
    · have hf : fin y.ν.length fn.kp (ev y.ν.length (startE fn ds) y.ν) = leaveX y.ν.length q ν' := by rw [z]; rfl
      subst hu
      cases hl : leaveX y.ν.length q u.ν with
      | none => exact (ha.nonOf (e0.trans (hf.trans hl))).elim
      | some r =>
        obtain ⟨r, ν2⟩ := r
        obtain ⟨d', t, rfl, ht, hH, ot, et, rt⟩ := leaveX_ok rfl ok.up ou eu er hl
        have := ha.exOf (e0.trans (hf.trans hl)) c dx t ht et ot rt
        rw [hH] at this
        exact this
end
end EF

/-! EN: does a text match a word of the small language: the check. -/
namespace EF
open PySem PySem.Spec PyProof.Rows L2

/-- names by number -/
structure Top where
  fnm : Nat → Str
  nF : Nat
  cnm : Nat → Str
  enm : Nat → Str
  nE : Nat
  gnm : Nat → Str
  nG : Nat
  /-- keyword calls: the function (or class), how many positional values, the keywords -/
  kwf : Nat → Nat
  kwc : Nat → Nat
  kwn : Nat → Nat
  kws : Nat → List Str
  fld : Nat → Str
  nfl : Nat
  gcd : Bool
structure Ck where
  N : List Str
  sc : Scope
  fn : Str → Bool
def dbgB (x : Str) : Bool := !(x == ("__debug__" : Str)) && !(x == ("__classdict__" : Str))
def visB (C : Ck) (i : Nat) (x : Str) : Bool := decide (C.N[i]? = some x) && dbgB x && (match C.sc.names.lookup x with
  | some .local => true
  | some .cell => true
  | some .free => true
  | _ => false)
def glB (C : Ck) (x : Str) : Bool := dbgB x && (match C.sc.names.lookup x with
  | some .globalImplicit => true
  | _ => false)
def locB (C : Ck) (i : Nat) (x : Str) : Bool := decide (C.N[i]? = some x) && (match C.sc.names.lookup x with
  | some .local => true
  | some .cell => C.fn x
  | _ => false)
def litB : D → Const → Bool
  | .non, .none => true
  | .bl a, .bool b => a == b
  | .int i, .int j => decide (i = j)
  | .str x, .str y => decide (x = y)
  | _, _ => false
def biN : Bi → Str
  | .len => "len"
  | .int => "int"
  | .abs => "abs"
  | .gcd => "gcd"
  | .sum => "sum"
  | .all => "all"
  | .any => "any"
  | .tuple => "tuple"
  | .list => "list"
  | .str => "str"
  | .min2 => "min"
  | .max2 => "max"
  | .dict => "dict"
def tyNm : Nat → Str
  | 0 => "int"
  | 1 => "bool"
  | 2 => "str"
  | 3 => "list"
  | 4 => "tuple"
  | 5 => "dict"
  | _ => "?"
def opB (o : Operator) (b : Bop) : Bool := match o, b with
  | .Add, .add => true
  | .Sub, .sub => true
  | .Mult, .mul => true
  | .FloorDiv, .fdv => true
  | .Mod, .mod => true
  | .Pow, .pow => true
  | _, _ => false
def cpB (o : CmpOp) (b : Cop) : Bool := match o, b with
  | .Eq, .eq => true
  | .NotEq, .ne => true
  | .Lt, .lt => true
  | .LtE, .le => true
  | .Gt, .gt => true
  | .GtE, .ge => true
  | .Is, .is => true
  | .IsNot, .isnot => true
  | .In, .inn => true
  | .NotIn, .notin => true
  | _, _ => false
def tgIx : Tg → List Nat
  | .nm i => [i]
  | .tp is => is
section
variable (tp : Top) (nC : Nat)
/-- a class's name -/
def clB (C : Ck) (c : Cl) (x : Expr) : Bool := match x with
  | .Name y _ => glB C y && (match c with
    | .ty t => decide (t < 6) && decide (y = tyNm t)
    | .own c => decide (c < nC) && decide (y = tp.cnm c))
  | _ => false
def clsB (C : Ck) : List Cl → List Expr → Bool
  | [], [] => true
  | c :: cs, x :: xs => clB tp nC C c x && clsB C cs xs
  | _, _ => false
def clssB (C : Ck) (cs : List Cl) (x : Expr) : Bool := match x with
  | .Tuple xs _ _ => decide (cs ≠ []) && decide (cs.length < 100) && clsB tp nC C cs xs
  | x => match cs with
    | [c] => clB tp nC C c x
    | _ => false
def nmB (C : Ck) (i : Nat) : Expr → Bool
  | .Name y _ => locB C i y
  | _ => false
def tgNs (C : Ck) : List Nat → List Expr → Bool
  | [], [] => true
  | i :: is, x :: xs => nmB C i x && tgNs C is xs
  | _, _ => false
def tgB (C : Ck) (t : Tg) (x : Expr) : Bool := match t with
  | .nm i => (match x with
    | .Name y _ => locB C i y
    | _ => false)
  | .tp is => (match x with
    | .Tuple xs _ _ => tgNs C is xs
    | _ => false)
def ownP (C : Ck) (own : List Nat) : List (Str × Nat) := own.map fun i => (C.N.getD i Str.empty, i)
def Ck.blk (C : Ck) (scope : Scope) : Ck := ⟨C.N, relS scope C.sc, fun x => scope.names.lookup x == some .cell⟩
def key1 : DK → Option Expr → Bool
  | .one (.inr z), some (.Constant (.str y) _ _) => decide (z = y)
  | _, _ => false
def lit1 : E → Expr → Bool
  | .lit d, .Constant c _ _ => litB d c
  | _, _ => false
/-- a dict display of constants -/
def dspB : List DK → Es → List (Option Expr) → List Expr → Bool
  | [], .nil, [], [] => true
  | k :: ks, .cons e r, x :: xs, v :: vs => key1 k x && lit1 e v && dspB ks r xs vs
  | _, _, _, _ => false
def kwB (ks : List Str) : List Keyword → Bool
  | [] => ks.isEmpty
  | ⟨nm, _, _⟩ :: r => match ks with
    | k :: ks => decide (nm = some k) && kwB ks r
    | [] => false
def kwVs (l : List Keyword) : List Expr := l.map fun k => k.value
/-- an f-string's part -/
def partB (f : Expr → Bool) (e : E) (x : Expr) : Bool := match x with
  | .Constant c _ _ => (match e with
    | .lit (.str z) => litB (.str z) c
    | _ => false)
  | .FormattedValue y (-1) none _ => f y
  | _ => false
/-- no call by name without values -/
def noCall : Expr → Bool
  | .Call (.Name _ _) [] [] _ => false
  | _ => true
mutual
def chkE (C : Ck) : E → Expr → Bool
  | .var i, x => match x with
    | .Name y _ => visB C i y
    | _ => false
  | .lit d, x => match x with
    | .Constant c _ _ => litB d c
    | _ => false
  | .glb k, x => match x with
    | .Name y _ => glB C y && decide (k < tp.nG) && decide (y = tp.gnm k)
    | _ => false
  | .bin op a b, x => match x with
    | .BinOp l o r _ => opB o op && chkE C a l && chkE C b r
    | _ => false
  | .cmp op a b, x => match x with
    | .Compare l [o] [r] _ => cpB o op && chkE C a l && chkE C b r
    | _ => false
  | .chn o1 o2 a b c, x => match x with
    | .Compare l [p1, p2] [r1, r2] _ => cpB p1 o1 && cpB p2 o2 && chkE C a l && chkE C b r1 && chkE C c r2
    | _ => false
  | .not a, x => match x with
    | .UnaryOp .Not y _ => chkE C a y
    | _ => false
  | .neg a, x => match x with
    | .UnaryOp .USub y _ => chkE C a y
    | _ => false
  | .and a b, x => match x with
    | .BoolOp .And (l :: r :: rest) pos => chkE C a l && (match rest with
      | [] => chkE C b r
      | _ :: _ => chkE C b (.BoolOp .And (r :: rest) pos))
    | _ => false
  | .or a b, x => match x with
    | .BoolOp .Or (l :: r :: rest) pos => chkE C a l && (match rest with
      | [] => chkE C b r
      | _ :: _ => chkE C b (.BoolOp .Or (r :: rest) pos))
    | _ => false
  | .ife c a b, x => match x with
    | .IfExp t y z _ => chkE C c t && chkE C a y && chkE C b z
    | _ => false
  | .tup es, x => match x with
    | .Tuple xs _ _ => chkEs C es xs
    | _ => false
  | .lst _ es, x => match x with
    | .List xs _ => chkEs C es xs
    | _ => false
  | .dsp _ ks es, x => match x with
    | .Dict xs vs _ => dspB ks es xs vs && decide ks.Nodup
    | _ => false
  | .call f es, x => match x with
    | .Call (.Name y _) xs [] _ => glB C y && decide (f < tp.nF) && decide (y = tp.fnm f) && chkEs C es xs
    | _ => false
  | .callk f j es ks, x => match x with
    | .Call (.Name y _) xs (k :: kws) _ => glB C y && decide (f < tp.nF) && decide (y = tp.fnm f) && decide (tp.kwf j = f) && decide (tp.kwn j = xs.length) && kwB (tp.kws j) (k :: kws) && chkEs C es xs && chkEs C ks (kwVs (k :: kws))
    | _ => false
  | .star f a, x => match x with
    | .Call (.Name y _) [.Starred z _] [] _ => glB C y && decide (f < tp.nF) && decide (y = tp.fnm f) && chkE C a z
    | _ => false
  | .bi nw b es, x => match x with
    | .Call (.Name y _) (z :: xs) [] _ => glB C y && decide (y = biN b) && (!nw || b.new) && (decide (b ≠ .gcd) || tp.gcd) && chkEs C es (z :: xs)
    | _ => false
  | .mt nw m o es, x => match x with
    | .Call (.Attribute y n ap) (z :: xs) [] cp => decide (n = mtName m) && decide (m ≠ .get) && noCall y && (!nw || m.new) && (ap.endLine == cp.line) && decide (xs.length < 20) && chkE C o y && chkEs C es (z :: xs)
    | _ => false
  | .attr o f, x => match x with
    | .Attribute y n _ => decide (f < tp.nfl) && noCall y && decide (n = tp.fld f) && chkE C o y
    | _ => false
  | .idx a i, x => match x with
    | .Subscript y z _ => chkE C a y && chkE C i z
    | _ => false
  | .sli _ a lo hi, x => match x with
    | .Subscript y (.Slice l h none _) _ => chkE C a y && chkO C lo l && chkO C hi h
    | _ => false
  | .rev a, x => match x with
    | .Subscript y (.Slice none none (some (.UnaryOp .USub (.Constant (.int 1) _ _) _)) _) _ => chkE C a y
    | _ => false
  | .isi a cs, x => match x with
    | .Call (.Name y _) [z, c] [] _ => glB C y && decide (y = ("isinstance" : Str)) && chkE C a z && clssB tp nC C cs c
    | _ => false
  | .comp _ el tg it cd own, x => match x with
    | .ListComp e [⟨t, i, ifs, 0⟩] scope _ => (tgIx tg).all (fun i => decide (i ∈ own)) && blkC C.N C.sc scope (ownP C own) && chkI C it i && tgB (C.blk scope) tg t && chkC (C.blk scope) cd ifs && chkE (C.blk scope) el e
    | _ => false
  | .mk c es, x => match x with
    | .Call (.Name y _) xs [] _ => glB C y && decide (c < nC) && decide (y = tp.cnm c) && chkEs C es xs
    | _ => false
  | .mkk _ _ _ _, _ => false
  | .fst es, x => match x with
    | .JoinedStr (y :: z :: vs) _ => chkJ C es (y :: z :: vs)
    | _ => false
  | .lck _ a, x => match x with
    | .ListComp e gs scope p => chkE C a (.ListComp e gs scope p)
    | _ => false
def chkEs (C : Ck) : Es → List Expr → Bool
  | .nil, xs => xs.isEmpty
  | .cons e r, xs => match xs with
    | x :: xs => chkE C e x && chkEs C r xs
    | [] => false
def chkO (C : Ck) : Oe → Option Expr → Bool
  | .none, x => x.isNone
  | .some e, x => match x with
    | some y => chkE C e y
    | none => false
def chkC (C : Ck) : Oe → List Expr → Bool
  | .none, xs => xs.isEmpty
  | .some e, xs => match xs with
    | [y] => chkE C e y
    | _ => false
def chkI (C : Ck) : It → Expr → Bool
  | .val e, x => chkE C e x
  | .rng es, x => match x with
    | .Call (.Name y _) xs [] _ => glB C y && decide (y = ("range" : Str)) && (decide (xs.length = 1) || decide (xs.length = 2)) && chkEs C es xs
    | _ => false
def chkJ (C : Ck) : Es → List Expr → Bool
  | .nil, xs => xs.isEmpty
  | .cons e r, xs => match xs with
    | x :: xs => partB (chkE C e) e x && chkJ C r xs
    | [] => false
end
end
end EF

/-! EO: a rule for each word of the small language, over its parts. -/
namespace EF
open PySem PySem.Spec PyProof.Rows L2

theorem M.assoc {α β γ : Type} {m : M α} {f : α → M β} {g : β → M γ} : (m.bind f).bind g = m.bind fun a => (f a).bind g := by
  funext ν
  unfold M.bind
  cases m ν with
  | none => rfl
  | some r =>
    obtain ⟨r, ν'⟩ := r
    cases r <;> rfl
theorem M.bind_congr {α β : Type} {m : M α} {f g : α → M β} (h : ∀ a ν, f a ν = g a ν) {ν : Sto} : m.bind f ν = m.bind g ν := by
  rw [show f = g from funext fun a => funext fun ν => h a ν]
section
variable {α β : Type} {m : M α} {f : α → M β} {g : Sto → Option α} {ν ν' : Sto} {a : α} {x : Exn}
theorem M.look_ok (h : g ν = some a) : M.look g ν = some (.ok a, ν) := by unfold M.look; rw [h]
theorem M.look_no (h : g ν = none) : M.look g ν = none := by unfold M.look; rw [h]
theorem M.bind_ok (h : m ν = some (.ok a, ν')) : m.bind f ν = f a ν' := by unfold M.bind; rw [h]
theorem M.bind_ex (h : m ν = some (.ex x, ν')) : m.bind f ν = some (.ex x, ν') := by unfold M.bind; rw [h]
theorem M.bind_no (h : m ν = none) : m.bind f ν = none := by unfold M.bind; rw [h]
end
section
variable {X : Cx} {G : Gx} {n0 : Nat} {W : WX} {l r c e : Expr} {pos : Pos} {a b d : Env → M D}
theorem c_var {i : Nat} {y : Str} {p : Pos} (hN : X.N[i]? = some y) (hv : Vis X.env.scope y) (hd : (y == ("__debug__" : Str)) = false) (hcd : (y == ("__classdict__" : Str)) = false) : PE X (.Name y p) (tofE G n0 W fun env => M.lift (env[i]?.bind id)) := by
  refine PE.wk (pe_var hN hv hd hcd) fun σ H Q h => ?_
  obtain ⟨x, env, rfl, ok, en, h⟩ := h
  obtain ⟨v, hv, k⟩ := h.lift
  have e : env[i]? = some (some v) := by
    cases e : env[i]? with
    | none => rw [e] at hv; cases hv
    | some o => rw [e] at hv; exact congrArg some hv
  obtain ⟨w, h1, h2⟩ := en.at_ i v e
  exact ⟨w, h1, k w x rfl (.refl x) ok h2⟩
/-- a value that is told -/
theorem c_const {v : V} {z : D} (h : PE X e (tC v)) (hr : ∀ y : Sit, Rep G y.ρ y.S z v) : PE X e (tofE G n0 W fun _ => M.pure z) := by
  refine PE.wk h fun σ H Q h => ?_
  obtain ⟨x, env, rfl, ok, en, h⟩ := h
  exact h.pure ok (hr x)
theorem c_glb {v : V} {o : Option D} (h : PE X e (tC v)) (hr : ∀ z, o = some z → ∀ y : Sit, Rep G y.ρ y.S z v) : PE X e (tofE G n0 W fun _ => M.lift o) := by
  refine PE.wk h fun σ H Q h => ?_
  obtain ⟨x, env, rfl, ok, en, h⟩ := h
  obtain ⟨z, hz, k⟩ := h.lift
  exact k v x rfl (.refl x) ok (hr z hz x)
theorem c_bin (hK : G.K = X.K) {op : Bop} (ha : PE X l (tofE G n0 W a)) (hb : PE X r (tofE G n0 W b)) : PE X (.BinOp l (opOf op) r pos) (tofE G n0 W fun env => (a env).bind fun x => (b env).bind fun y => M.look fun ν => binD op (un ν x) (un ν y)) := by
  refine PE.wk (pe_op (op_bin (n0 := n0) hK op) ha hb) fun σ H Q h => ?_
  obtain ⟨x, env, rfl, ok, en, h⟩ := h
  refine ⟨x, env, rfl, ok, en, h.bind fun u v y ey oy ry h => ⟨y, env, rfl, oy, en.mono ey, h.bind fun u' v' z ez oz rz h => ?_⟩⟩
  obtain ⟨t, ht, k⟩ := h.look
  exact ⟨z, u, u', t, rfl, oz, ez.rep ry, rz, ht, k⟩
theorem c_cmp (hK : G.K = X.K) (hu : X.A.units + 8 < cLine) {op : Cop} (ha : PE X l (tofE G n0 W a)) (hb : PE X r (tofE G n0 W b)) (hm : behindInMarks (cpOf op) r = false) : PE X (.Compare l [cpOf op] [r] pos) (tofE G n0 W fun env => (a env).bind fun x => (b env).bind fun y => M.look fun ν => (cmpD ν op x y).map .bl) := by
  refine PE.wk (pe_cmpR (op_cmp (n0 := n0) hK hu op) ha hb hm) fun σ H Q h => ?_
  obtain ⟨x, env, rfl, ok, en, h⟩ := h
  refine ⟨x, env, rfl, ok, en, h.bind fun u v y ey oy ry h => ⟨y, env, rfl, oy, en.mono ey, h.bind fun u' v' z ez oz rz h => ?_⟩⟩
  obtain ⟨t, ht, k⟩ := h.look
  rw [Option.map_eq_some_iff] at ht
  obtain ⟨q, hq, rfl⟩ := ht
  exact ⟨z, u, u', q, rfl, oz, ez.rep ry, rz, hq, k⟩
theorem c_chn (hK : G.K = X.K) (hu : X.A.units + 8 < cLine) {o1 o2 : Cop} (ha : PE X l (tofE G n0 W a)) (hb : PE X r (tofE G n0 W b)) (hc : PE X c (tofE G n0 W d)) (hm : lastMarks [cpOf o1, cpOf o2] [r, c] = false) :
    PE X (.Compare l [cpOf o1, cpOf o2] [r, c] pos) (tofE G n0 W fun env => (a env).bind fun x => (b env).bind fun y => (M.look fun ν => cmpD ν o1 x y).bind fun k => match k with
      | true => (d env).bind fun z => M.look fun ν => (cmpD ν o2 y z).map .bl
      | false => M.pure (.bl false)) := by
  refine PE.wk (pe_chain (op_cmp (n0 := n0) hK hu o1) (op_cmp (n0 := n0) hK hu o2) ha hb hc hm) fun σ H Q h => ?_
  obtain ⟨x, env, rfl, ok, en, h⟩ := h
  refine ⟨x, env, rfl, ok, en, h.bind fun u v y ey oy ry h => ⟨y, env, rfl, oy, en.mono ey, h.bind fun u' v' z ez oz rz h => ?_⟩⟩
  obtain ⟨k, hk, h⟩ := h.lookBind
  refine ⟨z, u, u', k, rfl, oz, ez.rep ry, rz, hk, fun w t ht et ot rt => ⟨k, rt.blV, ?_⟩⟩
  cases k with
  | true =>
    rw [if_pos rfl]
    have h := h.from et (k := (d env).bind fun z => M.look fun ν => (cmpD ν o2 u' z).map .bl) (by rw [ht])
    refine ⟨t, env, rfl, ot, (en.mono ey).mono (ez.trans et), h.bind fun u2 v2 q eq oq rq h => ?_⟩
    obtain ⟨w2, hw, k⟩ := h.look
    rw [Option.map_eq_some_iff] at hw
    obtain ⟨b2, hb, rfl⟩ := hw
    exact ⟨q, u', u2, b2, rfl, oq, eq.rep (et.rep rz), rq, hb, k⟩
  | false =>
    rw [if_neg Bool.false_ne_true]
    exact (h.from et (k := M.pure (.bl false)) (by rw [ht])).pure ot (.bl false)

/-! ### truth -/
def tst (a : Env → M D) : Env → M Bool := fun env => (a env).bind fun x => M.look fun ν => tru (un ν x)
theorem c_not (hK : G.K = X.K) (ha : PE X e (tofE G n0 W a)) : PE X (.UnaryOp .Not e pos) (tofE G n0 W fun env => (a env).bind fun x => M.look fun ν => (tru (un ν x)).map fun b => .bl (!b)) := by
  refine ⟨fun pins s σ H Q I h => ?_⟩
  obtain ⟨x, env, rfl, ok, en, h⟩ := h
  refine UnaryOp_ (thn (ha.run pins s σ x.H (fun v H1 => ∃ k, TruW X.K v H1 k ∧ Q (.bl (!k)) H1) I ⟨x, env, rfl, ok, en, h.bind fun u v y ey oy ry h => ?_⟩) fun v s1 ⟨w, H1, I1, r1, k, e1, q1⟩ => ?_)
  · obtain ⟨t, ht, k⟩ := h.look
    rw [Option.map_eq_some_iff] at ht
    obtain ⟨q, hq, rfl⟩ := ht
    exact ⟨q, tru_of hK oy ry hq, k (.bl (!q)) y rfl (.refl y) oy (.bl _)⟩
  · exact not_of (thn (truW_ok pins s1 σ H1 w v (fun c H2 => Q (.bl (!c)) H2) I1 r1 ⟨k, e1, q1⟩) fun c s2 ⟨H2, I2, q2⟩ => ⟨.bl (!c), H2, I2, rfl, q2⟩)
theorem c_neg (ha : PE X e (tofE G n0 W a)) : PE X (.UnaryOp .USub e pos) (tofE G n0 W fun env => (a env).bind fun x => M.lift (match x with | .int i => some (.int (-i)) | _ => none)) := by
  refine PE.wk (pe_un un_neg ha) fun σ H Q h => ?_
  obtain ⟨x, env, rfl, ok, en, h⟩ := h
  refine ⟨x, env, rfl, ok, en, h.bind fun u v y ey oy ry h => ?_⟩
  obtain ⟨t, ht, k⟩ := h.lift
  cases u <;> first | (cases ht; done) | skip
  cases ht
  exact ⟨_, ry.intV, k (.int _) y rfl (.refl y) oy (.int _)⟩
theorem c_and {rest : List Expr} (hK : G.K = X.K) (ha : PE X l (tofE G n0 W a)) (hb : PE X (.BoolOp .And (r :: rest) pos) (tofE G n0 W b)) : PE X (.BoolOp .And (l :: r :: rest) pos) (tofE G n0 W fun env => (a env).bind fun x => (M.look fun ν => tru (un ν x)).bind fun k => match k with
      | true => b env
      | false => M.pure x) := by
  refine ⟨fun pins s σ H Q I h => ?_⟩
  obtain ⟨x, env, rfl, ok, en, h⟩ := h
  refine BoolOp_and (thn (ha.run pins s σ x.H (fun v H1 => ∃ k, TruW X.K v H1 k ∧ if k = true then tofE G n0 W b σ H1 Q else Q v H1) I ⟨x, env, rfl, ok, en, h.bind fun u v y ey oy ry h => ?_⟩) fun v s1 ⟨w, H1, I1, r1, k, e1, q1⟩ => ?_)
  · obtain ⟨k, hk, h⟩ := h.lookBind
    refine ⟨k, tru_of hK oy ry hk, ?_⟩
    cases k with
    | true => rw [if_pos rfl]; exact ⟨y, env, rfl, oy, en.mono ey, h⟩
    | false => rw [if_neg Bool.false_ne_true]; exact h.pure oy ry
  · refine thn (truW_ok pins s1 σ H1 w v (fun c H2 => c = k ∧ H2 = H1) I1 r1 ⟨k, e1, rfl, rfl⟩) fun c s2 hc => ?_
    obtain ⟨H2, I2, e1, e2⟩ := hc
    rw [e2] at I2
    rw [← e1] at q1
    cases c with
    | true => exact hb.run pins s2 σ H1 Q I2 q1
    | false => exact ⟨w, H1, I2, r1, q1⟩
theorem c_or {rest : List Expr} (hK : G.K = X.K) (ha : PE X l (tofE G n0 W a)) (hb : PE X (.BoolOp .Or (r :: rest) pos) (tofE G n0 W b)) : PE X (.BoolOp .Or (l :: r :: rest) pos) (tofE G n0 W fun env => (a env).bind fun x => (M.look fun ν => tru (un ν x)).bind fun k => match k with
      | true => M.pure x
      | false => b env) := by
  refine ⟨fun pins s σ H Q I h => ?_⟩
  obtain ⟨x, env, rfl, ok, en, h⟩ := h
  refine BoolOp_or (thn (ha.run pins s σ x.H (fun v H1 => ∃ k, TruW X.K v H1 k ∧ if k = true then Q v H1 else tofE G n0 W b σ H1 Q) I ⟨x, env, rfl, ok, en, h.bind fun u v y ey oy ry h => ?_⟩) fun v s1 ⟨w, H1, I1, r1, k, e1, q1⟩ => ?_)
  · obtain ⟨k, hk, h⟩ := h.lookBind
    refine ⟨k, tru_of hK oy ry hk, ?_⟩
    cases k with
    | false => rw [if_neg Bool.false_ne_true]; exact ⟨y, env, rfl, oy, en.mono ey, h⟩
    | true => rw [if_pos rfl]; exact h.pure oy ry
  · refine thn (truW_ok pins s1 σ H1 w v (fun c H2 => c = k ∧ H2 = H1) I1 r1 ⟨k, e1, rfl, rfl⟩) fun c s2 hc => ?_
    obtain ⟨H2, I2, e1, e2⟩ := hc
    rw [e2] at I2
    rw [← e1] at q1
    cases c with
    | false => exact hb.run pins s2 σ H1 Q I2 q1
    | true => exact ⟨w, H1, I2, r1, q1⟩
theorem c_ife (hc : PT X c (tofB G n0 W (tst d))) (ha : PE X l (tofE G n0 W a)) (hb : PE X r (tofE G n0 W b)) : PE X (.IfExp c l r pos) (tofE G n0 W fun env => (d env).bind fun x => (M.look fun ν => tru (un ν x)).bind fun k => match k with
      | true => a env
      | false => b env) := by
  refine PE.wk (pe_ifExp hc ha hb) fun σ H Q h => ?_
  obtain ⟨x, env, rfl, ok, en, h⟩ := h
  have h : After G n0 (RepR G) W σ x ((tst d env).bind fun k => match k with
      | true => a env
      | false => b env) Q := h.from (.refl x) (by rw [tst, M.assoc])
  refine ⟨x, env, rfl, ok, en, h.bind fun k k' y ey oy ry h => ?_⟩
  have ry : k = k' := ry
  subst ry
  cases k with
  | true => rw [if_pos rfl]; exact ⟨y, env, rfl, oy, en.mono ey, h⟩
  | false => rw [if_neg Bool.false_ne_true]; exact ⟨y, env, rfl, oy, en.mono ey, h⟩

/-! ### tests -/
theorem t_plain (hK : G.K = X.K) (ha : PE X e (tofE G n0 W a)) (he : ∀ whole, isTrue e X.env whole = (do let v ← whole; standAt e.pos; holding [v] (truthy v))) : PT X e (tofB G n0 W (tst a)) := by
  refine ⟨fun pins s σ H Q I h => ?_⟩
  obtain ⟨x, env, rfl, ok, en, h⟩ := h
  refine isTrue_plain (thn (ha.run pins s σ x.H (fun v H1 => ∃ k, TruW X.K v H1 k ∧ Q k H1) I ⟨x, env, rfl, ok, en, h.bind fun u v y ey oy ry h => ?_⟩) fun v s1 ⟨w, H1, I1, r1, q1⟩ => truW_ok pins s1 σ H1 w v Q I1 r1 q1) (he _)
  obtain ⟨t, ht, k⟩ := h.look
  exact ⟨t, tru_of hK oy ry ht, k t y rfl (.refl y) oy rfl⟩
theorem t_bool (ha : PT X e (tTest (tofE G n0 W a))) (hb : ∀ env ν d ν', a env ν = some (.ok d, ν') → ∃ b, d = .bl b) : PT X e (tofB G n0 W (tst a)) := by
  refine PT.wk ha fun σ H Q h => ?_
  obtain ⟨x, env, rfl, ok, en, h⟩ := h
  refine ⟨x, env, rfl, ok, en, h.bindW fun u v y hm ey oy ry h => ?_⟩
  obtain ⟨k, rfl⟩ := hb env _ _ _ hm
  obtain ⟨t, ht, q⟩ := h.look
  cases ht
  exact ⟨k, ry.blV, q k y rfl (.refl y) oy rfl⟩
theorem t_not (ha : PT X e (tofB G n0 W (tst a))) : PT X (.UnaryOp .Not e pos) (tofB G n0 W (tst fun env => (a env).bind fun x => M.look fun ν => (tru (un ν x)).map fun b => .bl (!b))) := by
  refine PT.wk (pt_not ha) fun σ H Q h => ?_
  obtain ⟨x, env, rfl, ok, en, h⟩ := h
  have h : After G n0 EqR' W σ x ((tst a env).bind fun k => M.pure (!k)) Q := h.from (.refl x) (by
    show M.bind (M.bind _ _) _ _ = M.bind (M.bind _ _) _ _
    rw [M.assoc, M.assoc]
    refine M.bind_congr fun d ν => ?_
    cases e : tru (un ν d) with
    | none => rw [M.bind_no (M.look_no (by rw [e]; rfl)), M.bind_no (M.look_no e)]
    | some k =>
      rw [M.bind_ok (M.look_ok (a := .bl (!k)) (by rw [e]; rfl)), M.bind_ok (M.look_ok e)]
      rfl)
  refine ⟨x, env, rfl, ok, en, h.bind fun k k' y ey oy ry h => ?_⟩
  have ry : k = k' := ry
  subst ry
  exact h.pure oy rfl
theorem pw_of {op : BoolOp} {vs : List Expr} {t : TT} (h : PT X (.BoolOp op vs pos) t) : PW X (.BoolOp op vs pos) t := ⟨fun _ pins s σ H Q I hw => h.run pins s σ H Q I hw⟩
theorem t_and {rest : List Expr} (ha : PT X l (tofB G n0 W (tst a))) (hb : PW X (.BoolOp .And (r :: rest) pos) (tofB G n0 W (tst b))) : PT X (.BoolOp .And (l :: r :: rest) pos) (tofB G n0 W (tst fun env => (a env).bind fun x => (M.look fun ν => tru (un ν x)).bind fun k => match k with
      | true => b env
      | false => M.pure x)) := by
  refine PT.wk (pw_and ha hb).pt fun σ H Q h => ?_
  obtain ⟨x, env, rfl, ok, en, h⟩ := h
  have h : After G n0 EqR' W σ x ((tst a env).bind fun k => match k with
      | true => tst b env
      | false => M.pure false) Q := h.from (.refl x) (by
    show M.bind (M.bind _ _) _ _ = M.bind (M.bind _ _) _ _
    rw [M.assoc, M.assoc]
    refine M.bind_congr fun d ν => ?_
    cases e : tru (un ν d) with
    | none => rw [M.bind_no (M.bind_no (M.look_no e)), M.bind_no (M.look_no e)]
    | some k =>
      cases k with
      | true =>
        rw [M.bind_ok (M.look_ok e), M.assoc, M.bind_ok (M.look_ok e)]
        rfl
      | false =>
        rw [M.bind_ok (M.look_ok e), M.assoc, M.bind_ok (M.look_ok e)]
        exact M.look_ok (g := fun ν => tru (un ν d)) e)
  refine ⟨x, env, rfl, ok, en, h.bind fun k k' y ey oy ry h => ?_⟩
  have ry : k = k' := ry
  subst ry
  cases k with
  | true => rw [if_pos rfl]; exact ⟨y, env, rfl, oy, en.mono ey, h⟩
  | false => rw [if_neg Bool.false_ne_true]; exact h.pure oy rfl
theorem t_or {rest : List Expr} (ha : PT X l (tofB G n0 W (tst a))) (hb : PW X (.BoolOp .Or (r :: rest) pos) (tofB G n0 W (tst b))) : PT X (.BoolOp .Or (l :: r :: rest) pos) (tofB G n0 W (tst fun env => (a env).bind fun x => (M.look fun ν => tru (un ν x)).bind fun k => match k with
      | true => M.pure x
      | false => b env)) := by
  refine PT.wk (pw_or ha hb).pt fun σ H Q h => ?_
  obtain ⟨x, env, rfl, ok, en, h⟩ := h
  have h : After G n0 EqR' W σ x ((tst a env).bind fun k => match k with
      | true => M.pure true
      | false => tst b env) Q := h.from (.refl x) (by
    show M.bind (M.bind _ _) _ _ = M.bind (M.bind _ _) _ _
    rw [M.assoc, M.assoc]
    refine M.bind_congr fun d ν => ?_
    cases e : tru (un ν d) with
    | none => rw [M.bind_no (M.bind_no (M.look_no e)), M.bind_no (M.look_no e)]
    | some k =>
      cases k with
      | false =>
        rw [M.bind_ok (M.look_ok e), M.assoc, M.bind_ok (M.look_ok e)]
        rfl
      | true =>
        rw [M.bind_ok (M.look_ok e), M.assoc, M.bind_ok (M.look_ok e)]
        exact M.look_ok (g := fun ν => tru (un ν d)) e)
  refine ⟨x, env, rfl, ok, en, h.bind fun k k' y ey oy ry h => ?_⟩
  have ry : k = k' := ry
  subst ry
  cases k with
  | false => rw [if_neg Bool.false_ne_true]; exact ⟨y, env, rfl, oy, en.mono ey, h⟩
  | true => rw [if_pos rfl]; exact h.pure oy rfl
theorem t_ife (hc : PT X c (tofB G n0 W (tst d))) (ha : PT X l (tofB G n0 W (tst a))) (hb : PT X r (tofB G n0 W (tst b))) : PT X (.IfExp c l r pos) (tofB G n0 W (tst fun env => (d env).bind fun x => (M.look fun ν => tru (un ν x)).bind fun k => match k with
      | true => a env
      | false => b env)) := by
  refine ⟨fun pins s σ H Q I h => ?_⟩
  obtain ⟨x, env, rfl, ok, en, h⟩ := h
  have h : After G n0 EqR' W σ x ((tst d env).bind fun k => match k with
      | true => tst a env
      | false => tst b env) Q := h.from (.refl x) (by
    show M.bind (M.bind _ _) _ _ = M.bind (M.bind _ _) _ _
    rw [M.assoc, M.assoc]
    refine M.bind_congr fun d ν => ?_
    cases e : tru (un ν d) with
    | none => rw [M.bind_no (M.bind_no (M.look_no e)), M.bind_no (M.look_no e)]
    | some k => cases k <;> rw [M.bind_ok (M.look_ok e), M.assoc, M.bind_ok (M.look_ok e)] <;> rfl)
  refine isTrue_IfExp (thn (hc.run pins s σ x.H (fun k H1 => if k = true then tofB G n0 W (tst a) σ H1 Q else tofB G n0 W (tst b) σ H1 Q) I ⟨x, env, rfl, ok, en, h.bind fun k k' y ey oy ry h => ?_⟩) fun k s1 ⟨H1, I1, q1⟩ => ?_)
  · have ry : k = k' := ry
    subst ry
    cases k with
    | true => rw [if_pos rfl]; exact ⟨y, env, rfl, oy, en.mono ey, h⟩
    | false => rw [if_neg Bool.false_ne_true]; exact ⟨y, env, rfl, oy, en.mono ey, h⟩
  · cases k with
    | true => exact ha.run pins s1 σ H1 Q I1 q1
    | false => exact hb.run pins s1 σ H1 Q I1 q1
end
end EF

/-! EP: rules for lists of values, displays, calls, places. -/
namespace EF
open PySem PySem.Spec PyProof.Rows L2

section
variable {X : Cx} {G : Gx} {n0 : Nat} {W : WX} {l r c e : Expr} {pos : Pos} {a b d : Env → M D} {es : List Expr} {as : Env → M (List D)}
theorem c_nil : PA X [] (tofA G n0 W fun _ => M.pure []) := by
  refine PA.wk pa_nil fun σ H Q h => ?_
  obtain ⟨x, env, rfl, ok, en, h⟩ := h
  exact h.pure ok .nil
theorem c_cons (ha : PE X e (tofE G n0 W a)) (hr : PA X es (tofA G n0 W as)) (hs : starEach (e :: es) X.env = (false, eval e X.env) :: starEach es X.env) : PA X (e :: es) (tofA G n0 W fun env => (a env).bind fun d => (as env).bind fun ds => M.pure (d :: ds)) := by
  refine PA.wk (pa_cons ha hr hs) fun σ H Q h => ?_
  obtain ⟨x, env, rfl, ok, en, h⟩ := h
  refine ⟨x, env, rfl, ok, en, h.bind fun u v y ey oy ry h => ⟨y, env, rfl, oy, en.mono ey, h.bind fun us vs z ez oz rz h => ?_⟩⟩
  exact h.pure oz (.cons (ez.rep ry) rz)
theorem c_tup {k : Nat} (h : PA X es (tofA G n0 W as)) : PE X (.Tuple es k pos) (tofE G n0 W fun env => (as env).bind fun ds => if ds.length ≤ sizeLine then M.pure (.tup ds) else M.fail) := by
  refine PE.wk (pe_tup h) fun σ H Q h => ?_
  obtain ⟨x, env, rfl, ok, en, h⟩ := h
  refine ⟨x, env, rfl, ok, en, h.bind fun us vs y ey oy ry h => ?_⟩
  by_cases hz : us.length ≤ sizeLine
  · rw [if_pos hz] at h
    refine ⟨by rw [← ry.length]; exact hz, fun p hp => ?_⟩
    exact Give.newT (fun v z h1 h2 h3 h4 => h.okOf (ν' := y.ν) rfl v z h1 h2 h3 h4) oy ry p hp
  · rw [if_neg hz] at h
    exact (h.nonOf rfl).elim
theorem c_lst {nw : Bool} (h : PA X es (tofA G n0 W as)) : PE X (.List es pos) (tofE G n0 W fun env => (as env).bind fun ds => layL nw ds) := by
  refine PE.wk (pe_lst h) fun σ H Q h => ?_
  obtain ⟨x, env, rfl, ok, en, h⟩ := h
  refine ⟨x, env, rfl, ok, en, h.bind fun us vs y ey oy ry h => ?_⟩
  unfold layL at h
  by_cases hz : us.length ≤ sizeLine
  · rw [if_pos hz] at h
    exact ⟨by rw [← ry.length]; exact hz, fun p hp => h.new oy hp (.lst ry)⟩
  · rw [if_neg hz] at h
    exact (h.nonOf rfl).elim
/-- a built-in function or type is called -/
theorem c_bi {y : Str} {p : Pos} {nw : Bool} {bi : Bi} (hK : G.K = X.K) (hc : X.calm = true) (hb : nw = true → bi.new = true) (hg : Gl X y) (hm : (bi = .gcd ∧ X.mg y = some (.builtin "math.gcd")) ∨ (X.mg y = none ∧ bootBuiltins y = some (biV bi))) (hn : y ≠ "__name__") (hd : (y == ("__debug__" : Str)) = false)
    (ha : PA X (e :: es) (tofA G n0 W as)) (he : starEach (e :: es) X.env = (false, eval e X.env) :: starEach es X.env) (hpl : (backTo pos (starEach es X.env)).any (·.1) = false) :
    PE X (.Call (.Name y p) (e :: es) [] pos) (tofE G n0 W fun env => (as env).bind fun ds => (M.look fun ν => biD ν bi ds).bind fun d => mkNew nw d) := by
  have base : PE X (.Call (.Name y p) (e :: es) [] pos) (tCB (rBi G n0 nw bi) (tofA G n0 W as)) := by
    rcases hm with ⟨rfl, hm⟩ | ⟨hm, hv⟩
    · exact pe_callBfun (rBi_ok hK hc .gcd hb) hg hm ha hd he hpl
    · have hR := rBi_ok (n0 := n0) (nw := nw) hK hc bi hb
      cases bi <;> first
        | exact pe_callB hR hg hm hv ha hn hd he hpl
        | exact pe_callTy hR hg hm hv ha hn hd he hpl
  refine PE.wk base fun σ H Q h => ?_
  obtain ⟨x, env, rfl, ok, en, h⟩ := h
  refine ⟨x, env, rfl, ok, en, h.bind fun us vs y ey oy ry h => ?_⟩
  obtain ⟨r, hr, h⟩ := h.lookBind
  exact ⟨y, us, r, rfl, oy, ry, hr, Mkd.of h⟩
/-- o.m(e, ..) -/
theorem c_mt {nw : Bool} {m : Mt} {ap : Pos} (hne : m ≠ .get) (hK : G.K = X.K) (hm : nw = true → m.new = true) (ho : PE X c (tofE G n0 W a)) (ha : PA X (e :: es) (tofA G n0 W as)) (hbase : attributeBase c (mtName m) X.env (eval c X.env) = eval c X.env)
    (hfew : ((backTo pos (starEach (e :: es) X.env)).all (fun x => !x.1) && (backToKw pos (keywordEach [] X.env)).all (fun x => x.1.isSome)
      && decide ((e :: es).length + ([] : List Keyword).length + (if ([] : List Keyword).isEmpty then 0 else 1) < 30)) = true)
    (hline : (ap.endLine == pos.line) = true) (hs : starEach (e :: es) X.env = (false, eval e X.env) :: starEach es X.env) (hpl : (backTo pos (starEach es X.env)).any (·.1) = false) :
    PE X (.Call (.Attribute c (mtName m) ap) (e :: es) [] pos) (tofE G n0 W fun env => (a env).bind fun x => (M.look fun ν => mtTy m (un ν x)).bind fun _ => (as env).bind fun ds => mtE n0 nw m x ds) := by
  have base : PE X (.Call (.Attribute c (mtName m) ap) (e :: es) [] pos) (tBM X.K (mtT m) (rMt G n0 nw m) (tofE G n0 W a) (tofA G n0 W as)) := by
    have hR := mt_all (n0 := n0) (nw := nw) (m := m) hK hm
    cases m with
    | partition => exact pe_bm PySem.F.plainAttrs_str PySem.F.slot_str_partition PySem.F.type_str_partition hR ho ha hbase hfew hline hs hpl
    | split => exact pe_bm PySem.F.plainAttrs_str PySem.F.slot_str_split PySem.F.type_str_split hR ho ha hbase hfew hline hs hpl
    | join => exact pe_bm PySem.F.plainAttrs_str PySem.F.slot_str_join PySem.F.type_str_join hR ho ha hbase hfew hline hs hpl
    | index => exact pe_bm PySem.F.plainAttrs_str PySem.F.slot_str_index PySem.F.type_str_index hR ho ha hbase hfew hline hs hpl
    | append => exact pe_bm PySem.F.plainAttrs_list PySem.F.slot_list_append PySem.F.type_list_append hR ho ha hbase hfew hline hs hpl
    | get => exact absurd rfl hne
  refine PE.wk base fun σ H Q h => ?_
  obtain ⟨x, env, rfl, ok, en, h⟩ := h
  refine ⟨x, env, rfl, ok, en, h.bind fun u v y ey oy ry h => ?_⟩
  obtain ⟨t, ht, h⟩ := h.lookBind
  refine ⟨mtTy_ok hK oy ry ht, y, env, rfl, oy, en.mono ey, h.bind fun us vs z ez oz rz h => ?_⟩
  exact ⟨W, σ, z, u, us, rfl, oz, ez.rep ry, rz, h⟩
theorem c_attr {f : Nat} (hK : G.K = X.K) (F : ClsK G) (hf : FldK G f) (inj : ∀ g, G.fld g = G.fld f → g = f) (ha : PE X e (tofE G n0 W a)) (hb : attributeBase e (G.fld f) X.env (eval e X.env) = eval e X.env) : PE X (.Attribute e (G.fld f) pos) (tofE G n0 W fun env => (a env).bind fun x => M.look fun ν => attrD ν x f) := by
  refine ⟨fun pins s σ H Q I h => ?_⟩
  obtain ⟨x, env, rfl, ok, en, h⟩ := h
  refine attr_of hb (thn (ha.run pins s σ x.H (fun v H1 => ∃ (y : Sit) (d r : D), y.H = H1 ∧ OkS G n0 y ∧ Rep G y.ρ y.S d v ∧ attrD y.ν d f = some r ∧ Give G n0 y r Q) I ⟨x, env, rfl, ok, en, h.bind fun u v y ey oy ry h => ?_⟩) fun u s1 ⟨v, H1, I1, rv, y, d, r, hH, oy, ry, hr, g⟩ => ?_)
  · obtain ⟨t, ht, k⟩ := h.look
    exact ⟨y, u, t, rfl, oy, ry, ht, k⟩
  · subst hH
    exact attr_ok hK F hf inj I1 oy ry rv hr fun w u' s' I' q rw' => ⟨w, _, I', rw', g.here oy q⟩
theorem c_idx (hK : G.K = X.K) (hu : X.A.units + 8 < cLine) (ha : PE X l (tofE G n0 W a)) (hb : PE X r (tofE G n0 W b)) (hs : PlainIx r) : PE X (.Subscript l r pos) (tofE G n0 W fun env => (a env).bind fun x => (b env).bind fun y => M.look fun ν => idxD ν x y) := by
  refine PE.wk (pe_ix (ix_all (n0 := n0) hK hu) ha hb hs) fun σ H Q h => ?_
  obtain ⟨x, env, rfl, ok, en, h⟩ := h
  refine ⟨x, env, rfl, ok, en, h.bind fun u v y ey oy ry h => ⟨y, env, rfl, oy, en.mono ey, h.bind fun u' v' z ez oz rz h => ?_⟩⟩
  obtain ⟨t, ht, k⟩ := h.look
  exact ⟨z, u, u', t, rfl, oz, ez.rep ry, rz, ht, k⟩
/-- a slice's parts -/
theorem o_none : PO X none (tofO G n0 W fun _ => M.pure none) := by
  refine PO.wk po_none fun σ H Q h => ?_
  obtain ⟨x, env, rfl, ok, en, h⟩ := h
  exact h.pure ok rfl
theorem o_some (ha : PE X e (tofE G n0 W a)) : PO X (some e) (tofO G n0 W fun env => (a env).bind fun d => M.lift ((oInt d).map some)) := by
  refine PO.wk (po_some ha) fun σ H Q h => ?_
  obtain ⟨x, env, rfl, ok, en, h⟩ := h
  refine ⟨x, env, rfl, ok, en, h.bind fun u v y ey oy ry h => ?_⟩
  obtain ⟨t, ht, k⟩ := h.lift
  rw [Option.map_eq_some_iff] at ht
  obtain ⟨i, hi, rfl⟩ := ht
  cases u <;> first | (cases hi; done) | skip
  cases hi
  exact ⟨_, ry.intV, k _ y rfl (.refl y) oy rfl⟩
theorem c_sli {nw : Bool} {lo hi : Option Expr} {p2 : Pos} {ol oh : Env → M (Option Int)} (hK : G.K = X.K) (ha : PE X l (tofE G n0 W a)) (h1 : PO X lo (tofO G n0 W ol)) (h2 : PO X hi (tofO G n0 W oh)) :
    PE X (.Subscript l (.Slice lo hi none p2) pos) (tofE G n0 W fun env => (a env).bind fun x => (ol env).bind fun l => (oh env).bind fun h => (M.look fun ν => sliD nw ν x l h).bind fun d => mkNew nw d) := by
  refine PE.wk (pe_slice (sl_all (n0 := n0) (nw := nw) hK) ha h1 h2) fun σ H Q h => ?_
  obtain ⟨x, env, rfl, ok, en, h⟩ := h
  refine ⟨x, env, rfl, ok, en, h.bind fun u v y ey oy ry h => ⟨y, env, rfl, oy, en.mono ey, h.bind fun o1 o1' z ez oz rz h => ⟨z, env, rfl, oz, (en.mono ey).mono ez, h.bind fun o2 o2' t et ot rt h => ?_⟩⟩⟩
  have rz : o1 = o1' := rz
  have rt : o2 = o2' := rt
  subst rz rt
  obtain ⟨r, hr, h⟩ := h.lookBind
  exact ⟨t, u, r, rfl, ot, et.rep (ez.rep ry), hr, Mkd.of h⟩
end
end EF

/-! EQ: rules for reversals, isinstance, calls, f-strings. -/
namespace EF
open PySem PySem.Spec PyProof.Rows L2

section
variable {X : Cx} {G : Gx} {n0 : Nat} {W : WX} {l r c e : Expr} {pos : Pos} {a b d : Env → M D} {es : List Expr} {as zs : Env → M (List D)}
theorem rev_str {A : Around} {E : Value → Shared → Prop} {pins : List (Addr × Obj)} {σ : L2.St} {H : Hp} {s : Shared} {z : Str} {t tk : Tok} {sl : Addr} {Q : VK} (I : L2.Inv X pins σ H s) (hs : s.heap.IsSlice sl none none (some (-1, tk))) (hz : z.length ≤ sizeLine) (q : Q (.str ⟨z.cps.toList.reverse.toArray⟩) H) :
    wpAny (model X.prog X.w) A (getItem (.str z t) (.ref sl)) (EP X pins σ Q) E s := by
  refine wpAny_getItem_str_slice hs rfl ?_
  have e1 : slicePicked z none none (some (-1, tk)) = (List.range z.length).reverse := by
    unfold slicePicked
    show Builtin.Str.strSliceIndices none none (-1) z.length = _
    rw [← PySem.W.krv_range, ← PySem.W.krv_sliceRange]
    simp [Builtin.Str.strSliceIndices]
  have e2 : ((slicePicked z none none (some (-1, tk))).filterMap (z.cps[·]?)).toArray = z.cps.toList.reverse.toArray := by
    rw [e1, List.filterMap_reverse]
    congr 2
    exact PySem.W.krv_all z.cps
  unfold sliceMade
  rw [if_neg (by simp)]
  show (Made.str _).post _ _
  rw [e2]
  refine ⟨by simpa [Str.length] using hz, ⟨.str _, H, I.tok _, ⟨_, rfl⟩, q⟩⟩

/-- xs[::-1], z[::-1] -/
theorem c_rev {k : Nat} {p1 p2 p3 : Pos} (hK : G.K = X.K) (ha : PE X e (tofE G n0 W a)) : PE X (.Subscript e (.Slice none none (some (.UnaryOp .USub (.Constant (.int 1) k p1) p2)) p3) pos) (tofE G n0 W fun env => (a env).bind fun x => M.look fun ν => revD ν x) := by
  refine ⟨fun pins s σ H Q I h => ?_⟩
  obtain ⟨x, env, rfl, ok, en, h⟩ := h
  refine Subscript_ (thn (ha.run pins s σ x.H (fun v H1 => ∃ (y : Sit) (d r : D), y.H = H1 ∧ OkS G n0 y ∧ Rep G y.ρ y.S d v ∧ revD y.ν d = some r ∧ Give G n0 y r Q) I ⟨x, env, rfl, ok, en, h.bind fun u v y ey oy ry h => ?_⟩) fun v s1 ⟨w, H1, I1, r1, y, d, r, hH, oy, ry, hr, g⟩ => ?_)
  · obtain ⟨t, ht, k⟩ := h.look
    exact ⟨y, u, t, rfl, oy, ry, ht, k⟩
  subst hH
  have hst : PO X (some (.UnaryOp .USub (.Constant (.int 1) k p1) p2)) (tPart (tUn (rU fun i => .int (-i)) (tC (.int 1)))) := po_some (pe_un un_neg pe_int)
  refine wpAny_Slice (thn (po_none.run pins s1 σ y.H (fun o H2 => o = none ∧ H2 = y.H) I1 ⟨rfl, rfl⟩) fun vl s2 ⟨l, H2, I2, pl, el, e2⟩ => ?_)
  subst el e2
  refine thn (po_none.run pins s2 σ y.H (fun o H3 => o = none ∧ H3 = y.H) I2 ⟨rfl, rfl⟩) fun vu s3 ⟨u, H3, I3, pu, eu, e3⟩ => ?_
  subst eu e3
  refine thn (hst.run pins s3 σ y.H (fun o H4 => o = some (-1) ∧ H4 = y.H) I3 ⟨1, rfl, -1, rfl, rfl, rfl⟩) fun vs s4 ⟨o, H4, I4, ps, eo, e4⟩ => ?_
  subst eo e4
  have I5 : L2.Inv X pins σ y.H { s4 with heap := s4.heap.push { cls := .type "slice", data := .fields #[vl, vu, vs] } } := I4.kept (t' := s4.toks) fun b ob q => Heap.get?_push_of_some _ q
  show wpAny (model X.prog X.w) X.A (subscriptTail e (.Slice none none (some (.UnaryOp .USub (.Constant (.int 1) k p1) p2)) p3) v (.ref s4.heap.objs.size)) (EP X pins σ Q) X.xe { s4 with heap := s4.heap.push { cls := .type "slice", data := .fields #[vl, vu, vs] } }
  unfold revD at hr
  split at hr
  · next xs h1 =>
    cases hr
    obtain ⟨p, ws, rfl, h2, h3⟩ := un_lst oy ry h1
    cases (show v = _ from r1)
    obtain ⟨its, rr, ht, hz⟩ := I5.list (SqL.of h2)
    have hlen := rr.length
    refine tail_any (ops := [.ref p, .ref s4.heap.objs.size]) ht.isList.typeIs (PySem.slot_list_getitem.lookup) ?_ (by with_unfolding_all rfl)
    refine wpAny_getItem_list_slice ht.isList (Heap.IsSliceOf.new _ vl vu vs) pl pu ps (by decide) ?_ (by rw [List.size_toArray]; omega)
    rw [PySem.W.krv_pick]
    refine ⟨.ref _, _, I5.laid (t' := s4.toks) (o := .lst ws.reverse) (fun b ob q => Heap.get?_push_of_some _ q) (Nat.le_refl _) ?_, rfl, g.new oy (.lst h3.reverse) _ (I5.hok.fresh (Nat.le_refl _))⟩
    exact ⟨by rw [List.length_reverse]; exact hz, _, 0, rr.reverse, Heap.get?_push_size _ rfl⟩
  · next z h1 =>
    split at hr
    · next hz =>
      cases hr
      rw [un_str oy ry h1] at r1
      obtain ⟨t, rfl⟩ := (show ∃ t, v = Value.str z t from r1)
      cases pl
      cases pu
      cases ps with
      | int i tk =>
        refine tail_any (ops := [.str z t, .ref s4.heap.objs.size]) (typeIs_str _ _ _) PySem.F.slot_str_getitem.lookup ?_ (by with_unfolding_all rfl)
        exact rev_str (tk := tk) I5 ⟨_, Heap.get?_push_size _ rfl, rfl, rfl⟩ hz (g.here oy (.str _))
    · cases hr
  · cases hr
/-- isinstance(x, c) -/
theorem c_isi1 {y : Str} {p : Pos} {cl : Cl} {cx : Expr} (hK : G.K = X.K) (F : ClsK G) (hf : cl.fit G.nC = true) (hg : Gl X y) (hm : X.mg y = none) (hv : bootBuiltins y = some (.builtin "isinstance")) (hn : y ≠ "__name__") (hd : (y == ("__debug__" : Str)) = false)
    (ha : PE X e (tofE G n0 W a)) (hc : PE X cx (tC (clsV G cl))) (h1 : starEach [e, cx] X.env = (false, eval e X.env) :: starEach [cx] X.env) (h2 : starEach [cx] X.env = (false, eval cx X.env) :: starEach [] X.env) (hpl : (backTo pos (starEach [cx] X.env)).any (·.1) = false) :
    PE X (.Call (.Name y p) [e, cx] [] pos) (tofE G n0 W fun env => (a env).bind fun x => M.look fun ν => (isiD (un ν x) [cl]).map .bl) := by
  refine PE.wk (pe_callB (call_isiD (n0 := n0) hK F (cs := [cl]) (by simp [hf])) hg hm hv (pa_cons ha (pa_cons hc pa_nil h2) h1) hn hd h1 hpl) fun σ H Q h => ?_
  obtain ⟨x, env, rfl, ok, en, h⟩ := h
  refine ⟨x, env, rfl, ok, en, h.bind fun u v y ey oy ry h => ?_⟩
  obtain ⟨t, ht, k⟩ := h.look
  rw [Option.map_eq_some_iff] at ht
  obtain ⟨q, hq, rfl⟩ := ht
  exact ⟨y, u, v, _, q, rfl, rfl, oy, ry, hq, k, .inl ⟨cl, rfl, rfl⟩⟩
/-- the classes' values -/
inductive PCls (X : Cx) (G : Gx) : List Cl → List Expr → Prop where
  | nil : PCls X G [] []
  | cons {cl : Cl} {cls : List Cl} {x : Expr} {xs : List Expr} (h : PE X x (tC (clsV G cl))) (hs : starEach (x :: xs) X.env = (false, eval x X.env) :: starEach xs X.env) (r : PCls X G cls xs) : PCls X G (cl :: cls) (x :: xs)
theorem PCls.pa {cls : List Cl} {xs : List Expr} (h : PCls X G cls xs) : PA X xs (fun _ H Q => Q (cls.map (clsV G)) H) := by
  induction h with
  | nil => exact pa_nil
  | cons h hs r ih => exact PA.wk (pa_cons h ih hs) fun σ H Q q => q
/-- isinstance(x, (c, ..)) -/
theorem c_isiT {y : Str} {p p2 : Pos} {cls : List Cl} {cxs : List Expr} {k2 : Nat} (hK : G.K = X.K) (F : ClsK G) (hf : (cls.all (Cl.fit G.nC)) = true) (hne : cls ≠ []) (hl : cls.length ≤ sizeLine) (hg : Gl X y) (hm : X.mg y = none) (hv : bootBuiltins y = some (.builtin "isinstance")) (hn : y ≠ "__name__") (hd : (y == ("__debug__" : Str)) = false)
    (ha : PE X e (tofE G n0 W a)) (hc : PCls X G cls cxs) (h1 : starEach [e, .Tuple cxs k2 p2] X.env = (false, eval e X.env) :: starEach [.Tuple cxs k2 p2] X.env) (h2 : starEach [.Tuple cxs k2 p2] X.env = (false, eval (.Tuple cxs k2 p2) X.env) :: starEach [] X.env) (hpl : (backTo pos (starEach [.Tuple cxs k2 p2] X.env)).any (·.1) = false) :
    PE X (.Call (.Name y p) [e, .Tuple cxs k2 p2] [] pos) (tofE G n0 W fun env => (a env).bind fun x => M.look fun ν => (isiD (un ν x) cls).map .bl) := by
  refine PE.wk (pe_callB (call_isiD (n0 := n0) hK F hf) hg hm hv (pa_cons ha (pa_cons (pe_tup hc.pa) pa_nil h2) h1) hn hd h1 hpl) fun σ H Q h => ?_
  obtain ⟨x, env, rfl, ok, en, h⟩ := h
  refine ⟨x, env, rfl, ok, en, h.bind fun u v y ey oy ry h => ⟨by simpa using hl, fun tp htp => ?_⟩⟩
  obtain ⟨t, ht, k⟩ := h.look
  rw [Option.map_eq_some_iff] at ht
  obtain ⟨q, hq, rfl⟩ := ht
  obtain ⟨e1, o1⟩ := oy.layAny (o := .tup (cls.map (clsV G))) htp
  refine ⟨⟨upd y.S tp _, upd y.H tp _, y.ρ, y.ν⟩, u, v, .ref tp, q, rfl, rfl, o1, e1.rep ry, hq, fun v z h1 h2 h3 h4 => k v z h1 (e1.trans h2) h3 h4, .inr ⟨tp, rfl, upd_same, hne⟩⟩

/-! ### calls -/
variable {k np : Nat} {Ff : List D → M D} {fa : Addr} {fd : FuncData} {ps : List Str} {y : Str} {p : Pos}
theorem c_call (F : DefOk X.prog X.w X.K X.mg X.base k G Ff np fa fd ps) (hw : Wants Ff np) (hr : Room k X.A) (tk : Takes X W) (hg : Gl X y) (hm : X.mg y = some (.ref fa)) (hd : (y == ("__debug__" : Str)) = false) (ha : PA X (e :: es) (tofA G n0 W as))
    (he : starEach (e :: es) X.env = (false, eval e X.env) :: starEach es X.env) (hpl : (backTo pos (starEach es X.env)).any (·.1) = false) : PE X (.Call (.Name y p) (e :: es) [] pos) (tofE G n0 W fun env => (as env).bind fun ds => Ff ds) := by
  refine ⟨fun pins s σ H Q I h => ?_⟩
  obtain ⟨x, env, rfl, ok, en, h⟩ := h
  refine wpAny_Call_Name_kw (ld_glob I hg hm ?_ hd)
  refine PySem.W.callWith_K (h₀ := X.base) I.ok.mod.kin F.kp (thn (ha.run pos pins s σ x.H (fun vs H1 => ∃ (y : Sit) (ds : List D), y.H = H1 ∧ OkS G n0 y ∧ Reps G y.ρ y.S ds vs ∧ After G n0 (RepR G) W σ y (Ff ds) Q) I ⟨x, env, rfl, ok, en, h.bind fun us vs y ey oy ry h => ⟨y, us, rfl, oy, ry, h⟩⟩) fun us s1 ⟨vs, H1, I1, r, z, ds, hH, oz, rz, h⟩ => ⟨I1.kIn, ?_⟩) he hpl
  subst hH
  exact F.call hw hr tk I1 oz rz r h
theorem c_call0 (F : DefOk X.prog X.w X.K X.mg X.base k G Ff np fa fd ps) (hw : Wants Ff np) (hr : Room k X.A) (tk : Takes X W) (hg : Gl X y) (hm : X.mg y = some (.ref fa)) (hd : (y == ("__debug__" : Str)) = false) : PE X (.Call (.Name y p) [] [] pos) (tofE G n0 W fun env => (M.pure []).bind fun ds => Ff ds) := by
  refine ⟨fun pins s σ H Q I h => ?_⟩
  obtain ⟨x, env, rfl, ok, en, h⟩ := h
  refine wpAny_Call_Name_kw (ld_glob I hg hm ?_ hd)
  exact PySem.W.callWith_K0 I.kIn F.kp (F.call (us := []) (vs := []) (ds := []) hw hr tk I ok .nil .nil (h.from (.refl x) rfl))
/-- keywords' values -/
theorem PK.wk {kws : List Keyword} {t t' : TA} (h : PK X kws t) (i : ∀ σ H Q, t' σ H Q → t σ H Q) : PK X kws t' := ⟨fun p pins s σ H Q I hw => h.run p pins s σ H Q I (i _ _ _ hw)⟩
theorem k_nil : PK X [] (tofA G n0 W fun _ => M.pure []) := by
  refine PK.wk pk_nil fun σ H Q h => ?_
  obtain ⟨x, env, rfl, ok, en, h⟩ := h
  exact h.pure ok .nil
theorem k_cons {kws : List Keyword} {nm : Option Str} {kpos : Pos} (ha : PE X e (tofE G n0 W a)) (hr : PK X kws (tofA G n0 W as)) : PK X (⟨nm, e, kpos⟩ :: kws) (tofA G n0 W fun env => (a env).bind fun d => (as env).bind fun ds => M.pure (d :: ds)) := by
  refine PK.wk (pk_cons ha hr) fun σ H Q h => ?_
  obtain ⟨x, env, rfl, ok, en, h⟩ := h
  refine ⟨x, env, rfl, ok, en, h.bind fun u v y ey oy ry h => ⟨y, env, rfl, oy, en.mono ey, h.bind fun us vs z ez oz rz h => ?_⟩⟩
  exact h.pure oz (.cons (ez.rep ry) rz)
/-- the way from values to the parameters -/
def kwM (o : Option (List Nat)) (Ff : List D → M D) (ds es : List D) : M D := match o with
  | some p => (match permD p (ds ++ es) with
    | some as => Ff as
    | none => M.fail)
  | none => M.fail
theorem c_callk {kws : List Keyword} {ks : List Str} {o : Option (List Nat)} (F : DefOk X.prog X.w X.K X.mg X.base k G Ff np fa fd ps) (hw : Wants Ff np) (hr : Room k X.A) (tk : Takes X W) (hg : Gl X y) (hm : X.mg y = some (.ref fa)) (hd : (y == ("__debug__" : Str)) = false)
    (hkw : ∀ q, o = some q → KwOk fd ps (e :: es).length ks q) (ha : PA X (e :: es) (tofA G n0 W as)) (hz : PK X kws (tofA G n0 W zs))
    (la : ∀ env ν ds ν', as env ν = some (.ok ds, ν') → ds.length = (e :: es).length) (lz : ∀ env ν ds ν', zs env ν = some (.ok ds, ν') → ds.length = ks.length)
    (hall : (backToKw pos (keywordEach kws X.env)).all (·.1.isSome) = true) (hks : (backToKw pos (keywordEach kws X.env)).filterMap (·.1) = ks)
    (he : starEach (e :: es) X.env = (false, eval e X.env) :: starEach es X.env) (hpl : ((backTo pos (starEach (e :: es) X.env)).any (·.1) || (backToKw pos (keywordEach kws X.env)).any (·.1.isNone)) = false) :
    PE X (.Call (.Name y p) (e :: es) kws pos) (tofE G n0 W fun env => (as env).bind fun ds => (zs env).bind fun us => kwM o Ff ds us) := by
  refine ⟨fun pins s σ H Q I h => ?_⟩
  obtain ⟨x, env, rfl, ok, en, h⟩ := h
  refine wpAny_Call_Name_kw (ld_glob I hg hm ?_ hd)
  refine PySem.W.callWith_KW (h₀ := X.base) I.ok.mod.kin F.kp hall (thn (ha.run pos pins s σ x.H (fun vs H1 => ∃ (y : Sit) (ds : List D), y.H = H1 ∧ OkS G n0 y ∧ Reps G y.ρ y.S ds vs ∧ EnvOk G y σ env ∧ ds.length = (e :: es).length ∧ After G n0 (RepR G) W σ y ((zs env).bind fun us => kwM o Ff ds us) Q) I ⟨x, env, rfl, ok, en, h.bindW fun us vs y hm ey oy ry h => ⟨y, us, rfl, oy, ry, en.mono ey, la _ _ _ _ hm, h⟩⟩) fun us s1 ⟨vs, H1, I1, r, z, ds, hH, oz, rz, ez, hl, h⟩ => ?_) hpl he
  subst hH
  refine thn (hz.run pos pins s1 σ z.H (fun ws H1 => ∃ (y : Sit) (qs : List D), y.H = H1 ∧ OkS G n0 y ∧ Reps G y.ρ y.S ds vs ∧ Reps G y.ρ y.S qs ws ∧ qs.length = ks.length ∧ After G n0 (RepR G) W σ y (kwM o Ff ds qs) Q) I1 ⟨z, env, rfl, oz, ez, h.bindW fun qs ws t hm et ot rt h => ⟨t, qs, rfl, ot, et.reps rz, rt, lz _ _ _ _ hm, h⟩⟩) fun ws s2 ⟨zs2, H2, I2, r2, t, qs, hH, ot, rt1, rt2, hl2, h⟩ => ⟨I2.kIn, ?_⟩
  subst hH
  rw [hks]
  unfold kwM at h
  split at h
  · split at h
    · next as' hp => exact F.callk (hkw _ rfl) hw hr tk I2 ot rt1 r rt2 r2 hl hl2 hp h
    · exact (h.nonOf rfl).elim
  · exact (h.nonOf rfl).elim
theorem c_callk0 {kws : List Keyword} {ks : List Str} {o : Option (List Nat)} (F : DefOk X.prog X.w X.K X.mg X.base k G Ff np fa fd ps) (hw : Wants Ff np) (hr : Room k X.A) (tk : Takes X W) (hg : Gl X y) (hm : X.mg y = some (.ref fa)) (hd : (y == ("__debug__" : Str)) = false)
    (hkw : ∀ q, o = some q → KwOk fd ps 0 ks q) (hz : PK X kws (tofA G n0 W zs)) (lz : ∀ env ν ds ν', zs env ν = some (.ok ds, ν') → ds.length = ks.length)
    (hall : (backToKw pos (keywordEach kws X.env)).all (·.1.isSome) = true) (hks : (backToKw pos (keywordEach kws X.env)).filterMap (·.1) = ks)
    (hpl : ((backTo pos (starEach [] X.env)).any (·.1) || (backToKw pos (keywordEach kws X.env)).any (·.1.isNone)) = false) :
    PE X (.Call (.Name y p) [] kws pos) (tofE G n0 W fun env => (M.pure []).bind fun ds => (zs env).bind fun us => kwM o Ff ds us) := by
  refine ⟨fun pins s σ H Q I h => ?_⟩
  obtain ⟨x, env, rfl, ok, en, h⟩ := h
  have h : After G n0 (RepR G) W σ x ((zs env).bind fun us => kwM o Ff [] us) Q := h.from (.refl x) rfl
  refine wpAny_Call_Name_kw (ld_glob I hg hm ?_ hd)
  refine PySem.W.callWith_KW0 (h₀ := X.base) I.ok.mod.kin F.kp hall ?_ hpl
  refine thn (hz.run pos pins s σ x.H (fun ws H1 => ∃ (y : Sit) (qs : List D), y.H = H1 ∧ OkS G n0 y ∧ Reps G y.ρ y.S qs ws ∧ qs.length = ks.length ∧ After G n0 (RepR G) W σ y (kwM o Ff [] qs) Q) I ⟨x, env, rfl, ok, en, h.bindW fun qs ws t hm et ot rt h => ⟨t, qs, rfl, ot, rt, lz _ _ _ _ hm, h⟩⟩) fun ws s2 ⟨zs2, H2, I2, r2, t, qs, hH, ot, rt2, hl2, h⟩ => ⟨I2.kIn, ?_⟩
  subst hH
  rw [hks]
  unfold kwM at h
  split at h
  · split at h
    · next as' hp => exact F.callk (us := []) (ds := []) (vs := []) (hkw _ rfl) hw hr tk I2 ot .nil .nil rt2 r2 rfl hl2 hp h
    · exact (h.nonOf rfl).elim
  · exact (h.nonOf rfl).elim
/-- f(*x) -/
theorem c_star {sp_ : Pos} (hK : G.K = X.K) (F : DefOk X.prog X.w X.K X.mg X.base k G Ff np fa fd ps) (hw : Wants Ff np) (hr : Room k X.A) (tk : Takes X W) (hg : Gl X y) (hm : X.mg y = some (.ref fa)) (hd : (y == ("__debug__" : Str)) = false) (ha : PE X e (tofE G n0 W a)) :
    PE X (.Call (.Name y p) [.Starred e sp_] [] pos) (tofE G n0 W fun env => (a env).bind fun x => (M.look fun ν => match un ν x with | .tup xs => some xs | .lst xs => some xs | _ => none).bind fun ds => Ff ds) := by
  refine ⟨fun pins s σ H Q I h => ?_⟩
  obtain ⟨x, env, rfl, ok, en, h⟩ := h
  refine wpAny_Call_Name_kw (ld_glob I hg hm ?_ hd)
  refine PySem.W.callWith_S (h₀ := X.base) I.ok.mod.kin F.kp (thn (ha.run pins s σ x.H (fun v H1 => ∃ (y : Sit) (ds : List D) (q : Addr) (xs : List V), y.H = H1 ∧ OkS G n0 y ∧ v = .ref q ∧ (SqT X.K H1 q xs ∨ SqL X.K H1 q xs) ∧ Reps G y.ρ y.S ds xs ∧ After G n0 (RepR G) W σ y (Ff ds) Q) I ⟨x, env, rfl, ok, en, h.bind fun u v y ey oy ry h => ?_⟩) fun v s1 ⟨w, H1, I1, r1, y, ds, q, xs, hH, oy, ew, hxs, rx, h⟩ => ?_) rfl
  · obtain ⟨ds, hds, h⟩ := h.lookBind
    split at hds
    · next xs e1 =>
      cases hds
      obtain ⟨_, q, vs, rfl, h1, h2⟩ := un_tup oy ry e1
      exact ⟨y, _, q, vs, rfl, oy, rfl, .inl (hK ▸ h1), h2, h⟩
    · next xs e1 =>
      cases hds
      obtain ⟨q, vs, rfl, h1, h2⟩ := un_lst oy ry e1
      exact ⟨y, _, q, vs, rfl, oy, rfl, .inr (SqL.of h1), h2, h⟩
    · cases hds
  · subst hH
    subst ew
    cases (show v = _ from r1)
    exact StX.star_any I1 hxs fun us s2 I2 rv => ⟨I2.kIn, F.call hw hr tk I2 oy rx rv h⟩

/-! ### own classes -/
variable {T : Tab} {F1 : Nat → List D → M D} {C f : Nat}
theorem c_mk (hC : C < G.nC) (hi : T.init C = some f) (Mm : Mk X.K (G.cad C) fa) (F : DefOk X.prog X.w X.K X.mg X.base k G (F1 f) np fa fd ps) (hw : Wants (F1 f) np) (hr : Room (k + 1) X.A) (tk : Takes X W) (hg : Gl X y) (hm : X.mg y = some (.ref (G.cad C))) (hd : (y == ("__debug__" : Str)) = false) (ha : PA X (e :: es) (tofA G n0 W as))
    (he : starEach (e :: es) X.env = (false, eval e X.env) :: starEach es X.env) (hpl : (backTo pos (starEach es X.env)).any (·.1) = false) : PE X (.Call (.Name y p) (e :: es) [] pos) (tofE G n0 W fun env => (as env).bind fun ds => makeD T F1 C ds) := by
  refine ⟨fun pins s σ H Q I h => ?_⟩
  obtain ⟨x, env, rfl, ok, en, h⟩ := h
  refine wpAny_Call_Name_kw (ld_glob I hg hm ?_ hd)
  refine PySem.W.callWith_K (h₀ := X.base) I.ok.mod.kin Mm.kp (thn (ha.run pos pins s σ x.H (fun vs H1 => ∃ (y : Sit) (ds : List D), y.H = H1 ∧ OkS G n0 y ∧ Reps G y.ρ y.S ds vs ∧ After G n0 (RepR G) W σ y (makeD T F1 C ds) Q) I ⟨x, env, rfl, ok, en, h.bind fun us vs y ey oy ry h => ⟨y, us, rfl, oy, ry, h⟩⟩) fun us s1 ⟨vs, H1, I1, r, z, ds, hH, oz, rz, h⟩ => ⟨I1.kIn, ?_⟩) he hpl
  subst hH
  have st := make_step hC hi oz rz hw h
  refine run_mkAny Mm F.ok hr (passAt tk σ) I1 (fun s x _ => BindsTo.of_eq (F.pos (x :: us) ?_)) r st
  obtain ⟨dx, px, h1, h2, h3⟩ : ∃ dx px : Addr, z.H px = none ∧ z.H dx = none ∧ dx ≠ px := ⟨s1.heap.objs.size, s1.heap.objs.size + 1, I1.hok.fresh (Nat.le_succ _), I1.hok.fresh (Nat.le_refl _), Nat.ne_of_lt (Nat.lt_succ_self _)⟩
  obtain ⟨_, ds2, _, _, rr, hl, _⟩ := st px dx h1 h2 h3
  rw [List.length_cons, ← r.length, ← hl, rr.length]
  rfl
theorem c_mk0 (hC : C < G.nC) (hi : T.init C = some f) (Mm : Mk X.K (G.cad C) fa) (F : DefOk X.prog X.w X.K X.mg X.base k G (F1 f) np fa fd ps) (hw : Wants (F1 f) np) (hr : Room (k + 1) X.A) (tk : Takes X W) (hg : Gl X y) (hm : X.mg y = some (.ref (G.cad C))) (hd : (y == ("__debug__" : Str)) = false) :
    PE X (.Call (.Name y p) [] [] pos) (tofE G n0 W fun env => (M.pure []).bind fun ds => makeD T F1 C ds) := by
  refine ⟨fun pins ss σ H Q I h => ?_⟩
  obtain ⟨sx, env, rfl, ok, en, h⟩ := h
  have h : After G n0 (RepR G) W σ sx (makeD T F1 C []) Q := h.from (.refl sx) rfl
  refine wpAny_Call_Name_kw (ld_glob I hg hm ?_ hd)
  have st := make_step hC hi ok .nil hw h
  refine PySem.W.callWith_K0 I.kIn Mm.kp (run_mkAny (us := []) Mm F.ok hr (passAt tk σ) I (fun s x _ => BindsTo.of_eq (F.pos [x] ?_)) .nil st)
  obtain ⟨dx, px, h1, h2, h3⟩ : ∃ dx px : Addr, sx.H px = none ∧ sx.H dx = none ∧ dx ≠ px := ⟨ss.heap.objs.size, ss.heap.objs.size + 1, I.hok.fresh (Nat.le_succ _), I.hok.fresh (Nat.le_refl _), Nat.ne_of_lt (Nat.lt_succ_self _)⟩
  obtain ⟨_, ds2, _, _, rr, hl, _⟩ := st px dx h1 h2 h3
  rw [← hl, rr.length]
  rfl
end
section
variable {X : Cx} {G : Gx} {n0 : Nat} {W : WX} {e : Expr} {pos : Pos} {a : Env → M D}
/-! ### f-strings -/
/-- the parts, one behind another -/
inductive PJs (X : Cx) (G : Gx) (n0 : Nat) (W : WX) : List Expr → (Env → Str → M Str) → Prop where
  | nil : PJs X G n0 W [] fun _ acc => M.pure acc
  | lit {es : List Expr} {m : Env → Str → M Str} {z : Str} {k : Nat} {p : Pos} (r : PJs X G n0 W es m) : PJs X G n0 W (.Constant (.str z) k p :: es) fun env acc => (M.pure (.str z)).bind fun d => (M.lift (txtD acc d)).bind fun acc' => m env acc'
  | fmt {es : List Expr} {m : Env → Str → M Str} {e : Expr} {p : Pos} {a : Env → M D} (h : PE X e (tofE G n0 W a)) (r : PJs X G n0 W es m) : PJs X G n0 W (.FormattedValue e (-1) none p :: es) fun env acc => (a env).bind fun d => (M.lift (txtD acc d)).bind fun acc' => m env acc'
theorem PJs.pj {es : List Expr} {m : Env → Str → M Str} (h : PJs X G n0 W es m) : ∃ ts, PJ X es ts ∧ ∀ (σ : L2.St) (x : Sit) (env : Env) (acc : Str) (Q : Str → Hp → Prop), OkS G n0 x → EnvOk G x σ env → After G n0 EqR' W σ x (m env acc) Q → tJs ts acc σ x.H Q := by
  induction h with
  | nil => exact ⟨[], .nil, fun σ x env acc Q ok en h => h.pure ok rfl⟩
  | @lit es m z k p r ih =>
    obtain ⟨ts, h1, h2⟩ := ih
    refine ⟨tC (.str z) :: ts, .cons pe_str h1, fun σ x env acc Q ok en h => ?_⟩
    have h : After G n0 EqR' W σ x ((M.lift (txtD acc (.str z))).bind fun acc' => m env acc') Q := h.from (.refl x) rfl
    obtain ⟨w, hw, h⟩ := h.lookBind
    simp only [txtD] at hw
    split at hw
    · next hz =>
      cases hw
      exact ⟨z, rfl, hz.2, h2 σ x env _ Q ok en h⟩
    · cases hw
  | @fmt es m e p a he r ih =>
    obtain ⟨ts, h1, h2⟩ := ih
    refine ⟨tFmt (tofE G n0 W a) :: ts, .cons (pe_fmt he) h1, fun σ x env acc Q ok en h => ?_⟩
    refine ⟨x, env, rfl, ok, en, h.bind fun u v y ey oy ry h => ?_⟩
    obtain ⟨w, hw, h⟩ := h.lookBind
    cases u with
    | str z =>
      simp only [txtD] at hw
      split at hw
      · next hz =>
        cases hw
        exact .inl ⟨z, ry.strV, hz.1, z, rfl, hz.2, h2 σ y env _ Q oy (en.mono ey) h⟩
      · cases hw
    | int i =>
      simp only [txtD] at hw
      split at hw
      · next hz =>
        cases hw
        exact .inr ⟨i, ry.intV, hz.1, _, rfl, hz.2, h2 σ y env _ Q oy (en.mono ey) h⟩
      · cases hw
    | _ => cases hw
theorem c_fst {v1 v2 : Expr} {rest : List Expr} {m : Env → Str → M Str} (h : PJs X G n0 W (v1 :: v2 :: rest) m) : PE X (.JoinedStr (v1 :: v2 :: rest) pos) (tofE G n0 W fun env => (m env Str.empty).bind fun x => M.pure (.str x)) := by
  obtain ⟨ts, h1, h2⟩ := h.pj
  refine PE.wk (pe_joined h1) fun σ H Q h => ?_
  obtain ⟨x, env, rfl, ok, en, h⟩ := h
  refine h2 σ x env _ _ ok en (h.bind fun u v y ey oy ry h => ?_)
  have ry : u = v := ry
  subst ry
  exact h.pure oy (.str _)
end
end EF

/-! ER: what is walked. -/
namespace EF
open PySem PySem.Spec PyProof.Rows L2

section
variable {X : Cx} {G : Gx} {n0 : Nat} {W : WX} {x y : Sit}
/-- J walks src, from y on -/
def SrcJ (G : Gx) (y : Sit) (src : Src) (J : L2.It) : Prop := ∀ (n1 : Nat) (z : Sit), Ext n1 y z → OkS G n1 z → ∀ i : Nat, (srcN z.ν src i = some none → J.stop i z.H) ∧ ∀ d, srcN z.ν src i = some (some d) → J.go i z.H ∧ ∀ v H', J.yld i z.H v H' → H' = z.H ∧ Rep G z.ρ z.S d v
def tofI (G : Gx) (n0 : Nat) (W : WX) (m : Env → M Src) : TI := fun σ H R => ∃ (x : Sit) (env : Env), x.H = H ∧ OkS G n0 x ∧ EnvOk G x σ env ∧ After G n0 (fun y src J => SrcJ G y src J) W σ x (m env) R
theorem OkS.freeze {a : Addr} {ob : Obj} {kvs : List (Key × V)} (o : OkS G n0 y) (h : y.S a = some (.dK kvs)) :
    Ext n0 y ⟨upd y.S a (.frz ob (.dK kvs)), upd y.H a (.frz ob (.dK kvs)), y.ρ, y.ν⟩ ∧ OkS G n0 ⟨upd y.S a (.frz ob (.dK kvs)), upd y.H a (.frz ob (.dK kvs)), y.ρ, y.ν⟩ := by
  have hH := o.sub a _ h
  have hS : SubH y.S (upd y.S a (.frz ob (.dK kvs))) := fun b u e => by
    by_cases hb : b = a
    · subst hb
      rw [h] at e
      cases e
      exact .inr ⟨kvs, ob, rfl, upd_same⟩
    · exact .inl (by rw [upd_ne hb]; exact e)
  refine ⟨⟨hS, ⟨[], by simp⟩, fun b u e _ => ?_, fun b e q => ?_, fun b u e => ?_, fun _ m => .inl m, fun _ _ d h => ⟨d, h, fun _ q => q⟩, fun b ob' u e => ?_⟩, ⟨fun b u e => ?_, o.len, o.base, o.nd, fun n c d e1 e2 => ?_⟩⟩
  · by_cases hb : b = a
    · subst hb
      rw [hH] at e
      cases e
      exact .inr ⟨kvs, ob, rfl, upd_same⟩
    · exact .inl (by show upd y.H a _ b = _; rw [upd_ne hb]; exact e)
  · have q' : upd y.H a (.frz ob (.dK kvs)) b = none := q
    by_cases hb : b = a
    · subst hb; rw [upd_same] at q'; cases q'
    · rw [upd_ne hb] at q'; exact e q'
  · have e' : upd y.S a (.frz ob (.dK kvs)) b = some u := e
    by_cases hb : b = a
    · subst hb; exact .inl (by rw [h]; simp)
    · rw [upd_ne hb] at e'; exact .inl (by rw [e']; simp)
  · show upd y.H a (.frz ob (.dK kvs)) b = _
    have hb : b ≠ a := fun z => by
      rw [z] at e
      have e' : y.H a = some (.frz ob' u) := e
      rw [hH] at e'
      cases e'
    rw [upd_ne hb]
    exact e
  · have e' : upd y.S a (.frz ob (.dK kvs)) b = some u := e
    show upd y.H a (.frz ob (.dK kvs)) b = some u
    by_cases hb : b = a
    · subst hb; rw [upd_same] at e' ⊢; exact e'
    · rw [upd_ne hb] at e' ⊢; exact o.sub b u e'
  · obtain ⟨q1, u, q2, q3⟩ := o.cont n c d e1 e2
    have hc : c ≠ a := fun z => by
      subst z
      rw [h] at q1
      cases q1
    exact ⟨by show upd y.S a _ c = none; rw [upd_ne hc]; exact q1, u, by show upd y.H a _ c = _; rw [upd_ne hc]; exact q2, NodeW.mono hS (fun _ _ z => z) q3⟩
theorem src_lst {a : Addr} {xs : List D} {vs : List V} (h : SqL G.K y.S a vs) (r : Reps G y.ρ y.S xs vs) {d : D} (hd : ∀ ν i, srcN ν (.val d) i = some xs[i]?) : SrcJ G y (.val d) (Itl G.K a) := fun n1 z e o i => by
  have h' := sqL_mono o.sub.h (sqL_mono e.s h)
  have r' := e.reps r
  rw [hd]
  refine ⟨fun q => ⟨vs, h', ?_⟩, fun d' q => ?_⟩
  · have := List.getElem?_eq_none_iff.mp (Option.some.inj q)
    rw [← r.length]; exact this
  · obtain ⟨v, h1, h2⟩ := r'.get (Option.some.inj q)
    refine ⟨⟨vs, v, h', h1⟩, fun w H' hy => ⟨hy.1, ?_⟩⟩
    have := hy.2 vs h'
    rw [h1] at this
    cases this
    exact h2
theorem src_tup {a : Addr} {xs : List D} {vs : List V} (h : SqT G.K y.S a vs) (r : Reps G y.ρ y.S xs vs) {d : D} (hd : ∀ ν i, srcN ν (.val d) i = some xs[i]?) : SrcJ G y (.val d) (Itt G.K a) := fun n1 z e o i => by
  have h' := sqT_mono o.sub.h (sqT_mono e.s h)
  have r' := e.reps r
  rw [hd]
  refine ⟨fun q => ⟨vs, h', ?_⟩, fun d' q => ?_⟩
  · have := List.getElem?_eq_none_iff.mp (Option.some.inj q)
    rw [← r.length]; exact this
  · obtain ⟨v, h1, h2⟩ := r'.get (Option.some.inj q)
    refine ⟨⟨vs, v, h', h1⟩, fun w H' hy => ⟨hy.1, ?_⟩⟩
    have := hy.2 vs h'
    rw [h1] at this
    cases this
    exact h2
theorem src_tok {a : Addr} {n : Nat} (h : y.ρ[n]? = some a) : SrcJ G y (.val (.tok n)) (Itl G.K a) := fun n1 z e o i => by
  obtain ⟨d, u, h1, h2, h3⟩ := o.tok (e.rn n a h)
  have hs : srcN z.ν (.val (.tok n)) i = tokI (some d) i := by
    show tokI z.ν[n]? i = _
    rw [h1]
  rw [hs]
  cases h3 with
  | nd h3 =>
    cases h3 with
    | @lst xs vs r =>
      refine ⟨fun q => ⟨vs, SqL.of h2, ?_⟩, fun d' q => ?_⟩
      · have := List.getElem?_eq_none_iff.mp (Option.some.inj q)
        rw [← r.length]; exact this
      · obtain ⟨v, h1, h2'⟩ := r.get (Option.some.inj q)
        refine ⟨⟨vs, v, SqL.of h2, h1⟩, fun w H' hy => ⟨hy.1, ?_⟩⟩
        have := hy.2 vs (SqL.of h2)
        rw [h1] at this
        cases this
        exact h2'
    | _ => exact ⟨fun q => (nomatch q), fun _ q => (nomatch q)⟩
  | wlk _ _ => exact ⟨fun q => (nomatch q), fun _ q => (nomatch q)⟩
theorem src_str {w : Str} : SrcJ G y (.val (.str w)) (Its w) := fun n1 z e o i => by
  have hs : srcN z.ν (.val (.str w)) i = some (chrs w)[i]? := rfl
  have hg : (chrs w)[i]? = (w.cps[i]?).map fun c => D.str ⟨#[c]⟩ := by
    unfold chrs
    rw [List.getElem?_map, Array.getElem?_toList]
  rw [hs, hg]
  refine ⟨fun q => ?_, fun d' q => ?_⟩
  · have := Option.map_eq_none_iff.mp (Option.some.inj q)
    exact Array.getElem?_eq_none_iff.mp this
  · obtain ⟨c, h1, h2⟩ := Option.map_eq_some_iff.mp (Option.some.inj q)
    subst h2
    refine ⟨(Array.getElem?_eq_some_iff.mp h1).1, fun v H' hy => ?_⟩
    obtain ⟨e1, c', h3, h4⟩ := hy
    rw [h1] at h3
    cases h3
    exact ⟨e1, by rw [h4]; exact .str _⟩
theorem src_rng {lo : Int} {n : Nat} : SrcJ G y (.rng lo n) (Itr lo n) := fun n1 z e o i => by
  show (some (if i < n then some (D.int (lo + (i : Nat))) else none) = some none → _) ∧ ∀ d, some (if i < n then some (D.int (lo + (i : Nat))) else none) = some (some d) → _
  by_cases h : i < n
  · rw [if_pos h]
    refine ⟨fun q => (nomatch q), fun d q => ?_⟩
    cases q
    exact ⟨h, fun v H' hy => ⟨hy.1, by rw [hy.2]; exact .int _⟩⟩
  · rw [if_neg h]
    exact ⟨fun _ => Nat.le_of_not_lt h, fun _ q => nomatch q⟩
theorem keys_at : ∀ {kvs : List (Key × V)}, (kvs.map fun kv => DK.one kv.1).mapM keyD = some (kvs.map fun kv => match kv.1 with
    | .inl i => D.int i
    | .inr x => D.str x)
  | [] => rfl
  | p :: r => by
    have e : keyD (.one p.1) = some (match p.1 with
      | .inl i => D.int i
      | .inr x => D.str x) := by
      cases p.1 <;> rfl
    rw [List.map_cons, List.mapM_cons, e, keys_at]
    rfl
theorem src_dct {a : Addr} {ob : Obj} {kvs : List (Key × V)} {ds : List D} (h : y.S a = some (.frz ob (.dK kvs))) : SrcJ G y (.val (.dct (kvs.map fun kv => DK.one kv.1) ds)) (Itk a ob kvs) := fun n1 z e o i => by
  have hH := o.sub a _ (e.s a _ h).frz
  have hs : srcN z.ν (.val (.dct (kvs.map fun kv => DK.one kv.1) ds)) i = some (kvs[i]?.map fun kv => match kv.1 with
    | .inl i => D.int i
    | .inr x => D.str x) := by
    show (((kvs.map fun kv => DK.one kv.1).mapM keyD).map fun xs => xs[i]?) = _
    rw [keys_at, Option.map_some, List.getElem?_map]
  rw [hs]
  refine ⟨fun q => ⟨hH, ?_⟩, fun d' q => ?_⟩
  · exact List.getElem?_eq_none_iff.mp (Option.map_eq_none_iff.mp (Option.some.inj q))
  · obtain ⟨p, h1, h2⟩ := Option.map_eq_some_iff.mp (Option.some.inj q)
    refine ⟨⟨hH, (List.getElem?_eq_some_iff.mp h1).1⟩, fun v H' hy => ?_⟩
    obtain ⟨e1, k, w, h3, h4⟩ := hy
    rw [h1] at h3
    cases h3
    refine ⟨e1, ?_⟩
    subst h2 h4
    cases k
    · exact .int _
    · exact .str _
theorem src_key {a : Addr} {n : Nat} {ob : Obj} {kvs : List (Key × V)} (h : y.ρ[n]? = some a) (hH : y.H a = some (.frz ob (.dK kvs))) : SrcJ G y (.key n) (Itk a ob kvs) := fun n1 z e o i => by
  have hz := e.w _ _ _ hH
  obtain ⟨d, u, h1, h2, h3⟩ := o.tok (e.rn n a h)
  rw [hz] at h2
  cases h2
  cases h3 with
  | nd h3 => cases h3
  | wlk hk r =>
    subst hk
    have hs : srcN z.ν (.key n) i = some (kvs[i]?.map fun kv => match kv.1 with
      | .inl i => D.int i
      | .inr x => D.str x) := by
      show keyI z.ν[n]? i = _
      rw [h1]
      show (((kvs.map fun kv => DK.one kv.1).mapM keyD).map fun xs => xs[i]?) = _
      rw [keys_at, Option.map_some, List.getElem?_map]
    rw [hs]
    refine ⟨fun q => ⟨hz, ?_⟩, fun d' q => ?_⟩
    · exact List.getElem?_eq_none_iff.mp (Option.map_eq_none_iff.mp (Option.some.inj q))
    · obtain ⟨p, h1, h2⟩ := Option.map_eq_some_iff.mp (Option.some.inj q)
      refine ⟨⟨hz, (List.getElem?_eq_some_iff.mp h1).1⟩, fun v H' hy => ?_⟩
      obtain ⟨e1, k, w, h3, h4⟩ := hy
      rw [h1] at h3
      cases h3
      refine ⟨e1, ?_⟩
      subst h2 h4
      cases k
      · exact .int _
      · exact .str _
/-- any value is walked -/
theorem i_val {tg e : Expr} {a : Env → M D} (hK : G.K = X.K) (ha : PE X e (tofE G n0 W a)) : PI X tg e (tofI G n0 W fun env => (a env).bind fun d => M.look fun ν => srcOf ν d) := by
  refine ⟨fun pins s σ H R I h => ?_⟩
  obtain ⟨x, env, rfl, ok, en, h⟩ := h
  refine thn (ha.run pins s σ x.H (fun v H1 => ∃ (y : Sit) (d : D), y.H = H1 ∧ OkS G n0 y ∧ Rep G y.ρ y.S d v ∧ (∃ q, srcN y.ν (srcK y.ν d) 0 = some q) ∧ ∀ (J : L2.It) (z : Sit), z.ν = y.ν → Ext n0 y z → OkS G n0 z → SrcJ G z (srcK y.ν d) J → R J z.H) I ⟨x, env, rfl, ok, en, h.bind fun u v y ey oy ry h => ?_⟩) fun u s1 ⟨v, H1, I1, r1, y, d, hH, oy, ry, ⟨q0, hq0⟩, k⟩ => ?_
  · obtain ⟨t, ht, k⟩ := h.look
    unfold srcOf at ht
    rw [Option.map_eq_some_iff] at ht
    obtain ⟨q, hq, rfl⟩ := ht
    exact ⟨y, u, rfl, oy, ry, ⟨q, hq⟩, k⟩
  · subst hH
    have here : ∀ {J : L2.It}, SrcJ G y (srcK y.ν d) J → R J y.H := fun {J} sj => k J y rfl (.refl y) oy sj
    have lst : ∀ {p : Addr} {vs : List V}, u = .ref p → SqL X.K y.H p vs → R (Itl X.K p) y.H → wpAny (model X.prog X.w) X.A (pyIter u) (PIE X pins σ tg R) X.xe s1 := fun {p vs} eu hs q => by
      subst eu
      obtain ⟨its, rv, pl, hz⟩ := I1.list hs
      exact wpAny_pyIter_list pl.isList (pi_one (tk := s1.toks) I1 _ (turn_list p _) ⟨_, Heap.get?_push_size _ rfl, rfl, rfl⟩ q)
    cases ry with
    | @tok n p ht =>
      obtain ⟨d', o, e1, e2, e3⟩ := oy.tok ht
      cases e3 with
      | nd e3 =>
        cases e3 with
        | lst r =>
          have hk : srcK y.ν (.tok n) = .val (.tok n) := by
            show (match y.ν[n]? with
              | some (.wlk _ _) => _
              | _ => _) = _
            rw [e1]
          rw [hk] at here
          exact lst (show u = .ref p from r1) (SqL.of e2) (hK ▸ here (src_tok ht))
        | _ =>
          have hk : srcK y.ν (.tok n) = .val (.tok n) := by
            show (match y.ν[n]? with
              | some (.wlk _ _) => _
              | _ => _) = _
            rw [e1]
          have : srcN y.ν (.val (.tok n)) 0 = none := by
            show tokI y.ν[n]? 0 = none
            rw [e1]
            rfl
          rw [hk, this] at hq0
          cases hq0
      | @wlk _ _ kvs ob hk r =>
        subst hk
        have hk : srcK y.ν (.tok n) = .key n := by
          show (match y.ν[n]? with
            | some (.wlk _ _) => _
            | _ => _) = _
          rw [e1]
        rw [hk] at here
        cases (show u = .ref p from r1)
        obtain ⟨hs', hgd, hx, es, ep, vs, hdt, hsz, kv, hm⟩ := I1.frzK e2
        refine iter_keys hs' hgd hx hdt (pi_one (tk := s1.toks) I1 _ (turn_keys _ hdt) ⟨_, Heap.get?_push_size _ rfl, rfl, ?_⟩ (here (src_key ht e2)))
        rw [hsz] <;> rfl
    | @lst xs p vs hs r => exact lst (show u = .ref p from r1) (SqL.of (oy.sub _ _ hs)) (hK ▸ here (src_lst (SqL.of hs) r fun _ _ => rfl))
    | @frz xs p vs hs r => exact lst (show u = .ref p from r1) (hK ▸ sqL_mono oy.sub.h hs) (hK ▸ here (src_lst hs r fun _ _ => rfl))
    | @tup xs p vs hs r =>
      cases (show u = .ref p from r1)
      obtain ⟨its, rv, pl, hz⟩ := I1.tuple (hK ▸ sqT_mono oy.sub.h hs)
      exact wpAny_pyIter_tuple (show s1.heap.IsTuple p its.toArray from pl) (pi_one (tk := s1.toks) I1 _ (turn_tuple p _) ⟨_, Heap.get?_push_size _ rfl, rfl, rfl⟩ (hK ▸ here (src_tup hs r fun _ _ => rfl)))
    | str w =>
      obtain ⟨t, rfl⟩ := r1
      have q := here (src_str (w := w))
      cases hw : w.cps.all (· < 128)
      · exact wpAny_pyIter_wide hw (pi_one (tk := s1.toks) I1 _ (turn_str _ w t "str_iterator" (.inr rfl)) ⟨_, Heap.get?_push_size _ rfl, rfl, rfl⟩ q)
      · exact wpAny_pyIter_ascii hw (pi_one (tk := s1.toks) I1 _ (turn_str _ w t "str_ascii_iterator" (.inl rfl)) ⟨_, Heap.get?_push_size _ rfl, rfl, rfl⟩ q)
    | @dctK ks ds p kvs hs hk r =>
      subst hk
      cases (show u = .ref p from r1)
      have fin : ∀ (ob : Obj) (z : Sit), z.ν = y.ν → Ext n0 y z → OkS G n0 z → z.S p = some (.frz ob (.dK kvs)) → L2.Inv X pins σ z.H s1 → wpAny (model X.prog X.w) X.A (pyIter (.ref p)) (PIE X pins σ tg R) X.xe s1 := fun ob z hν ez oz hz I2 => by
        obtain ⟨hs', hgd, hx, es, ep, vs, hdt, hsz, kv, hm⟩ := I2.frzK (oz.sub _ _ hz)
        refine iter_keys hs' hgd hx hdt (pi_one (tk := s1.toks) I2 _ (turn_keys _ hdt) ⟨_, Heap.get?_push_size _ rfl, rfl, ?_⟩ (k _ z hν ez oz (src_dct hz)))
        rw [hsz] <;> rfl
      rcases hs with hs | ⟨ob, hs⟩
      · obtain ⟨od, I2⟩ := I1.lock (oy.sub _ _ hs) trivial
        obtain ⟨e1, o1⟩ := oy.freeze (ob := od) hs
        exact fin od ⟨upd y.S p (.frz od (.dK kvs)), upd y.H p (.frz od (.dK kvs)), y.ρ, y.ν⟩ rfl e1 o1 upd_same I2
      · exact fin ob y rfl (.refl y) oy hs I1
    | _ => cases hq0
end
end EF

/-! ES: targets, ranges, comprehensions. -/
namespace EF
open PySem PySem.Spec PyProof.Rows L2

/-! ### slots wiped -/
theorem wipe_get : ∀ (own : List Nat) (σ : L2.St) (j : Nat), (L2.wipe σ own)[j]? = if j ∈ own ∧ j < σ.length then some none else σ[j]?
  | [], σ, j => by simp [L2.wipe]
  | v :: vs, σ, j => by
    unfold L2.wipe
    rw [List.getElem?_set, wipe_get vs σ j, wipe_length]
    by_cases h : v = j
    · subst h
      by_cases hl : v < σ.length
      · simp [hl]
      · simp [hl]
    · rw [if_neg h]
      have : (j ∈ v :: vs ∧ j < σ.length) ↔ (j ∈ vs ∧ j < σ.length) := by
        simp [Ne.symm h]
      by_cases h2 : j ∈ vs ∧ j < σ.length
      · rw [if_pos h2, if_pos (this.mpr h2)]
      · rw [if_neg h2, if_neg (fun z => h2 (this.mp z))]
theorem wipe_set {own : List Nat} {σ : L2.St} {i : Nat} {o : Option V} (h : i ∈ own) : L2.wipe (σ.set i o) own = L2.wipe σ own := by
  apply List.ext_getElem?
  intro j
  rw [wipe_get, wipe_get, List.length_set]
  by_cases hj : j ∈ own ∧ j < σ.length
  · rw [if_pos hj, if_pos hj]
  · rw [if_neg hj, if_neg hj]
    by_cases hi : i = j
    · subst hi
      have : ¬ i < σ.length := fun z => hj ⟨h, z⟩
      rw [List.getElem?_eq_none (by simpa using this), List.getElem?_eq_none (by simpa using this)]
    · rw [List.getElem?_set_ne hi]
section
variable {X : Cx} {G : Gx} {n0 : Nat} {W : WX} {pos : Pos}
/-- a store into the targets alone -/
def tofG' (G : Gx) (n0 : Nat) (tg : Tg) : TG := fun v σ H Q => ∃ (x : Sit) (env : Env) (d : D) (env' : Env), x.H = H ∧ OkS G n0 x ∧ EnvOk G x σ env ∧ Rep G x.ρ x.S d v ∧ bindT x.ν tg d env = some env' ∧
  ∀ σ' : L2.St, EnvOk G x σ' env' → (∀ own : List Nat, (∀ i ∈ tgIx tg, i ∈ own) → L2.wipe σ' own = L2.wipe σ own) → Q σ' x.H
theorem g_nm {i : Nat} {y : Str} (hN : X.N.Nodup) (hi : X.N[i]? = some y) (hx : Loc X.env.scope y) (hf : X.fn y = true ∨ X.env.scope.names.lookup y = some .local) : PG X (.Name y pos) (tofG' G n0 (.nm i)) := by
  refine ⟨fun pins s σ H v u Q I r h => (pg_name hN hi hx hf).run pins s σ H v u Q I r ?_⟩
  obtain ⟨x, env, d, env', rfl, ok, en, rd, hb, k⟩ := h
  cases hb
  exact k _ (en.set i rd) fun own ho => wipe_set (ho i (by simp [tgIx]))
/-- several names, one after another -/
inductive PNms (X : Cx) : List Nat → List Expr → Prop where
  | nil : PNms X [] []
  | cons {i : Nat} {is : List Nat} {y : Str} {p : Pos} {es : List Expr} (hi : X.N[i]? = some y) (hx : Loc X.env.scope y) (hf : X.fn y = true ∨ X.env.scope.names.lookup y = some .local) (r : PNms X is es) : PNms X (i :: is) (.Name y p :: es)
def gNms : List Nat → TGs
  | [] => gNil
  | i :: is => gCons (gName i) (gNms is)
theorem PNms.pgs {is : List Nat} {es : List Expr} (hN : X.N.Nodup) (h : PNms X is es) : PGs X es (gNms is) ∧ (assignEach es X.env).length = is.length ∧ (assignEach es X.env).findIdx? (·.1) = none := by
  induction h with
  | nil => exact ⟨pgs_nil, rfl, rfl⟩
  | @cons i is y p es hi hx hf r ih =>
    obtain ⟨h1, h2, h3⟩ := ih
    have e : assignEach (.Name y p :: es) X.env = (false, assign (.Name y p) X.env) :: assignEach es X.env := rfl
    refine ⟨pgs_cons (pg_name hN hi hx hf) h1 rfl, by rw [e, List.length_cons, h2, List.length_cons], ?_⟩
    rw [e, List.findIdx?_cons, h3]
    rfl
theorem gNms_ok {y : Sit} : ∀ {is : List Nat} {ds : List D} {vs : List V} {env env' : Env} {σ : L2.St} {Q : L2.St → Hp → Prop}, Reps G y.ρ y.S ds vs → EnvOk G y σ env → setAll env is ds = some env' →
    (∀ σ' : L2.St, EnvOk G y σ' env' → (∀ own : List Nat, (∀ i ∈ is, i ∈ own) → L2.wipe σ' own = L2.wipe σ own) → Q σ' y.H) → gNms is vs σ y.H Q
  | [], ds, vs, env, env', σ, Q, r, en, h, k => by
    cases ds with
    | nil =>
      cases r
      cases h
      exact ⟨rfl, k σ en fun _ _ => rfl⟩
    | cons d ds => cases h
  | i :: is, ds, vs, env, env', σ, Q, r, en, h, k => by
    cases r with
    | nil => cases h
    | @cons d ds v vs r1 r2 =>
      exact ⟨v, vs, rfl, gNms_ok r2 (en.set i r1) h fun σ' e' hw => k σ' e' fun own ho => (hw own fun j hj => ho j (List.mem_cons_of_mem _ hj)).trans (wipe_set (ho i List.mem_cons_self))⟩
theorem g_tp {is : List Nat} {es : List Expr} {k : Nat} (hK : G.K = X.K) (hc : X.calm = true) (hN : X.N.Nodup) (h : PNms X is es) : PG X (.Tuple es k pos) (tofG' G n0 (.tp is)) := by
  obtain ⟨h1, h2, h3⟩ := h.pgs hN
  refine ⟨fun pins s σ H v u Q I r h => (pg_tup hc h1 h2 h3).run pins s σ H v u Q I r ?_⟩
  obtain ⟨x, env, d, env', rfl, ok, en, rd, hb, k⟩ := h
  cases rd with
  | @tup xs a vs hs q =>
    refine ⟨a, vs, rfl, hK ▸ sqT_mono ok.sub.h hs, ?_, gNms_ok q en hb k⟩
    have : ∀ {is : List Nat} {xs : List D} {env env' : Env}, setAll env is xs = some env' → xs.length = is.length := by
      intro is
      induction is with
      | nil => intro xs env env' h; cases xs <;> first | rfl | cases h
      | cons i is ih =>
        intro xs env env' h
        cases xs with
        | nil => cases h
        | cons d ds => rw [List.length_cons, List.length_cons, ih h]
    rw [← q.length, this hb]
  | _ => cases hb

/-! ### ranges -/
theorem i_rng {tg : Expr} {y : Str} {p : Pos} {es : List Expr} {as : Env → M (List D)} (hy : y = "range") (hg : Gl X y) (hm : X.mg y = none) (ha : PA X es (tofA G n0 W as)) (hl : es.length = 1 ∨ es.length = 2) (hst : ∀ e ∈ es, ∀ r, starEach (e :: r) X.env = (false, eval e X.env) :: starEach r X.env)
    (la : ∀ env ν ds ν', as env ν = some (.ok ds, ν') → ds.length = es.length) : PI X tg (.Call (.Name y p) es [] pos) (tofI G n0 W fun env => (as env).bind fun ds => M.lift (rngD ds)) := by
  subst hy
  have go : ∀ (σ : L2.St) (H : Hp) (R : L2.It → Hp → Prop), tofI G n0 W (fun env => (as env).bind fun ds => M.lift (rngD ds)) σ H R → tofA G n0 W as σ H fun vs H1 => vs.length = es.length ∧
      ((∃ j : Int, vs = [.int j] ∧ -(2 ^ 62) ≤ j ∧ j < 2 ^ 62 ∧ R (Itr 0 j.toNat) H1) ∨ ∃ i j : Int, vs = [.int i, .int j] ∧ (-(2 ^ 62) ≤ i ∧ i < 2 ^ 62 ∧ -(2 ^ 62) ≤ j ∧ j < 2 ^ 62) ∧ R (Itr i (j - i).toNat) H1)   := fun σ H R h => by
    obtain ⟨x, env, rfl, ok, en, h⟩ := h
    refine ⟨x, env, rfl, ok, en, h.bindW fun us vs z hm ez oz rz h => ⟨by rw [← rz.length]; exact la _ _ _ _ hm, ?_⟩⟩
    obtain ⟨t, ht, k⟩ := h.lift
    unfold rngD at ht
    split at ht
    · split at ht
      · next hs =>
        cases ht
        obtain ⟨v, rfl, r1⟩ := rz.inv1
        exact .inl ⟨_, by rw [r1.intV], hs.1, hs.2, k _ z rfl (.refl z) oz src_rng⟩
      · cases ht
    · split at ht
      · next hs =>
        cases ht
        obtain ⟨v, w, rfl, r1, r2⟩ := rz.inv2
        exact .inr ⟨_, _, by rw [r1.intV, r2.intV], ⟨hs.1.1, hs.1.2, hs.2.1, hs.2.2⟩, k _ z rfl (.refl z) oz src_rng⟩
      · cases ht
    · cases ht
  match es, hl, hst, ha, la, go with
  | [a], _, hst, ha, la, go =>
    refine ⟨fun pins s σ H R I h => (pi_range1 hg hm ha (hst a (by simp) [])).run pins s σ H R I ?_⟩
    obtain ⟨x, env, e, ok, en, h⟩ := go σ H R h
    refine ⟨x, env, e, ok, en, .mk (fun z => h.nonOf z) (fun a ν' z b w hw ew ow rw' => ?_) (fun q ν' z => h.exOf z)⟩
    obtain ⟨l1, h | ⟨i, j, e2, _⟩⟩ := h.okOf z b w hw ew ow rw'
    · exact h
    · rw [e2] at l1; cases l1
  | [a, b], _, hst, ha, la, go =>
    refine ⟨fun pins s σ H R I h => (pi_range2 hg hm ha (by rw [hst a (by simp), hst b (by simp)]; rfl) (hst b (by simp) [])).run pins s σ H R I ?_⟩
    obtain ⟨x, env, e, ok, en, h⟩ := go σ H R h
    refine ⟨x, env, e, ok, en, .mk (fun z => h.nonOf z) (fun a ν' z b w hw ew ow rw' => ?_) (fun q ν' z => h.exOf z)⟩
    obtain ⟨l1, ⟨j, e2, _⟩ | h⟩ := h.okOf z b w hw ew ow rw'
    · rw [e2] at l1; cases l1
    · exact h
  | [], hl, _, _, _, _ => simp at hl
  | _ :: _ :: _ :: _, hl, _, _, _, _ => simp at hl

/-! ### comprehensions -/
theorem M.look_inv {α : Type} {f : Sto → Option α} {ν ν' : Sto} {a : α} (h : M.look f ν = some (.ok a, ν')) : f ν = some a ∧ ν' = ν := by
  unfold M.look at h
  cases e : f ν with
  | none => rw [e] at h; cases h
  | some b => rw [e] at h; cases h; exact ⟨rfl, rfl⟩
theorem M.bind_inv {α β : Type} {m : M α} {f : α → M β} {ν ν' : Sto} {b : β} (h : m.bind f ν = some (.ok b, ν')) : ∃ a ν1, m ν = some (.ok a, ν1) ∧ f a ν1 = some (.ok b, ν') := by
  unfold M.bind at h
  cases e : m ν with
  | none => rw [e] at h; cases h
  | some r =>
    obtain ⟨r, ν1⟩ := r
    rw [e] at h
    cases r with
    | ok a => exact ⟨a, ν1, rfl, h⟩
    | ex q => cases h
/-- the new list, tracked beside -/
structure Held (G : Gx) (n0 : Nat) (y z : Sit) (p : Addr) (acc : List D) (vs : List V) : Prop where
  ok : OkS G n0 z
  ex : Ext n0 y z
  at_ : z.H p = some (.lst vs)
  nS : z.S p = none
  nρ : p ∉ z.ρ
  rs : Reps G z.ρ z.S acc vs
theorem Held.start {y : Sit} {p : Addr} (o : OkS G n0 y) (hp : y.H p = none) : Held G n0 y ⟨y.S, upd y.H p (.lst []), y.ρ, y.ν⟩ p [] [] := by
  refine ⟨⟨fun b u e => ?_, o.len, o.base, o.nd, fun n c d e1 e2 => ?_⟩, ⟨fun _ _ e => .inl e, ⟨[], by simp⟩, fun b u e _ => .inl ?_, fun b e q => ?_, fun _ _ e => .inl (by rw [e]; simp), fun _ m => .inl m, fun _ _ d h => ⟨d, h, fun _ q => q⟩, fun b ob u e => by show upd y.H p _ b = _; rw [upd_ne (ne_of_none e hp)]; exact e⟩, upd_same, o.none_of hp, o.notin hp, .nil⟩
  · show upd y.H p _ b = some u
    have := o.sub b u e
    rw [upd_ne (ne_of_none this hp)]; exact this
  · obtain ⟨q1, u, q2, q3⟩ := o.cont n c d e1 e2
    exact ⟨q1, u, by show upd y.H p _ c = _; rw [upd_ne (ne_of_none q2 hp)]; exact q2, q3⟩
  · show upd y.H p _ b = some u
    rw [upd_ne (ne_of_none e hp)]; exact e
  · have q' : upd y.H p (.lst []) b = none := q
    by_cases hb : b = p
    · rw [hb, upd_same] at q'; cases q'
    · rw [upd_ne hb] at q'; exact e q'
theorem Held.go {y z t : Sit} {p : Addr} {acc : List D} {vs : List V} (h : Held G n0 y z p acc vs) (hp : y.H p = none) (e : Ext n0 z t) (o : OkS G n0 t) : Held G n0 y t p acc vs := by
  refine ⟨o, h.ex.trans e, (e.f p _ h.at_ h.nρ).lst, ?_, fun m => ?_, e.reps h.rs⟩
  · cases q : t.S p with
    | none => rfl
    | some u =>
      rcases e.n1 p u q with z1 | z1
      · exact absurd h.nS z1
      · rw [h.at_] at z1; cases z1
  · rcases e.n2 p m with z1 | z1
    · exact h.nρ z1
    · rw [h.at_] at z1; cases z1
theorem Held.snoc {y z : Sit} {p : Addr} {acc : List D} {vs : List V} {d : D} {v : V} (h : Held G n0 y z p acc vs) (hp : y.H p = none) (r : Rep G z.ρ z.S d v) : Held G n0 y ⟨z.S, upd z.H p (.lst (vs ++ [v])), z.ρ, z.ν⟩ p (acc ++ [d]) (vs ++ [v]) := by
  have nb : ∀ {b : Addr} {u : HO}, z.S b = some u → b ≠ p := fun {b u} e q => by rw [q, h.nS] at e; cases e
  refine ⟨⟨fun b u e => ?_, h.ok.len, h.ok.base, h.ok.nd, fun n c d e1 e2 => ?_⟩, ⟨h.ex.s, h.ex.r, fun b u e m => ?_, fun b e q => ?_, h.ex.n1, h.ex.n2, h.ex.t, fun b ob u e => by show upd z.H p _ b = _; rw [upd_ne (ne_of_none e hp)]; exact h.ex.w b ob u e⟩, upd_same, h.nS, h.nρ, h.rs.append (.cons r .nil)⟩
  · show upd z.H p _ b = some u
    rw [upd_ne (nb e)]; exact h.ok.sub b u e
  · obtain ⟨q1, u, q2, q3⟩ := h.ok.cont n c d e1 e2
    refine ⟨q1, u, ?_, q3⟩
    show upd z.H p _ c = _
    rw [upd_ne (show c ≠ p from fun w => h.nρ (by rw [← w]; exact List.mem_of_getElem? e1))]
    exact q2
  · show Fz u (upd z.H p _ b)
    rw [upd_ne (ne_of_none e hp)]
    exact h.ex.f b u e m
  · have q' : upd z.H p (.lst (vs ++ [v])) b = none := q
    by_cases hb : b = p
    · rw [hb, upd_same] at q'; cases q'
    · rw [upd_ne hb] at q'; exact h.ex.g b e q'
/-- the new list is ours -/
theorem Held.adopt {y z : Sit} {p : Addr} {acc : List D} {vs : List V} (h : Held G n0 y z p acc vs) (hp : y.H p = none) :
    OkS G n0 ⟨upd z.S p (.lst vs), z.H, z.ρ, z.ν⟩ ∧ Ext n0 y ⟨upd z.S p (.lst vs), z.H, z.ρ, z.ν⟩ ∧ Rep G z.ρ (upd z.S p (.lst vs)) (.lst acc) (.ref p) := by
  have sS : SubS z.S (upd z.S p (.lst vs)) := sub_updS h.nS
  refine ⟨⟨fun b u e => ?_, h.ok.len, h.ok.base, h.ok.nd, fun n c d e1 e2 => ?_⟩, ⟨fun b u e => (h.ex.s b u e).trans sS.h, h.ex.r, h.ex.f, h.ex.g, fun b u e => ?_, h.ex.n2, h.ex.t, h.ex.w⟩, .lst upd_same (Reps.mono sS.h (fun _ _ q => q) _ _ h.rs)⟩
  · have e' : upd z.S p (.lst vs) b = some u := e
    show z.H b = some u
    by_cases hb : b = p
    · subst hb
      rw [upd_same] at e'
      rw [h.at_, e']
    · rw [upd_ne hb] at e'
      exact h.ok.sub b u e'
  · obtain ⟨q1, u, q2, q3⟩ := h.ok.cont n c d e1 e2
    refine ⟨?_, u, q2, NodeW.mono sS.h (fun _ _ q => q) q3⟩
    show upd z.S p _ c = none
    rw [upd_ne (show c ≠ p from fun w => h.nρ (by rw [← w]; exact List.mem_of_getElem? e1))]
    exact q1
  · have e' : upd z.S p (.lst vs) b = some u := e
    by_cases hb : b = p
    · subst hb; exact .inr hp
    · rw [upd_ne hb] at e'; exact h.ex.n1 b u e'
theorem Held.adoptTok {y z : Sit} {p : Addr} {acc : List D} {vs : List V} (h : Held G n0 y z p acc vs) (hp : y.H p = none) :
    OkS G n0 ⟨z.S, z.H, z.ρ ++ [p], z.ν ++ [.lst acc]⟩ ∧ Ext n0 y ⟨z.S, z.H, z.ρ ++ [p], z.ν ++ [.lst acc]⟩ ∧ Rep G (z.ρ ++ [p]) z.S (.tok z.ν.length) (.ref p) := by
  have rn : ∀ (n : Nat) (c : Addr), z.ρ[n]? = some c → (z.ρ ++ [p])[n]? = some c := fun n c e => by
    rw [List.getElem?_append_left (List.getElem?_eq_some_iff.mp e).1]; exact e
  refine ⟨⟨h.ok.sub, by simp [h.ok.len], by simp; have := h.ok.base; omega, ?_, fun m c d e1 e2 => ?_⟩, ⟨h.ex.s, ?_, h.ex.f, h.ex.g, h.ex.n1, fun b m => ?_, fun m hm d e => ?_, h.ex.w⟩, .tok ?_⟩
  · show (z.ρ ++ [p]).Nodup
    rw [List.nodup_append]
    refine ⟨h.ok.nd, by simp, fun b hb c hc => ?_⟩
    rw [List.mem_singleton.mp hc]
    rintro rfl
    exact h.nρ hb
  · have e1' : (z.ρ ++ [p])[m]? = some c := e1
    have e2' : (z.ν ++ [.lst acc])[m]? = some d := e2
    by_cases hm : m < z.ρ.length
    · rw [List.getElem?_append_left hm] at e1'
      rw [List.getElem?_append_left (by rw [← h.ok.len]; exact hm)] at e2'
      obtain ⟨q1, u, q2, q3⟩ := h.ok.cont m c d e1' e2'
      exact ⟨q1, u, q2, q3.mono (fun _ _ q => .inl q) rn⟩
    · have hm2 : m = z.ρ.length := by
        have := (List.getElem?_eq_some_iff.mp e1').1
        simp at this
        omega
      subst hm2
      rw [List.getElem?_append_right (Nat.le_refl _), Nat.sub_self] at e1'
      rw [List.getElem?_append_right (by rw [h.ok.len]; exact Nat.le_refl _), h.ok.len, Nat.sub_self] at e2'
      simp at e1' e2'
      subst e1' e2'
      exact ⟨h.nS, _, h.at_, .nd (.lst (Reps.mono (fun _ _ q => .inl q) rn _ _ h.rs))⟩
  · obtain ⟨r, er⟩ := h.ex.r
    exact ⟨r ++ [p], by show z.ρ ++ [p] = _; rw [er, List.append_assoc]⟩
  · rcases List.mem_append.mp m with q | q
    · exact h.ex.n2 b q
    · rw [List.mem_singleton.mp q]; exact .inr hp
  · have e : (z.ν ++ [.lst acc])[m]? = some d := e
    rw [List.getElem?_append_left (Nat.lt_of_lt_of_le hm h.ok.base)] at e
    exact h.ex.t m hm d e
  · rw [← h.ok.len, List.getElem?_append_right (Nat.le_refl _), Nat.sub_self]; rfl
end
end EF

/-! ET: the comprehension. -/
namespace EF
open PySem PySem.Spec PyProof.Rows L2

abbrev noW : WX := fun _ _ _ _ => False
section
variable {X : Cx} {G : Gx} {n0 : Nat} {W : WX} {pos : Pos}
/-- a turn: the target, the test, the element -/
def turnM (tg : Tg) (own : List Nat) (ct : Env → M Bool) (el : Env → M D) (env : Env) (d : D) : M (Option D) := (M.look fun ν => bindT ν tg d (env.wipe own)).bind fun env' =>
        (ct env').bind fun k => match k with
          | true => (el env').bind fun x => M.pure (some x)
          | false => M.pure none
theorem loopC_zero {src : Src} {f : D → M (Option D)} {i : Nat} {acc : List D} {ν : Sto} : loopC src f 0 i acc ν = none := rfl
theorem loopC_succ {src : Src} {f : D → M (Option D)} {w i : Nat} {acc : List D} {ν : Sto} : loopC src f (w + 1) i acc ν = (match srcN ν src i with
    | none => none
    | some none => some (.ok acc, ν)
    | some (some v) => (match f v ν with
      | some (.ok none, ν') => loopC src f w (i + 1) acc ν'
      | some (.ok (some x), ν') => if acc.length < sizeLine then loopC src f w (i + 1) (acc ++ [x]) ν' else none
      | _ => none)) := by
  rw [loopC]
  cases e : srcN ν src i with
  | none => rw [M.bind_no (M.look_no e)]
  | some o =>
    rw [M.bind_ok (M.look_ok e)]
    cases o with
    | none => rfl
    | some v =>
      simp only
      cases e2 : f v ν with
      | none => rw [M.bind_no (by unfold calm; rw [e2])]
      | some r =>
        obtain ⟨r, ν'⟩ := r
        cases r with
        | ex q => rw [M.bind_no (by unfold calm; rw [e2])]
        | ok o2 =>
          rw [M.bind_ok (a := o2) (ν' := ν') (by unfold calm; rw [e2])]
          cases o2 <;> rfl
/-- one turn, by what comes of it -/
theorem turn_step {z : Sit} {tg : Tg} {own : List Nat} {ct : Env → M Bool} {el : Env → M D} {env : Env} {d : D} {o : Option D} {ν' : Sto} {v : V} {σ : L2.St} {ctt : TT} {Nx : Hp → Prop} {p : Addr}
    (oz : OkS G n0 z) (en : EnvOk G z σ env) (rd : Rep G z.ρ z.S d v) (ht : ∀ i ∈ tgIx tg, i ∈ own) (hr : turnM tg own ct el env d z.ν = some (.ok o, ν'))
    (hct : ∀ (σ : L2.St) (H : Hp) (Q : Bool → Hp → Prop), tofB G n0 noW ct σ H Q → ctt σ H Q)
    (h0 : o = none → ∀ t : Sit, t.ν = ν' → Ext n0 z t → OkS G n0 t → Nx t.H)
    (h1 : ∀ x, o = some x → ∀ (t : Sit) (w : V), t.ν = ν' → Ext n0 z t → OkS G n0 t → Rep G t.ρ t.S x w → ∃ acc, t.H p = some (.lst acc) ∧ acc.length < sizeLine ∧ Nx (upd t.H p (.lst (acc ++ [w])))) :
    tofG' G n0 tg v (L2.wipe σ own) z.H fun σ2 H2 => L2.wipe σ2 own = L2.wipe σ own ∧ ctt σ2 H2 fun b H3 => if b = true then tofE G n0 noW el σ2 H3 fun y H4 => ∃ acc, H4 p = some (.lst acc) ∧ acc.length < sizeLine ∧ Nx (upd H4 p (.lst (acc ++ [y]))) else Nx H3 := by
  unfold turnM at hr
  obtain ⟨env', ν1, hb, hr⟩ := M.bind_inv hr
  obtain ⟨hb2, rfl⟩ := M.look_inv hb
  clear hb
  have hb := hb2
  obtain ⟨k, ν2, hk, hr⟩ := M.bind_inv hr
  refine ⟨z, env.wipe own, d, env', rfl, oz, en.wipe own, rd, hb, fun σ' en' hw => ⟨(hw own ht).trans ?_, hct _ _ _ ⟨z, env', rfl, oz, en', .mk (fun q => ?_) (fun a ν3 q b t ht2 et ot rt => ?_) (fun q ν3 e => ?_)⟩⟩⟩
  · apply List.ext_getElem?
    intro j
    rw [wipe_get, wipe_get, wipe_length]
    by_cases hj : j ∈ own ∧ j < σ.length
    · rw [if_pos hj, if_pos hj]
    · rw [if_neg hj]
  · rw [hk] at q; cases q
  · rw [hk] at q
    cases q
    have rt : k = b := rt
    subst rt
    cases k with
    | true =>
      rw [if_pos rfl]
      obtain ⟨x, ν4, hx, hr⟩ := M.bind_inv hr
      cases hr
      refine ⟨t, env', rfl, ot, en'.mono et, .mk (fun q => ?_) (fun a ν5 q w u hu eu ou ru => ?_) (fun q ν5 e => ?_)⟩
      · rw [ht2, hx] at q; cases q
      · rw [ht2, hx] at q
        cases q
        exact h1 _ rfl u w hu (et.trans eu) ou ru
      · rw [ht2, hx] at e; cases e
    | false =>
      rw [if_neg Bool.false_ne_true]
      cases hr
      exact h0 rfl t ht2 et ot
  · rw [hk] at e; cases e
/-- the comprehension's reading -/
def compM (it : Env → M Src) (tg : Tg) (own : List Nat) (ct : Env → M Bool) (el : Env → M D) (nw : Bool) (Wn : Nat) (env : Env) : M D := (it env).bind fun src => (loopC src (turnM tg own ct el env) Wn 0 []).bind fun xs => mkNew nw (.lst xs)
theorem comp_wk {own : List (Str × Nat)} {tg : Tg} {it : Env → M Src} {ct : Env → M Bool} {el : Env → M D} {nw : Bool} {Wn : Nat} {ctt : TT} (ht : ∀ i ∈ tgIx tg, i ∈ own.map (·.2)) (hct : ∀ (σ : L2.St) (H : Hp) (Q : Bool → Hp → Prop), tofB G n0 noW ct σ H Q → ctt σ H Q)
    (σ : L2.St) (H : Hp) (Q : VK) (h : tofE G n0 W (compM it tg (own.map (·.2)) ct el nw Wn) σ H Q) : tLc (tofI G n0 W it) (tofG' G n0 tg) ctt (tofE G n0 noW el) (own.map (·.2)) σ H Q := by
  obtain ⟨x, env, rfl, okx, en, h⟩ := h
  refine ⟨x, env, rfl, okx, en, h.bind fun src J y ey oy sj h => fun p hp => ?_⟩
  have en := en.mono ey
  let f := turnM tg (own.map (·.2)) ct el env
  let tail : List D → M D := fun xs => mkNew nw (.lst xs)
  refine ⟨fun i m H => ∃ (z : Sit) (acc : List D) (vs : List V), z.H = H ∧ Held G n0 y z p acc vs ∧ ((loopC src f Wn 0 []).bind tail) y.ν = ((loopC src f m i acc).bind tail) z.ν, ⟨Wn, _, [], [], rfl, .start oy hp, rfl⟩, ?_⟩
  rintro i m H ⟨z, acc, vs, rfl, hd, heq⟩
  obtain ⟨s1, s2⟩ := sj n0 z hd.ex hd.ok i
  cases m with
  | zero => exact (h.nonOf (heq.trans (M.bind_no loopC_zero))).elim
  | succ m =>
    cases e : srcN z.ν src i with
    | none => exact (h.nonOf (heq.trans (M.bind_no (by rw [loopC_succ, e])))).elim
    | some o =>
      cases o with
      | none =>
        refine .inl ⟨s1 e, ?_⟩
        have hm : ((loopC src f (m + 1) i acc).bind tail) z.ν = mkNew nw (.lst acc) z.ν := M.bind_ok (by rw [loopC_succ, e])
        cases nw with
        | false =>
          obtain ⟨a1, a2, a3⟩ := hd.adopt hp
          exact h.okOf (heq.trans hm) (.ref p) ⟨upd z.S p (.lst vs), z.H, z.ρ, z.ν⟩ rfl a2 a1 a3
        | true =>
          obtain ⟨a1, a2, a3⟩ := hd.adoptTok hp
          exact h.okOf (heq.trans hm) (.ref p) ⟨z.S, z.H, z.ρ ++ [p], z.ν ++ [.lst acc]⟩ rfl a2 a1 a3
      | some d =>
        obtain ⟨g1, g2⟩ := s2 d e
        cases e2 : f d z.ν with
        | none => exact (h.nonOf (heq.trans (M.bind_no (by rw [loopC_succ, e]; simp only [e2])))).elim
        | some r =>
          obtain ⟨r, ν'⟩ := r
          cases r with
          | ex q => exact (h.nonOf (heq.trans (M.bind_no (by rw [loopC_succ, e]; simp only [e2])))).elim
          | ok o =>
            refine .inr ⟨g1, fun H' => ∃ (z : Sit) (acc : List D) (vs : List V), z.H = H' ∧ Held G n0 y z p acc vs ∧ ((loopC src f Wn 0 []).bind tail) y.ν = ((loopC src f m (i + 1) acc).bind tail) z.ν, fun H' q => ⟨m, Nat.lt_succ_self m, q⟩, fun v H' hy => ?_⟩
            obtain ⟨rfl, rv⟩ := g2 v H' hy
            refine turn_step hd.ok (en.mono hd.ex) rv ht e2 hct (fun ho t htν et ot => ?_) (fun x ho t w htν et ot rw' => ?_)
            · subst ho
              refine ⟨t, acc, vs, rfl, hd.go hp et ot, heq.trans ?_⟩
              have : loopC src f (m + 1) i acc z.ν = loopC src f m (i + 1) acc t.ν := by
                rw [loopC_succ, e]
                simp only [e2]
                rw [htν]
              unfold M.bind
              rw [this]
            · subst ho
              have hd' := hd.go hp et ot
              by_cases hz : acc.length < sizeLine
              · refine ⟨vs, hd'.at_, by rw [← hd.rs.length]; exact hz, _, acc ++ [x], vs ++ [w], rfl, hd'.snoc hp rw', heq.trans ?_⟩
                have : loopC src f (m + 1) i acc z.ν = loopC src f m (i + 1) (acc ++ [x]) t.ν := by
                  rw [loopC_succ, e]
                  simp only [e2, if_pos hz]
                  rw [htν]
                unfold M.bind
                rw [this]
              · exact (h.nonOf (heq.trans (M.bind_no (by rw [loopC_succ, e]; simp only [e2, if_neg hz])))).elim
theorem c_comp {elt tgx iter : Expr} {ifs : List Expr} {scope : Scope} {own : List (Str × Nat)} {tg : Tg} {it : Env → M Src} {ct : Env → M Bool} {el : Env → M D} {nw : Bool} {Wn : Nat} {ctt : TT}
    (hc : X.calm = true) (hN : X.N.Nodup) (hi : PI X tgx iter (tofI G n0 W it)) (ok : BlkOk X.N X.env.scope scope own) (ht : ∀ i ∈ tgIx tg, i ∈ own.map (·.2))
    (hg : ∀ (s : Shared) (H : Hp) (C : Addr) (cl : List (Str × Addr)) (fp : List Addr), PG (X.blk s H scope (compEnvC scope cl C X.env) fp) tgx (tofG' G n0 tg))
    (hct : ∀ (σ : L2.St) (H : Hp) (Q : Bool → Hp → Prop), tofB G n0 noW ct σ H Q → ctt σ H Q)
    (hts : ∀ (s : Shared) (H : Hp) (C : Addr) (cl : List (Str × Addr)) (fp : List Addr), PTs (X.blk s H scope (compEnvC scope cl C X.env) fp) ifs ctt)
    (he : ∀ (s : Shared) (H : Hp) (C : Addr) (cl : List (Str × Addr)) (fp : List Addr), PE (X.blk s H scope (compEnvC scope cl C X.env) fp) elt (tofE G n0 noW el)) (hs : ∀ x, foldedSetIterable iter X.env x = pure x) :
    PE X (.ListComp elt [⟨tgx, iter, ifs, 0⟩] scope pos) (tofE G n0 W (compM it tg (own.map (·.2)) ct el nw Wn)) :=
  PE.wk (pe_lc (tt := ctt) hc hN hi ok hg hts he hs) (comp_wk ht hct)
/-! ### a dict stands still -/
theorem OkS.lock {x : Sit} {n : Nat} {p : Addr} {ob : Obj} {ks : List DK} {ds : List D} {kvs : List (Key × V)} (a : OkS G n0 x) (h : x.ρ[n]? = some p) (hv : x.ν[n]? = some (.dct ks ds)) (hH : x.H p = some (.dK kvs)) :
    OkS G n0 ⟨x.S, upd x.H p (.frz ob (.dK kvs)), x.ρ, x.ν.set n (.wlk ks ds)⟩ := by
  obtain ⟨hS, o, h2, h3⟩ := a.cont n p _ h hv
  rw [hH] at h2
  cases h2
  have hn : n < x.ν.length := (List.getElem?_eq_some_iff.mp hv).1
  refine ⟨fun b u e => ?_, by show x.ρ.length = (x.ν.set n _).length; rw [List.length_set]; exact a.len, by show n0 ≤ (x.ν.set n _).length; rw [List.length_set]; exact a.base, a.nd, fun m c e e1 e2 => ?_⟩
  · show upd x.H p _ b = some u
    rw [upd_ne (fun z => by rw [z] at e; have e' : x.S p = some u := e; rw [hS] at e'; cases e')]
    exact a.sub b u e
  · have e1 : x.ρ[m]? = some c := e1
    have e2 : (x.ν.set n (.wlk ks ds))[m]? = some e := e2
    by_cases hm2 : n = m
    · subst hm2
      rw [List.getElem?_set_self hn] at e2
      cases e2
      rw [h] at e1
      cases e1
      refine ⟨hS, _, upd_same, ?_⟩
      cases h3.plain rfl with
      | dctK hk r => exact .wlk hk r
    · rw [List.getElem?_set_ne hm2] at e2
      obtain ⟨q1, u, q2, q3⟩ := a.cont m c e e1 e2
      have hc : c ≠ p := fun z => by
        subst z
        exact hm2 (nodup_at a.nd h e1)
      exact ⟨q1, u, by show upd x.H p _ c = _; rw [upd_ne hc]; exact q2, q3⟩
theorem OkS.unlock {x : Sit} {n : Nat} {p : Addr} {ob : Obj} {ks : List DK} {ds : List D} {kvs : List (Key × V)} (a : OkS G n0 x) (h : x.ρ[n]? = some p) (hv : x.ν[n]? = some (.wlk ks ds)) (hH : x.H p = some (.frz ob (.dK kvs))) :
    OkS G n0 ⟨x.S, upd x.H p (.dK kvs), x.ρ, x.ν.set n (.dct ks ds)⟩ := by
  obtain ⟨hS, o, h2, h3⟩ := a.cont n p _ h hv
  rw [hH] at h2
  cases h2
  have hn : n < x.ν.length := (List.getElem?_eq_some_iff.mp hv).1
  refine ⟨fun b u e => ?_, by show x.ρ.length = (x.ν.set n _).length; rw [List.length_set]; exact a.len, by show n0 ≤ (x.ν.set n _).length; rw [List.length_set]; exact a.base, a.nd, fun m c e e1 e2 => ?_⟩
  · show upd x.H p _ b = some u
    rw [upd_ne (fun z => by rw [z] at e; have e' : x.S p = some u := e; rw [hS] at e'; cases e')]
    exact a.sub b u e
  · have e1 : x.ρ[m]? = some c := e1
    have e2 : (x.ν.set n (.dct ks ds))[m]? = some e := e2
    by_cases hm2 : n = m
    · subst hm2
      rw [List.getElem?_set_self hn] at e2
      cases e2
      rw [h] at e1
      cases e1
      refine ⟨hS, _, upd_same, ?_⟩
      cases h3 with
      | nd h3 => cases h3
      | wlk hk r => exact .nd (.dctK hk r)
    · rw [List.getElem?_set_ne hm2] at e2
      obtain ⟨q1, u, q2, q3⟩ := a.cont m c e e1 e2
      have hc : c ≠ p := fun z => by
        subst z
        exact hm2 (nodup_at a.nd h e1)
      exact ⟨q1, u, by show upd x.H p _ c = _; rw [upd_ne hc]; exact q2, q3⟩
theorem Ext.locked {x y : Sit} {n : Nat} {p : Addr} {ob : Obj} {ks ks' : List DK} {ds ds' : List D} {kvs : List (Key × V)} (h : x.ρ[n]? = some p) (hv : x.ν[n]? = some (.dct ks ds)) (hH : x.H p = some (.dK kvs))
    (e : Ext n0 ⟨x.S, upd x.H p (.frz ob (.dK kvs)), x.ρ, x.ν.set n (.wlk ks ds)⟩ y) (hv' : y.ν[n]? = some (.wlk ks' ds')) : Ext n0 x ⟨y.S, upd y.H p (.dK kvs), y.ρ, y.ν.set n (.dct ks' ds')⟩ := by
  have hp : p ∈ x.ρ := List.mem_of_getElem? h
  have hn : n < x.ν.length := (List.getElem?_eq_some_iff.mp hv).1
  have hn' : n < y.ν.length := (List.getElem?_eq_some_iff.mp hv').1
  have back : ∀ b, upd x.H p (.frz ob (.dK kvs)) b = none → x.H b = none := fun b q => by
    by_cases hb : b = p
    · rw [hb, upd_same] at q; cases q
    · rw [upd_ne hb] at q; exact q
  refine ⟨e.s, e.r, fun b o h1 h2 => ?_, fun b h1 => ?_, fun b o h1 => ?_, fun b h1 => ?_, fun m hm d h1 => ?_, fun b o u h1 => ?_⟩
  · have hb : b ≠ p := fun z => h2 (z ▸ hp)
    show Fz o (upd y.H p _ b)
    rw [upd_ne hb]
    exact e.f b o (by show upd x.H p _ b = _; rw [upd_ne hb]; exact h1) h2
  · show upd y.H p _ b ≠ none
    by_cases hb : b = p
    · rw [hb, upd_same]; simp
    · rw [upd_ne hb]
      exact e.g b (by show upd x.H p _ b ≠ _; rw [upd_ne hb]; exact h1)
  · exact (e.n1 b o h1).imp id (back b)
  · exact (e.n2 b h1).imp id (back b)
  · have h1 : (y.ν.set n (.dct ks' ds'))[m]? = some d := h1
    have key : ∀ d1, y.ν[m]? = some d1 → (∀ k, d1.low k = true → d.low k = true) → ∃ d0, x.ν[m]? = some d0 ∧ ∀ k, d0.low k = true → d.low k = true := fun d1 q1 q2 => by
      obtain ⟨d2, r1, r2⟩ := e.t m hm d1 q1
      have r1 : (x.ν.set n (.wlk ks ds))[m]? = some d2 := r1
      by_cases hm2 : n = m
      · subst hm2
        rw [List.getElem?_set_self hn] at r1
        cases r1
        exact ⟨_, hv, fun k q => q2 k (r2 k (by simpa [D.low] using q))⟩
      · rw [List.getElem?_set_ne hm2] at r1
        exact ⟨d2, r1, fun k q => q2 k (r2 k q)⟩
    by_cases hm2 : n = m
    · subst hm2
      rw [List.getElem?_set_self hn'] at h1
      cases h1
      exact key _ hv' fun k q => by simpa [D.low] using q
    · rw [List.getElem?_set_ne hm2] at h1
      exact key d h1 fun _ q => q
  · have hb : b ≠ p := fun z => by rw [z, hH] at h1; cases h1
    show upd y.H p _ b = _
    rw [upd_ne hb]
    exact e.w b o u (by show upd x.H p _ b = _; rw [upd_ne hb]; exact h1)
theorem PE.or {e : Expr} {t t' : TE} (h : PE X e t) (h' : PE X e t') : PE X e fun σ H Q => t σ H Q ∨ t' σ H Q := ⟨fun pins s σ H Q I hw => hw.elim (h.run pins s σ H Q I) (h'.run pins s σ H Q I)⟩
theorem c_lck {e : Expr} {a : Env → M D} {i : Nat} (he : PE X e (tofE G n0 W a)) : PE X e (tofE G n0 W fun env => lckM (env[i]?.bind id) (a env)) := by
  refine PE.wk (PE.or he (pe_lock he)) fun σ H Q q => ?_
  obtain ⟨x, env, rfl, ok, en, h⟩ := q
  have plain : lckM (env[i]?.bind id) (a env) x.ν = a env x.ν → (tofE G n0 W a) σ x.H Q := fun z => ⟨x, env, rfl, ok, en, h.from (.refl x) z⟩
  cases hi : env[i]?.bind id with
  | none => exact .inl (plain (by rw [hi] <;> rfl))
  | some d =>
    cases d with
    | tok n =>
      cases hv : x.ν[n]? with
      | none => exact .inl (plain (by rw [hi]; unfold lckM; simp only [hv]))
      | some c =>
        cases c with
        | dct ks ds =>
          right
          have hi2 : env[i]? = some (some (.tok n)) := by
            cases q : env[i]? with
            | none => rw [q] at hi; cases hi
            | some o => rw [q] at hi; exact congrArg some hi
          obtain ⟨u, _, r⟩ := en.at_ i _ hi2
          cases r with
          | @tok _ p ht =>
            obtain ⟨hS, o, h2, h3⟩ := ok.cont n p _ ht hv
            cases h3.plain rfl with
            | @dctK _ _ kvs hk rr =>
              refine ⟨p, _, h2, trivial, fun od => ?_⟩
              have o1 := ok.lock (ob := od) ht hv h2
              have e1 : lckM (env[i]?.bind id) (a env) x.ν = unlK n (a env (x.ν.set n (.wlk ks ds))) := by
                rw [hi]
                unfold lckM
                simp only [hv]
              refine ⟨⟨x.S, upd x.H p (.frz od (.dK kvs)), x.ρ, x.ν.set n (.wlk ks ds)⟩, env, rfl, o1, ⟨en.len, en.at_⟩, .mk (fun z => h.nonOf ?_) (fun d ν' z v y hy ey oy ry => ?_) (fun q ν' z c dx y hy ey oy ey2 => (h.nonOf ?_).elim)⟩
              · have z : a env (x.ν.set n (.wlk ks ds)) = none := z
                exact e1.trans (by rw [z]; rfl)
              · have z : a env (x.ν.set n (.wlk ks ds)) = some (.ok d, ν') := z
                have hp := ey.w p _ _ (show upd x.H p _ p = _ from upd_same)
                have ht' : y.ρ[n]? = some p := ey.rn n p ht
                obtain ⟨d', o', g1, g2, g3⟩ := oy.tok ht'
                rw [hp] at g2
                cases g2
                cases g3 with
                | nd g3 => cases g3
                | @wlk ks' ds' _ _ hk' rr' =>
                  refine ⟨hp, ?_⟩
                  refine h.okOf (a := d) (ν' := y.ν.set n (.dct ks' ds')) ?_ v ⟨y.S, upd y.H p (.dK kvs), y.ρ, y.ν.set n (.dct ks' ds')⟩ rfl (Ext.locked ht hv h2 ey g1) (oy.unlock ht' g1 hp) ry
                  exact e1.trans (by rw [z, ← hy]; unfold unlK; simp only [g1])
              · have z : a env (x.ν.set n (.wlk ks ds)) = some (.ex q, ν') := z
                exact e1.trans (by rw [z]; rfl)
        | _ => exact .inl (plain (by rw [hi]; unfold lckM; simp only [hv]))
    | _ => exact .inl (plain (by rw [hi] <;> rfl))
/-- a class that is not made -/
theorem c_mkF {y : Str} {p : Pos} {e : Expr} {es : List Expr} {as : Env → M (List D)} {g : List D → M D} {a : Addr} (hq : ∀ ds, g ds = fun _ => none) (hk : PySem.W.keepIn X.K (.ref a) = true) (hg : Gl X y) (hm : X.mg y = some (.ref a)) (hd : (y == ("__debug__" : Str)) = false) (ha : PA X (e :: es) (tofA G n0 W as))
    (he : starEach (e :: es) X.env = (false, eval e X.env) :: starEach es X.env) (hpl : (backTo pos (starEach es X.env)).any (·.1) = false) : PE X (.Call (.Name y p) (e :: es) [] pos) (tofE G n0 W fun env => (as env).bind fun ds => g ds) := by
  refine ⟨fun pins s σ H Q I h => ?_⟩
  obtain ⟨x, env, rfl, ok, en, h⟩ := h
  refine wpAny_Call_Name_kw (ld_glob I hg hm ?_ hd)
  exact PySem.W.callWith_K (h₀ := X.base) I.ok.mod.kin hk (thn (ha.run pos pins s σ x.H (fun vs H1 => False) I ⟨x, env, rfl, ok, en, h.bind fun us vs y ey oy ry h => h.nonOf (by rw [hq])⟩) fun us s1 ⟨vs, H1, I1, r, z⟩ => z.elim) he hpl
end
end EF

/-! EU: the check is sound: expressions. -/
namespace EF
open PySem PySem.Spec PyProof.Rows L2

section
variable {tp : Top} {nC : Nat} {C : Ck}
theorem chk_star : ∀ (e : E) (z : Expr) (p : Pos), chkE tp nC C e (.Starred z p) = false := by
  intro e z p
  cases e <;> rfl
theorem chk_set : ∀ (e : E) (zs : List Expr) (k : Nat) (p : Pos), chkE tp nC C e (.Set zs k p) = false := by
  intro e z k p
  cases e <;> rfl
theorem chk_slice : ∀ (e : E) (a b c : Option Expr) (p : Pos), chkE tp nC C e (.Slice a b c p) = false := by
  intro e a b c p
  cases e <;> rfl
theorem star_of {e : E} {x : Expr} (h : chkE tp nC C e x = true) (xs : List Expr) (env : PySem.Env) : starEach (x :: xs) env = (false, eval x env) :: starEach xs env := by
  cases x with
  | Starred z p => rw [chk_star] at h; cases h
  | _ => rfl
theorem mark_of {e : E} {x : Expr} {op : CmpOp} (h : chkE tp nC C e x = true) : behindInMarks op x = false := by
  cases x with
  | Set zs k p => rw [chk_set] at h; cases h
  | _ => rfl
theorem ix_of {e : E} {x : Expr} (h : chkE tp nC C e x = true) : PlainIx x := fun o i => by
  cases x with
  | Slice a b c p => rw [chk_slice] at h; cases h
  | _ => rfl
theorem fold_of {e : E} {x : Expr} (h : chkE tp nC C e x = true) {env : PySem.Env} : ∀ v, foldedSetIterable x env v = pure v := fun v => by
  cases x with
  | Set zs k p => rw [chk_set] at h; cases h
  | _ => rfl
theorem base_of {x : Expr} {n : Str} {env : PySem.Env} (h : noCall x = true) {w : Sem Value} : attributeBase x n env w = w := by
  cases x with
  | Call f as ks p =>
    cases f <;> first | rfl | skip
    cases as with
    | nil =>
      cases ks with
      | nil => cases h
      | cons _ _ => rfl
    | cons _ _ => rfl
  | _ => rfl
theorem stars_of {env : PySem.Env} : ∀ {xs : List Expr} {es : Es}, chkEs tp nC C es xs = true → (∀ pos, (backTo pos (starEach xs env)).any (·.1) = false) ∧ (∀ pos, (backTo pos (starEach xs env)).all (fun x => !x.1) = true)
  | [], es, h => ⟨fun _ => rfl, fun _ => rfl⟩
  | x :: xs, es, h => by
    cases es with
    | nil => cases h
    | cons e r =>
      have h : (chkE tp nC C e x && chkEs tp nC C r xs) = true := h
      rw [Bool.and_eq_true] at h
      obtain ⟨i1, i2⟩ := stars_of (env := env) h.2
      have e1 := star_of h.1 xs env
      refine ⟨fun pos => ?_, fun pos => ?_⟩
      · rw [e1]
        show (false || (backTo pos (starEach xs env)).any (·.1)) = false
        rw [i1]; rfl
      · rw [e1]
        show (true && (backTo pos (starEach xs env)).all (fun x => !x.1)) = true
        rw [i2]; rfl
theorem mem_of {env : PySem.Env} : ∀ {xs : List Expr} {es : Es}, chkEs tp nC C es xs = true → ∀ e ∈ xs, ∀ r, starEach (e :: r) env = (false, eval e env) :: starEach r env
  | [], es, h => fun e he => by cases he
  | x :: xs, es, h => by
    cases es with
    | nil => cases h
    | cons e r =>
      have h : (chkE tp nC C e x && chkEs tp nC C r xs) = true := h
      rw [Bool.and_eq_true] at h
      intro z hz
      rcases List.mem_cons.mp hz with rfl | hz
      · exact fun r => star_of h.1 r env
      · exact mem_of h.2 z hz
theorem evEs_len {T : Tab} {F F1 : Nat → List D → M D} {n0 Wn : Nat} {env : Env} : ∀ {xs : List Expr} {es : Es} {ν ν' : Sto} {ds : List D}, chkEs tp nC C es xs = true → evEs T F F1 n0 Wn env es ν = some (.ok ds, ν') → ds.length = xs.length
  | [], es, ν, ν', ds, h, q => by
    cases es with
    | nil =>
      have q : M.pure ([] : List D) ν = some (.ok ds, ν') := q
      cases q
      rfl
    | cons e r => cases h
  | x :: xs, es, ν, ν', ds, h, q => by
    cases es with
    | nil => cases h
    | cons e r =>
      have h : (chkE tp nC C e x && chkEs tp nC C r xs) = true := h
      rw [Bool.and_eq_true] at h
      have q : ((evE T F F1 n0 Wn env e).bind fun d => (evEs T F F1 n0 Wn env r).bind fun ds => M.pure (d :: ds)) ν = some (.ok ds, ν') := q
      obtain ⟨d, ν1, _, q⟩ := M.bind_inv q
      obtain ⟨ds', ν2, q1, q⟩ := M.bind_inv q
      cases q
      rw [List.length_cons, List.length_cons, evEs_len h.2 q1]
/-- what the whole leans on -/
structure Fts (P : Program) (w : World) (K : PySem.W.Frag) (mg : Str → Option Value) (base : Heap) (A : Around) (G : Gx) (T : Tab) (tp : Top) (F F1 : Nat → List D → M D) : Prop where
  hK : G.K = K
  un : A.units + 8 < cLine
  cls : ClsK G
  fld : ∀ f, f < tp.nfl → G.fld f = tp.fld f ∧ FldK G f ∧ ∀ g, G.fld g = G.fld f → g = f
  free : ∀ b : Bi, b ≠ .gcd → mg (biN b) = none
  tys : ∀ t, t < 6 → mg (tyNm t) = none
  isi : mg ("isinstance" : Str) = none
  rng : mg ("range" : Str) = none
  gcd : tp.gcd = true → mg ("gcd" : Str) = some (.builtin "math.gcd")
  glb : ∀ i, i < tp.nG → ∃ v u, mg (tp.gnm i) = some u ∧ RelV v u ∧ ∀ z, T.glb i = some z → ∀ y : Sit, Rep G y.ρ y.S z v
  fn : ∀ f, f < tp.nF → ∃ k np fa fd ps, Room k A ∧ mg (tp.fnm f) = some (.ref fa) ∧ DefOk P w K mg base k G (F f) np fa fd ps ∧ Wants (F f) np ∧ ∀ j q, tp.kwf j = f → T.kw j = some q → KwOk fd ps (tp.kwn j) (tp.kws j) q
  make : ∀ c, c < G.nC → mg (tp.cnm c) = some (.ref (G.cad c)) ∧ PySem.W.keepIn K (.ref (G.cad c)) = true ∧ ((∀ ds ν, makeD T F1 c ds ν = none) ∨ ∃ k f np fa fd ps, Room (k + 1) A ∧ T.init c = some f ∧ Mk K (G.cad c) fa ∧ DefOk P w K mg base k G (F1 f) np fa fd ps ∧ Wants (F1 f) np)
structure Sn (X : Cx) (C : Ck) (W : WX) (G : Gx) (T : Tab) (tp : Top) (F F1 : Nat → List D → M D) : Prop where
  fx : Fts X.prog X.w X.K X.mg X.base X.A G T tp F F1
  N : X.N = C.N
  sc : X.env.scope = C.sc
  fn : X.fn = C.fn
  kd : C.sc.kind = .function
  nd : X.N.Nodup
  calm : X.calm = true
  tk : Takes X W
end
section
variable {tp : Top} {G : Gx} {T : Tab} {F F1 : Nat → List D → M D} {n0 Wn : Nat} {X : Cx} {C : Ck} {W : WX}
theorem and2 {a b : Bool} (h : (a && b) = true) : a = true ∧ b = true := by rw [Bool.and_eq_true] at h; exact h
theorem dbg_of {y : Str} (h : dbgB y = true) : (y == ("__debug__" : Str)) = false ∧ (y == ("__classdict__" : Str)) = false := by
  unfold dbgB at h
  obtain ⟨h1, h2⟩ := and2 h
  exact ⟨by simpa using h1, by simpa using h2⟩
theorem Sn.gl (S : Sn X C W G T tp F F1) {y : Str} (h : glB C y = true) : Gl X y ∧ (y == ("__debug__" : Str)) = false := by
  unfold glB at h
  obtain ⟨h1, h2⟩ := and2 h
  refine ⟨?_, (dbg_of h1).1⟩
  show X.env.scope.names.lookup y = some .globalImplicit
  rw [S.sc]
  split at h2
  · assumption
  · cases h2
theorem Sn.vis (S : Sn X C W G T tp F F1) {i : Nat} {y : Str} (h : visB C i y = true) : X.N[i]? = some y ∧ Vis X.env.scope y ∧ (y == ("__debug__" : Str)) = false ∧ (y == ("__classdict__" : Str)) = false := by
  unfold visB at h
  obtain ⟨h1, h2⟩ := and2 h
  obtain ⟨h0, h1⟩ := and2 h1
  refine ⟨by rw [S.N]; exact of_decide_eq_true h0, ?_, dbg_of h1⟩
  rw [S.sc]
  split at h2
  · exact .inl (by assumption)
  · exact .inr (.inl (by assumption))
  · exact .inr (.inr (by assumption))
  · cases h2
theorem Sn.loc (S : Sn X C W G T tp F F1) {i : Nat} {y : Str} (h : locB C i y = true) : X.N[i]? = some y ∧ Loc X.env.scope y ∧ (X.fn y = true ∨ X.env.scope.names.lookup y = some .local) := by
  unfold locB at h
  obtain ⟨h1, h2⟩ := and2 h
  refine ⟨by rw [S.N]; exact of_decide_eq_true h1, ?_⟩
  rw [S.sc, S.fn]
  split at h2
  · next q => exact ⟨.inl q, .inr q⟩
  · next q => exact ⟨.inr q, .inl h2⟩
  · cases h2
theorem boot_bi : ∀ b : Bi, b ≠ .gcd → bootBuiltins (biN b) = some (biV b) := by
  intro b h
  cases b <;> first | exact absurd rfl h | decide +kernel
theorem boot_ty : ∀ t, t < 6 → bootBuiltins (tyNm t) = some (.type (tyName t)) := by decide +kernel
theorem boot_isi : bootBuiltins "isinstance" = some (.builtin "isinstance") := by decide +kernel
theorem name_ty : ∀ t, t < 6 → tyNm t ≠ "__name__" := by decide +kernel
theorem name_bi : ∀ b : Bi, biN b ≠ "__name__" := by
  intro b
  cases b <;> decide +kernel
theorem Sn.cl (S : Sn X C W G T tp F F1) {c : Cl} {x : Expr} (h : clB tp G.nC C c x = true) : PE X x (tC (clsV G c)) ∧ c.fit G.nC = true ∧ ∀ xs env, starEach (x :: xs) env = (false, eval x env) :: starEach xs env := by
  unfold clB at h
  split at h
  · next y p =>
    obtain ⟨h1, h2⟩ := and2 h
    obtain ⟨g1, g2⟩ := S.gl h1
    cases c with
    | ty t =>
      obtain ⟨h5, h6⟩ := and2 h2
      have h7 : t < 6 := of_decide_eq_true h5
      have h8 : y = tyNm t := of_decide_eq_true h6
      subst h8
      exact ⟨pe_bltn g1 (S.fx.tys t h7) (boot_ty t h7) rfl (name_ty t h7) g2, decide_eq_true h7, fun _ _ => rfl⟩
    | own c =>
      obtain ⟨h5, h6⟩ := and2 h2
      have h7 : c < G.nC := of_decide_eq_true h5
      have h8 : y = tp.cnm c := of_decide_eq_true h6
      subst h8
      exact ⟨pe_glob g1 (S.fx.make c h7).1 rfl g2, decide_eq_true h7, fun _ _ => rfl⟩
  · cases h
theorem Sn.cls (S : Sn X C W G T tp F F1) : ∀ {cs : List Cl} {xs : List Expr}, clsB tp G.nC C cs xs = true → PCls X G cs xs ∧ (cs.all (Cl.fit G.nC)) = true
  | [], [], _ => ⟨.nil, rfl⟩
  | [], _ :: _, h => by cases h
  | _ :: _, [], h => by cases h
  | c :: cs, x :: xs, h => by
    obtain ⟨h1, h2⟩ := and2 (show (clB tp G.nC C c x && clsB tp G.nC C cs xs) = true from h)
    obtain ⟨p1, p2, p3⟩ := S.cl h1
    obtain ⟨q1, q2⟩ := S.cls h2
    exact ⟨.cons p1 (p3 _ _) q1, by rw [List.all_cons, p2, q2]; rfl⟩
/-- targets -/
theorem Sn.nms (S : Sn X C W G T tp F F1) : ∀ {is : List Nat} {xs : List Expr}, tgNs C is xs = true → PNms X is xs
  | [], [], _ => .nil
  | [], _ :: _, h => by cases h
  | _ :: _, [], h => by cases h
  | i :: is, x :: xs, h => by
    have h : (nmB C i x && tgNs C is xs) = true := h
    obtain ⟨h1, h2⟩ := and2 h
    unfold nmB at h1
    split at h1
    · obtain ⟨a, b, c⟩ := S.loc h1
      exact .cons a b c (S.nms h2)
    · cases h1
theorem Sn.tg (S : Sn X C W G T tp F F1) {t : Tg} {x : Expr} (h : tgB C t x = true) : PG X x (tofG' G n0 t) := by
  unfold tgB at h
  split at h
  · split at h
    · obtain ⟨a, b, c⟩ := S.loc h
      exact g_nm S.nd a b c
    · cases h
  · split at h
    · exact g_tp S.fx.hK S.calm S.nd (S.nms h)
    · cases h
end
end EF

set_option maxHeartbeats 8000000
/-! EV: the check is sound: expressions, all of them. -/
namespace EF
open PySem PySem.Spec PyProof.Rows L2

section
variable {tp : Top} {G : Gx} {T : Tab} {F F1 : Nat → List D → M D} {n0 Wn : Nat}
/-- as a value and as a test -/
abbrev Both (X : Cx) (G : Gx) (n0 : Nat) (W : WX) (x : Expr) (a : Env → M D) : Prop := PE X x (tofE G n0 W a) ∧ PT X x (tofB G n0 W (tst a))
theorem Both.of {X : Cx} {W : WX} {x : Expr} {a : Env → M D} (hK : G.K = X.K) (h : PE X x (tofE G n0 W a)) (he : ∀ whole, isTrue x X.env whole = (do let v ← whole; standAt x.pos; holding [v] (truthy v))) : Both X G n0 W x a := ⟨h, t_plain hK h he⟩
theorem op_of {o : Operator} {b : Bop} (h : opB o b = true) : o = opOf b := by
  cases o <;> cases b <;> first | rfl | cases h
theorem cp_of {o : CmpOp} {b : Cop} (h : cpB o b = true) : o = cpOf b := by
  cases o <;> cases b <;> first | rfl | cases h
theorem lit_of {X : Cx} {d : D} {c : Const} {k : Nat} {p : Pos} (h : litB d c = true) : ∃ v, PE X (.Constant c k p) (tC v) ∧ ∀ y : Sit, Rep G y.ρ y.S d v := by
  unfold litB at h
  split at h
  · exact ⟨_, pe_non, fun _ => .non⟩
  · have := eq_of_beq h
    subst this
    exact ⟨_, pe_bl, fun _ => .bl _⟩
  · have := of_decide_eq_true h
    subst this
    exact ⟨_, pe_int, fun _ => .int _⟩
  · have := of_decide_eq_true h
    subst this
    exact ⟨_, pe_str, fun _ => .str _⟩
  · cases h
theorem cmp_bl {a b : Env → M D} {op : Cop} : ∀ env ν d ν', ((a env).bind fun x => (b env).bind fun y => M.look fun ν => (cmpD ν op x y).map D.bl) ν = some (.ok d, ν') → ∃ c, d = .bl c := by
  intro env ν d ν' h
  obtain ⟨x, ν1, _, h⟩ := M.bind_inv h
  obtain ⟨y, ν2, _, h⟩ := M.bind_inv h
  obtain ⟨h, _⟩ := M.look_inv h
  rw [Option.map_eq_some_iff] at h
  obtain ⟨c, _, rfl⟩ := h
  exact ⟨c, rfl⟩
theorem chn_bl {a b c : Env → M D} {o1 o2 : Cop} : ∀ env ν d ν', ((a env).bind fun x => (b env).bind fun y => (M.look fun ν => cmpD ν o1 x y).bind fun k => match k with
      | true => (c env).bind fun z => M.look fun ν => (cmpD ν o2 y z).map D.bl
      | false => M.pure (.bl false)) ν = some (.ok d, ν') → ∃ c, d = .bl c := by
  intro env ν d ν' h
  obtain ⟨x, ν1, _, h⟩ := M.bind_inv h
  obtain ⟨y, ν2, _, h⟩ := M.bind_inv h
  obtain ⟨k, ν3, _, h⟩ := M.bind_inv h
  cases k with
  | false => cases h; exact ⟨_, rfl⟩
  | true =>
    obtain ⟨z, ν4, _, h⟩ := M.bind_inv h
    obtain ⟨h, _⟩ := M.look_inv h
    rw [Option.map_eq_some_iff] at h
    obtain ⟨c, _, rfl⟩ := h
    exact ⟨c, rfl⟩
theorem t_cmp {X : Cx} {W : WX} {l r : Expr} {pos : Pos} {a b : Env → M D} {op : Cop} (hK : G.K = X.K) (hu : X.A.units + 8 < cLine) (ha : PE X l (tofE G n0 W a)) (hb : PE X r (tofE G n0 W b)) (hm : behindInMarks (cpOf op) r = false) : PT X (.Compare l [cpOf op] [r] pos) (tofB G n0 W (tst fun env => (a env).bind fun x => (b env).bind fun y => M.look fun ν => (cmpD ν op x y).map .bl)) := by
  refine t_bool (PT.wk (pt_cmpR (op_cmp (n0 := n0) hK hu op) ha hb hm) fun σ H Q h => ?_) cmp_bl
  obtain ⟨x, env, rfl, ok, en, h⟩ := h
  refine ⟨x, env, rfl, ok, en, h.bind fun u v y ey oy ry h => ⟨y, env, rfl, oy, en.mono ey, h.bind fun u' v' z ez oz rz h => ?_⟩⟩
  obtain ⟨t, ht, k⟩ := h.look
  rw [Option.map_eq_some_iff] at ht
  obtain ⟨q, hq, rfl⟩ := ht
  exact ⟨z, u, u', q, rfl, oz, ez.rep ry, rz, hq, k⟩
theorem t_chn {X : Cx} {W : WX} {l r c : Expr} {pos : Pos} {a b d : Env → M D} (hK : G.K = X.K) (hu : X.A.units + 8 < cLine) {o1 o2 : Cop} (ha : PE X l (tofE G n0 W a)) (hb : PE X r (tofE G n0 W b)) (hc : PE X c (tofE G n0 W d)) (hm : lastMarks [cpOf o1, cpOf o2] [r, c] = false) :
    PT X (.Compare l [cpOf o1, cpOf o2] [r, c] pos) (tofB G n0 W (tst fun env => (a env).bind fun x => (b env).bind fun y => (M.look fun ν => cmpD ν o1 x y).bind fun k => match k with
      | true => (d env).bind fun z => M.look fun ν => (cmpD ν o2 y z).map .bl
      | false => M.pure (.bl false))) := by
  refine t_bool (PT.wk (pt_chain (op_cmp (n0 := n0) hK hu o1) (op_cmp (n0 := n0) hK hu o2) ha hb hc hm) fun σ H Q h => ?_) chn_bl
  obtain ⟨x, env, rfl, ok, en, h⟩ := h
  refine ⟨x, env, rfl, ok, en, h.bind fun u v y ey oy ry h => ⟨y, env, rfl, oy, en.mono ey, h.bind fun u' v' z ez oz rz h => ?_⟩⟩
  obtain ⟨k, hk, h⟩ := h.lookBind
  refine ⟨z, u, u', k, rfl, oz, ez.rep ry, rz, hk, fun w t ht et ot rt => ⟨k, rt.blV, ?_⟩⟩
  cases k with
  | true =>
    rw [if_pos rfl]
    have h := h.from et (k := (d env).bind fun z => M.look fun ν => (cmpD ν o2 u' z).map .bl) (by rw [ht])
    refine ⟨t, env, rfl, ot, (en.mono ey).mono (ez.trans et), h.bind fun u2 v2 q eq oq rq h => ?_⟩
    obtain ⟨w2, hw, k⟩ := h.look
    rw [Option.map_eq_some_iff] at hw
    obtain ⟨b2, hb, rfl⟩ := hw
    exact ⟨q, u', u2, b2, rfl, oq, eq.rep (et.rep rz), rq, hb, k⟩
  | false =>
    rw [if_neg Bool.false_ne_true]
    exact (h.from et (k := M.pure (.bl false)) (by rw [ht])).pure ot (.bl false)
theorem last_of {o1 o2 : CmpOp} {r c : Expr} (h : behindInMarks o2 c = false) : lastMarks [o1, o2] [r, c] = false := h
/-- the block of a comprehension -/
theorem Sn.blk {X : Cx} {C : Ck} {W : WX} (S : Sn X C W G T tp F F1) {scope : Scope} (hk : scope.kind = .function) (s : Shared) (H : Hp) (a : Addr) (cl : List (Str × Addr)) (fp : List Addr) : Sn (X.blk s H scope (compEnvC scope cl a X.env) fp) (C.blk scope) noW G T tp F F1 where
  fx := S.fx
  N := S.N
  sc := by
    show relS scope X.env.scope = relS scope C.sc
    rw [S.sc]
  fn := rfl
  kd := hk
  nd := S.nd
  calm := S.calm
  tk := fun u s' ⟨_, _, _, _, _, _, _, _, _, _, _, _, _, _, _, _, z⟩ => z.elim

theorem litS_inv {z : Str} {c : Const} (h : litB (.str z) c = true) : c = .str z := by
  cases c <;> first | (cases h; done) | exact congrArg Const.str (of_decide_eq_true h).symm
theorem partB_inv {f : Expr → Bool} {e : E} {x : Expr} (h : partB f e x = true) : (∃ z kk pp, e = .lit (.str z) ∧ x = .Constant (.str z) kk pp) ∨ ∃ y pp, x = .FormattedValue y (-1) none pp ∧ f y = true := by
  unfold partB at h
  split at h
  · split at h
    · rw [litS_inv h]
      exact .inl ⟨_, _, _, rfl, rfl⟩
    · cases h
  · exact .inr ⟨_, _, rfl, h⟩
  · cases h
/-! ### dict displays of constants -/
theorem key1_inv {k : DK} {x : Option Expr} (h : key1 k x = true) : ∃ z kk pp, k = .one (.inr z) ∧ x = some (.Constant (.str z) kk pp) := by
  unfold key1 at h
  split at h
  · have := of_decide_eq_true h
    subst this
    exact ⟨_, _, _, rfl, rfl⟩
  · cases h
theorem lit1_inv {e : E} {v : Expr} (h : lit1 e v = true) : ∃ d c kk pp, e = .lit d ∧ v = .Constant c kk pp ∧ litB d c = true := by
  unfold lit1 at h
  split at h
  · exact ⟨_, _, _, _, rfl, rfl, h⟩
  · cases h
theorem dsp_data {X : Cx} {pos : Pos} : ∀ {ks : List DK} {es : Es} {xs : List (Option Expr)} {vs : List Expr}, dspB ks es xs vs = true →
    ∃ (kvs : List (Key × V)) (ds : List D) (trs : List (TE × TE)), ks = kvs.map (fun kv => DK.one kv.1) ∧ PPs X pos xs vs trs ∧ xs.length = ks.length ∧ vs.length = ks.length ∧ ds.length = ks.length ∧ xs.all (·.isSome) = true ∧
      (∀ (σ : L2.St) (H : Hp) (Q : List (V × V) → Hp → Prop), Q (kvs.map fun kv => (kV kv.1, kv.2)) H → tPairs trs σ H Q) ∧ (∀ env, evEs T F F1 n0 Wn env es = M.pure ds) ∧ ∀ y : Sit, Reps G y.ρ y.S ds (kvs.map (·.2))
  | [], .nil, [], [], _ => ⟨[], [], [], rfl, pps_nil, rfl, rfl, rfl, rfl, fun _ _ _ q => q, fun _ => rfl, fun _ => .nil⟩
  | k :: ks, .cons e r, x :: xs, v :: vs, h => by
    have h : (key1 k x && lit1 e v && dspB ks r xs vs) = true := h
    obtain ⟨h, h3⟩ := and2 h
    obtain ⟨h1, h2⟩ := and2 h
    obtain ⟨kvs, ds, trs, rfl, p1, p2, p3, p4, p5, p6, p7, p8⟩ := dsp_data (X := X) (pos := pos) h3
    obtain ⟨z, k2, pp, rfl, rfl⟩ := key1_inv h1
    obtain ⟨d, c, k3, pp3, rfl, rfl, h2⟩ := lit1_inv h2
    obtain ⟨w, w1, w2⟩ := lit_of (X := X) (G := G) (k := k3) (p := pp3) h2
    refine ⟨(.inr z, w) :: kvs, d :: ds, (tC (.str z), tC w) :: trs, rfl, pps_cons pe_str w1 p1, by simp [p2], by simp [p3], by simp [p4], by simp [p5], fun σ H Q q => p6 σ H _ q, fun env => ?_, fun y => .cons (w2 y) (p8 y)⟩
    show ((M.pure d).bind fun d => (evEs T F F1 n0 Wn env r).bind fun ds => M.pure (d :: ds)) = _
    rw [p7]
    rfl
  | [], .nil, [], _ :: _, h => by cases h
  | [], .nil, _ :: _, _, h => by cases h
  | [], .cons _ _, _, _, h => by cases h
  | _ :: _, .nil, _, _, h => by cases h
  | _ :: _, .cons _ _, [], _, h => by cases h
  | _ :: _, .cons _ _, _ :: _, [], h => by cases h
theorem merge_nodup : ∀ {more kvs : List (Key × V)}, ((kvs ++ more).map (·.1)).Nodup → mergeK kvs more = kvs ++ more
  | [], kvs, _ => by simp [mergeK]
  | p :: r, kvs, h => by
    have e : putK kvs p.1 p.2 = kvs ++ [p] := by
      unfold putK
      rw [if_neg]
      intro q
      rw [List.any_eq_true] at q
      obtain ⟨a, ha, hk⟩ := q
      have hk := of_decide_eq_true hk
      rw [List.map_append, List.nodup_append] at h
      exact h.2.2 a.1 (List.mem_map_of_mem ha) p.1 (by simp) hk
    show mergeK (putK kvs p.1 p.2) r = _
    rw [e, merge_nodup (by simpa using h)]
    simp
theorem c_dsp {X : Cx} {W : WX} {pos : Pos} {ks : List DK} {es : Es} {xs : List (Option Expr)} {vs : List Expr} {nw : Bool} (h : dspB ks es xs vs = true) (hn : ks.Nodup) : PE X (.Dict xs vs pos) (tofE G n0 W fun env => (evEs T F F1 n0 Wn env es).bind fun ds => if ds.length = ks.length ∧ ks.length ≤ 15 then mkNew nw (.dct ks ds) else M.fail) := by
  obtain ⟨kvs, ds, trs, rfl, p1, p2, p3, p4, p5, p6, p7, p8⟩ := dsp_data (X := X) (pos := pos) (T := T) (F := F) (F1 := F1) (n0 := n0) (Wn := Wn) (G := G) h
  have hm : mergeK [] kvs = kvs := by
    rw [merge_nodup]
    · rfl
    · have : ((kvs.map (·.1)).map DK.one).Nodup := by rw [List.map_map]; exact hn
      exact List.Pairwise.of_map DK.one (fun a b h e => h (by rw [e])) this
  have fin : ∀ {σ : L2.St} {x : Sit} {env : Env} {Q : VK}, OkS G n0 x → After G n0 (RepR G) W σ x ((evEs T F F1 n0 Wn env es).bind fun ds => if ds.length = (kvs.map fun kv => DK.one kv.1).length ∧ (kvs.map fun kv => DK.one kv.1).length ≤ 15 then mkNew nw (.dct (kvs.map fun kv => DK.one kv.1) ds) else M.fail) Q →
      kvs.length ≤ 15 ∧ ∀ p, x.H p = none → Q (.ref p) (upd x.H p (.dK kvs)) := fun {σ x env Q} ok h => by
    rw [p7] at h
    have h : After G n0 (RepR G) W σ x (if ds.length = (kvs.map fun kv => DK.one kv.1).length ∧ (kvs.map fun kv => DK.one kv.1).length ≤ 15 then mkNew nw (.dct (kvs.map fun kv => DK.one kv.1) ds) else M.fail) Q := h.from (.refl x) rfl
    by_cases hz : ds.length = (kvs.map fun kv => DK.one kv.1).length ∧ (kvs.map fun kv => DK.one kv.1).length ≤ 15
    · rw [if_pos hz] at h
      exact ⟨by simpa using hz.2, fun p hp => h.new ok hp (.dctK rfl (p8 x))⟩
    · rw [if_neg hz] at h
      exact (h.nonOf rfl).elim
  cases xs with
  | nil =>
    have e1 : kvs = [] := by
      cases kvs with
      | nil => rfl
      | cons _ _ => cases p2
    subst e1
    have e2 : vs = [] := by
      cases vs with
      | nil => rfl
      | cons _ _ => cases p3
    subst e2
    refine PE.wk pe_dnewK fun σ H Q h => ?_
    obtain ⟨x, env, rfl, ok, en, h⟩ := h
    exact (fin ok h).2
  | cons x0 xs =>
    by_cases h15 : (x0 :: xs).length ≤ 15
    · refine PE.wk (pe_disp p1 p5 (p2.trans p3.symm) (by simp) h15) fun σ H Q h => ?_
      obtain ⟨x, env, rfl, ok, en, h⟩ := h
      obtain ⟨f1, f2⟩ := fin ok h
      intro p hp
      refine p6 σ _ _ ⟨upd_same, kvs, rfl, f1, ?_⟩
      rw [hm, upd_upd]
      exact f2 p hp
    · refine ⟨fun pins s σ H Q I h => ?_⟩
      obtain ⟨x, env, rfl, ok, en, h⟩ := h
      obtain ⟨f1, _⟩ := fin ok h
      have : (x0 :: xs).length ≤ 15 := by rw [p2]; simpa using f1
      exact absurd this h15
/-! ### keywords -/
theorem kw_of {env : PySem.Env} {pos : Pos} : ∀ {ks : List Str} {kws : List Keyword}, kwB ks kws = true → (backToKw pos (keywordEach kws env)).all (·.1.isSome) = true ∧ (backToKw pos (keywordEach kws env)).filterMap (·.1) = ks ∧ (backToKw pos (keywordEach kws env)).any (·.1.isNone) = false ∧ kws.length = ks.length
  | ks, [], h => by
    have : ks = [] := by
      cases ks with
      | nil => rfl
      | cons _ _ => cases h
    subst this
    exact ⟨rfl, rfl, rfl, rfl⟩
  | [], ⟨_, _, _⟩ :: _, h => by cases h
  | k :: ks, ⟨nm, v, p⟩ :: r, h => by
    have h : (decide (nm = some k) && kwB ks r) = true := h
    obtain ⟨h1, h2⟩ := and2 h
    have h1 := of_decide_eq_true h1
    subst h1
    obtain ⟨a, b, c, d⟩ := kw_of (env := env) (pos := pos) h2
    refine ⟨?_, ?_, ?_, by simp [d]⟩
    · show (true && (backToKw pos (keywordEach r env)).all (·.1.isSome)) = true
      rw [a]; rfl
    · show k :: (backToKw pos (keywordEach r env)).filterMap (·.1) = _
      rw [b]
    · show (false || (backToKw pos (keywordEach r env)).any (·.1.isNone)) = false
      rw [c]; rfl
end
end EF

set_option maxHeartbeats 8000000
/-! EW: the check is sound: expressions, the theorem. -/
namespace EF
open PySem PySem.Spec PyProof.Rows L2

section
variable {tp : Top} {G : Gx} {T : Tab} {F F1 : Nat → List D → M D} {n0 Wn : Nat}
theorem ev_var {env : Env} {i : Nat} : evE T F F1 n0 Wn env (.var i) = M.lift (env[i]?.bind id) := rfl
theorem own_ix (C : Ck) (own : List Nat) : (ownP C own).map (·.2) = own := by
  unfold ownP
  rw [List.map_map]
  exact List.map_id own
def evOne (T : Tab) (F F1 : Nat → List D → M D) (n0 Wn : Nat) (e : E) : Env → M D := fun env => evE T F F1 n0 Wn env e
mutual
theorem snd : ∀ (e : E) {X : Cx} {C : Ck} {W : WX} (S : Sn X C W G T tp F F1) (x : Expr), chkE tp G.nC C e x = true → Both X G n0 W x fun env => evE T F F1 n0 Wn env e
  | .var i, X, C, W, S, x, h => by
    unfold chkE at h
    split at h
    · obtain ⟨h1, h2, h3, h4⟩ := S.vis h
      exact .of S.fx.hK (c_var h1 h2 h3 h4) fun _ => rfl
    · cases h
  | .lit d, X, C, W, S, x, h => by
    unfold chkE at h
    split at h
    · obtain ⟨v, h1, h2⟩ := lit_of (X := X) (G := G) h
      exact .of S.fx.hK (c_const h1 h2) fun _ => rfl
    · cases h
  | .glb k, X, C, W, S, x, h => by
    unfold chkE at h
    split at h
    · next y p =>
      obtain ⟨h, h3⟩ := and2 h
      obtain ⟨h1, h2⟩ := and2 h
      obtain ⟨g1, g2⟩ := S.gl h1
      have h3 : y = tp.gnm k := of_decide_eq_true h3
      subst h3
      obtain ⟨v, u, q1, q2, q3⟩ := S.fx.glb k (of_decide_eq_true h2)
      exact .of S.fx.hK (c_glb (pe_glob g1 q1 q2 g2) q3) fun _ => rfl
    · cases h
  | .bin op a b, X, C, W, S, x, h => by
    unfold chkE at h
    split at h
    · obtain ⟨h, h3⟩ := and2 h
      obtain ⟨h1, h2⟩ := and2 h
      rw [op_of h1]
      exact .of S.fx.hK (c_bin S.fx.hK (snd a S _ h2).1 (snd b S _ h3).1) fun _ => rfl
    · cases h
  | .cmp op a b, X, C, W, S, x, h => by
    unfold chkE at h
    split at h
    · obtain ⟨h, h3⟩ := and2 h
      obtain ⟨h1, h2⟩ := and2 h
      rw [cp_of h1]
      exact ⟨c_cmp S.fx.hK S.fx.un (snd a S _ h2).1 (snd b S _ h3).1 (mark_of h3), t_cmp S.fx.hK S.fx.un (snd a S _ h2).1 (snd b S _ h3).1 (mark_of h3)⟩
    · cases h
  | .chn o1 o2 a b c, X, C, W, S, x, h => by
    unfold chkE at h
    split at h
    · obtain ⟨h, h5⟩ := and2 h
      obtain ⟨h, h4⟩ := and2 h
      obtain ⟨h, h3⟩ := and2 h
      obtain ⟨h1, h2⟩ := and2 h
      rw [cp_of h1, cp_of h2]
      exact ⟨c_chn S.fx.hK S.fx.un (snd a S _ h3).1 (snd b S _ h4).1 (snd c S _ h5).1 (last_of (mark_of h5)), t_chn S.fx.hK S.fx.un (snd a S _ h3).1 (snd b S _ h4).1 (snd c S _ h5).1 (last_of (mark_of h5))⟩
    · cases h
  | .not a, X, C, W, S, x, h => by
    unfold chkE at h
    split at h
    · exact ⟨c_not S.fx.hK (snd a S _ h).1, t_not (snd a S _ h).2⟩
    · cases h
  | .neg a, X, C, W, S, x, h => by
    unfold chkE at h
    split at h
    · exact .of S.fx.hK (c_neg (snd a S _ h).1) fun _ => rfl
    · cases h
  | .and a b, X, C, W, S, x, h => by
    unfold chkE at h
    split at h
    · next l r rest pos =>
      obtain ⟨h1, h2⟩ := and2 h
      have ha := snd a S _ h1
      cases rest with
      | nil =>
        have hb := snd b S _ h2
        exact ⟨c_and S.fx.hK ha.1 (pe_one hb.1), t_and ha.2 (pw_and1 hb.2)⟩
      | cons z zs =>
        have hb := snd b S _ h2
        exact ⟨c_and S.fx.hK ha.1 hb.1, t_and ha.2 (pw_of hb.2)⟩
    · cases h
  | .or a b, X, C, W, S, x, h => by
    unfold chkE at h
    split at h
    · next l r rest pos =>
      obtain ⟨h1, h2⟩ := and2 h
      have ha := snd a S _ h1
      cases rest with
      | nil =>
        have hb := snd b S _ h2
        exact ⟨c_or S.fx.hK ha.1 (pe_one hb.1), t_or ha.2 (pw_or1 hb.2)⟩
      | cons z zs =>
        have hb := snd b S _ h2
        exact ⟨c_or S.fx.hK ha.1 hb.1, t_or ha.2 (pw_of hb.2)⟩
    · cases h
  | .ife c a b, X, C, W, S, x, h => by
    unfold chkE at h
    split at h
    · obtain ⟨h, h3⟩ := and2 h
      obtain ⟨h1, h2⟩ := and2 h
      exact ⟨c_ife (snd c S _ h1).2 (snd a S _ h2).1 (snd b S _ h3).1, t_ife (snd c S _ h1).2 (snd a S _ h2).2 (snd b S _ h3).2⟩
    · cases h
  | .tup es, X, C, W, S, x, h => by
    unfold chkE at h
    split at h
    · exact .of S.fx.hK (c_tup (sndEs es S _ h)) fun _ => rfl
    · cases h
  | .lst nw es, X, C, W, S, x, h => by
    unfold chkE at h
    split at h
    · exact .of S.fx.hK (c_lst (sndEs es S _ h)) fun _ => rfl
    · cases h
  | .dsp nw ks es, X, C, W, S, x, h => by
    unfold chkE at h
    split at h
    · obtain ⟨h1, h2⟩ := and2 h
      exact .of S.fx.hK (c_dsp h1 (of_decide_eq_true h2)) fun _ => rfl
    · cases h
  | .call f es, X, C, W, S, x, h => by
    unfold chkE at h
    split at h
    · next y p xs pos =>
      obtain ⟨h, h4⟩ := and2 h
      obtain ⟨h, h3⟩ := and2 h
      obtain ⟨h1, h2⟩ := and2 h
      obtain ⟨g1, g2⟩ := S.gl h1
      have h3 : y = tp.fnm f := of_decide_eq_true h3
      subst h3
      obtain ⟨k, np, fa, fd, ps, hr, hm, hD, hw, _⟩ := S.fx.fn f (of_decide_eq_true h2)
      have hp := sndEs es S _ h4
      cases xs with
      | nil =>
        cases es with
        | nil => exact .of S.fx.hK (c_call0 hD hw hr S.tk g1 hm g2) fun _ => rfl
        | cons e r => cases h4
      | cons z zs =>
        cases es with
        | nil => cases h4
        | cons e r =>
          have h4' : (chkE tp G.nC C e z && chkEs tp G.nC C r zs) = true := h4
          obtain ⟨i1, i2⟩ := and2 h4'
          exact .of S.fx.hK (c_call hD hw hr S.tk g1 hm g2 hp (star_of i1 _ _) ((stars_of i2).1 _)) fun _ => rfl
    · cases h
  | .callk f j es ks, X, C, W, S, x, h => by
    unfold chkE at h
    split at h
    · next y p xs kw kws pos =>
      obtain ⟨h, h8⟩ := and2 h
      obtain ⟨h, h7⟩ := and2 h
      obtain ⟨h, h6⟩ := and2 h
      obtain ⟨h, h5⟩ := and2 h
      obtain ⟨h, h4⟩ := and2 h
      obtain ⟨h, h3⟩ := and2 h
      obtain ⟨h1, h2⟩ := and2 h
      obtain ⟨g1, g2⟩ := S.gl h1
      have h3 : y = tp.fnm f := of_decide_eq_true h3
      subst h3
      obtain ⟨k, np, fa, fd, ps, hr, hm, hD, hw, hk⟩ := S.fx.fn f (of_decide_eq_true h2)
      have hp := sndEs es S _ h7
      have hz := sndKs ks S _ h8
      have h5 : tp.kwn j = xs.length := of_decide_eq_true h5
      obtain ⟨k1, k2, k3, k4⟩ := kw_of (env := X.env) (pos := pos) h6
      have hkw : ∀ q, T.kw j = some q → KwOk fd ps xs.length (tp.kws j) q := fun q hq => h5 ▸ hk j q (of_decide_eq_true h4) hq
      have lz : ∀ (env : Env) (ν : Sto) (ds : List D) (ν' : Sto), evEs T F F1 n0 Wn env ks ν = some (.ok ds, ν') → ds.length = (tp.kws j).length := fun env ν ds ν' q => by
        rw [evEs_len h8 q, ← k4]
        unfold kwVs
        rw [List.length_map]
      cases xs with
      | nil =>
        cases es with
        | nil => exact .of S.fx.hK (c_callk0 (o := T.kw j) hD hw hr S.tk g1 hm g2 hkw hz lz k1 k2 (by rw [k3]; rfl)) fun _ => rfl
        | cons e r => cases h7
      | cons z zs =>
        cases es with
        | nil => cases h7
        | cons e r =>
          have h7' : (chkE tp G.nC C e z && chkEs tp G.nC C r zs) = true := h7
          obtain ⟨i1, i2⟩ := and2 h7'
          exact .of S.fx.hK (c_callk (o := T.kw j) hD hw hr S.tk g1 hm g2 hkw hp hz (fun env ν ds ν' q => evEs_len h7 q) lz k1 k2 (star_of i1 _ _) (by rw [(stars_of h7).1, k3]; rfl)) fun _ => rfl
    · cases h
  | .star f a, X, C, W, S, x, h => by
    unfold chkE at h
    split at h
    · next y p z sp pos =>
      obtain ⟨h, h4⟩ := and2 h
      obtain ⟨h, h3⟩ := and2 h
      obtain ⟨h1, h2⟩ := and2 h
      obtain ⟨g1, g2⟩ := S.gl h1
      have h3 : y = tp.fnm f := of_decide_eq_true h3
      subst h3
      obtain ⟨k, np, fa, fd, ps, hr, hm, hD, hw, _⟩ := S.fx.fn f (of_decide_eq_true h2)
      exact .of S.fx.hK (c_star S.fx.hK hD hw hr S.tk g1 hm g2 (snd a S _ h4).1) fun _ => rfl
    · cases h
  | .bi nw b es, X, C, W, S, x, h => by
    unfold chkE at h
    split at h
    · next y p z zs pos =>
      obtain ⟨h, h5⟩ := and2 h
      obtain ⟨h, h4⟩ := and2 h
      obtain ⟨h, h3⟩ := and2 h
      obtain ⟨h1, h2⟩ := and2 h
      obtain ⟨g1, g2⟩ := S.gl h1
      have h2 : y = biN b := of_decide_eq_true h2
      subst h2
      have hp := sndEs es S _ h5
      cases es with
      | nil => cases h5
      | cons e r =>
        have h5' : (chkE tp G.nC C e z && chkEs tp G.nC C r zs) = true := h5
        obtain ⟨i1, i2⟩ := and2 h5'
        refine .of S.fx.hK (c_bi S.fx.hK S.calm (fun q => ?_) g1 ?_ (name_bi b) g2 hp (star_of i1 _ _) ((stars_of i2).1 _)) fun _ => rfl
        · subst q
          exact h3
        · by_cases hb : b = .gcd
          · subst hb
            exact .inl ⟨rfl, S.fx.gcd (by simpa using h4)⟩
          · exact .inr ⟨S.fx.free b hb, boot_bi b hb⟩
    · cases h
  | .mt nw m o es, X, C, W, S, x, h => by
    unfold chkE at h
    split at h
    · next y n ap z zs cp =>
      obtain ⟨h, h8⟩ := and2 h
      obtain ⟨h, h7⟩ := and2 h
      obtain ⟨h, h6⟩ := and2 h
      obtain ⟨h, h5⟩ := and2 h
      obtain ⟨h, h4⟩ := and2 h
      obtain ⟨h, h3⟩ := and2 h
      obtain ⟨h1, h2⟩ := and2 h
      have h1 : n = mtName m := of_decide_eq_true h1
      subst h1
      have hp := sndEs es S _ h8
      have ho := snd o S _ h7
      have h6 : zs.length < 20 := of_decide_eq_true h6
      cases es with
      | nil => cases h8
      | cons e r =>
        have h8' : (chkE tp G.nC C e z && chkEs tp G.nC C r zs) = true := h8
        obtain ⟨i1, i2⟩ := and2 h8'
        refine .of S.fx.hK (c_mt (of_decide_eq_true h2) S.fx.hK (fun q => ?_) ho.1 hp (base_of h3) ?_ h5 (star_of i1 _ _) ((stars_of i2).1 _)) fun _ => rfl
        · subst q
          exact h4
        · rw [(stars_of h8).2]
          simp only [List.length_cons, List.length_nil]
          show (true && true && decide (zs.length + 1 + 0 + 0 < 30)) = true
          rw [decide_eq_true (by omega)]
          rfl
    · cases h
  | .attr o f, X, C, W, S, x, h => by
    unfold chkE at h
    split at h
    · next y n p =>
      obtain ⟨h, h4⟩ := and2 h
      obtain ⟨h, h3⟩ := and2 h
      obtain ⟨h1, h2⟩ := and2 h
      obtain ⟨q1, q2, q3⟩ := S.fx.fld f (of_decide_eq_true h1)
      have h3 : n = tp.fld f := of_decide_eq_true h3
      subst h3
      rw [← q1]
      exact .of S.fx.hK (c_attr S.fx.hK S.fx.cls q2 q3 (snd o S _ h4).1 (base_of h2)) fun _ => rfl
    · cases h
  | .idx a i, X, C, W, S, x, h => by
    unfold chkE at h
    split at h
    · obtain ⟨h1, h2⟩ := and2 h
      exact .of S.fx.hK (c_idx S.fx.hK S.fx.un (snd a S _ h1).1 (snd i S _ h2).1 (ix_of h2)) fun _ => rfl
    · cases h
  | .sli nw a lo hi, X, C, W, S, x, h => by
    unfold chkE at h
    split at h
    · obtain ⟨h, h3⟩ := and2 h
      obtain ⟨h1, h2⟩ := and2 h
      exact .of S.fx.hK (c_sli S.fx.hK (snd a S _ h1).1 (sndO lo S _ h2) (sndO hi S _ h3)) fun _ => rfl
    · cases h
  | .rev a, X, C, W, S, x, h => by
    unfold chkE at h
    split at h
    · exact .of S.fx.hK (c_rev S.fx.hK (snd a S _ h).1) fun _ => rfl
    · cases h
  | .isi a cs, X, C, W, S, x, h => by
    unfold chkE at h
    split at h
    · next y p z c pos =>
      obtain ⟨h, h4⟩ := and2 h
      obtain ⟨h, h3⟩ := and2 h
      obtain ⟨h1, h2⟩ := and2 h
      obtain ⟨g1, g2⟩ := S.gl h1
      have h2 : y = ("isinstance" : Str) := of_decide_eq_true h2
      subst h2
      have ha := (snd a S _ h3).1
      unfold clssB at h4
      split at h4
      · next xs kk pp =>
        obtain ⟨h4, h5⟩ := and2 h4
        obtain ⟨q1, q2⟩ := S.cls h5
        obtain ⟨h4, h6⟩ := and2 h4
        have h6 : cs.length < 100 := of_decide_eq_true h6
        exact .of S.fx.hK (c_isiT S.fx.hK S.fx.cls q2 (of_decide_eq_true h4) (by rw [sizeLine_eq]; omega) g1 S.fx.isi boot_isi (by decide +kernel) g2 ha q1 (star_of h3 _ _) rfl rfl) fun _ => rfl
      · split at h4
        · next cl =>
          obtain ⟨q1, q2, q3⟩ := S.cl h4
          exact .of S.fx.hK (c_isi1 S.fx.hK S.fx.cls q2 g1 S.fx.isi boot_isi (by decide +kernel) g2 ha q1 (star_of h3 _ _) (q3 _ _) (by rw [q3]; rfl)) fun _ => rfl
        · cases h4
    · cases h
  | .comp nw el tg it cd own, X, C, W, S, x, h => by
    unfold chkE at h
    split at h
    · next e t i ifs scope pos =>
      obtain ⟨h, h6⟩ := and2 h
      obtain ⟨h, h5⟩ := and2 h
      obtain ⟨h, h4⟩ := and2 h
      obtain ⟨h, h3⟩ := and2 h
      obtain ⟨h1, h2⟩ := and2 h
      have ok : BlkOk X.N X.env.scope scope (ownP C own) := by
        rw [S.N, S.sc]
        exact blkOk_by h2
      have hI := sndI (tg := t) it S _ h3
      obtain ⟨ctt, c1, c2⟩ := sndC cd C scope ifs h5
      have key := c_comp (n0 := n0) (nw := nw) (Wn := Wn) (pos := pos) (el := fun env => evE T F F1 n0 Wn env el) S.calm S.nd hI.1 ok (by rw [own_ix]; intro j hj; exact of_decide_eq_true (List.all_eq_true.mp h1 j hj)) (fun s H a cl fp => (S.blk ok.kind s H a cl fp).tg h4) c1
        (fun s H a cl fp => c2 (S.blk ok.kind s H a cl fp)) (fun s H a cl fp => (snd el (S.blk ok.kind s H a cl fp) _ h6).1) hI.2
      rw [own_ix] at key
      exact .of S.fx.hK key fun _ => rfl
    · cases h
  | .lck i a, X, C, W, S, x, h => by
    unfold chkE at h
    split at h
    · exact .of S.fx.hK (c_lck (snd a S _ h).1) fun _ => rfl
    · cases h
  | .mk c es, X, C, W, S, x, h => by
    unfold chkE at h
    split at h
    · next y p xs pos =>
      obtain ⟨h, h4⟩ := and2 h
      obtain ⟨h, h3⟩ := and2 h
      obtain ⟨h1, h2⟩ := and2 h
      obtain ⟨g1, g2⟩ := S.gl h1
      have h3 : y = tp.cnm c := of_decide_eq_true h3
      subst h3
      have hp := sndEs es S _ h4
      obtain ⟨hm, hk, hq⟩ := S.fx.make c (of_decide_eq_true h2)
      cases xs with
      | nil =>
        cases es with
        | nil =>
          rcases hq with hq | ⟨k, f, np, fa, fd, ps, hr, hi, hM, hD, hw⟩
          · refine .of S.fx.hK ⟨fun pins s σ H Q I hh => ?_⟩ fun _ => rfl
            obtain ⟨x, env, rfl, ok, en, hh⟩ := hh
            exact (hh.nonOf (hq [] x.ν)).elim
          · exact .of S.fx.hK (c_mk0 (of_decide_eq_true h2) hi hM hD hw hr S.tk g1 hm g2) fun _ => rfl
        | cons e r => cases h4
      | cons z zs =>
        cases es with
        | nil => cases h4
        | cons e r =>
          have h4' : (chkE tp G.nC C e z && chkEs tp G.nC C r zs) = true := h4
          obtain ⟨i1, i2⟩ := and2 h4'
          rcases hq with hq | ⟨k, f, np, fa, fd, ps, hr, hi, hM, hD, hw⟩
          · exact .of S.fx.hK (c_mkF (fun ds => funext fun ν => hq ds ν) hk g1 hm g2 hp (star_of i1 _ _) ((stars_of i2).1 _)) fun _ => rfl
          · exact .of S.fx.hK (c_mk (of_decide_eq_true h2) hi hM hD hw hr S.tk g1 hm g2 hp (star_of i1 _ _) ((stars_of i2).1 _)) fun _ => rfl
    · cases h
  | .mkk c j es ks, X, C, W, S, x, h => by
    unfold chkE at h
    cases h
  | .fst es, X, C, W, S, x, h => by
    unfold chkE at h
    split at h
    · exact .of S.fx.hK (c_fst (sndJ es S _ h)) fun _ => rfl
    · cases h
theorem sndEs : ∀ (es : Es) {X : Cx} {C : Ck} {W : WX} (S : Sn X C W G T tp F F1) (xs : List Expr), chkEs tp G.nC C es xs = true → PA X xs (tofA G n0 W fun env => evEs T F F1 n0 Wn env es)
  | .nil, X, C, W, S, xs, h => by
    cases xs with
    | nil => exact c_nil
    | cons _ _ => cases h
  | .cons e r, X, C, W, S, xs, h => by
    cases xs with
    | nil => cases h
    | cons x xs =>
      have h : (chkE tp G.nC C e x && chkEs tp G.nC C r xs) = true := h
      obtain ⟨h1, h2⟩ := and2 h
      exact c_cons (snd e S _ h1).1 (sndEs r S _ h2) (star_of h1 _ _)
theorem sndO : ∀ (o : Oe) {X : Cx} {C : Ck} {W : WX} (S : Sn X C W G T tp F F1) (x : Option Expr), chkO tp G.nC C o x = true → PO X x (tofO G n0 W fun env => evO T F F1 n0 Wn env o)
  | .none, X, C, W, S, x, h => by
    cases x with
    | none => exact o_none
    | some _ => cases h
  | .some e, X, C, W, S, x, h => by
    cases x with
    | none => cases h
    | some y => exact o_some (snd e S y h).1
theorem sndJ : ∀ (es : Es) {X : Cx} {C : Ck} {W : WX} (S : Sn X C W G T tp F F1) (xs : List Expr), chkJ tp G.nC C es xs = true → PJs X G n0 W xs fun env acc => evJ T F F1 n0 Wn env es acc
  | .nil, X, C, W, S, xs, h => by
    cases xs with
    | nil => exact .nil
    | cons _ _ => cases h
  | .cons e r, X, C, W, S, xs, h => by
    cases xs with
    | nil => cases h
    | cons x xs =>
      have h : (partB (chkE tp G.nC C e) e x && chkJ tp G.nC C r xs) = true := h
      obtain ⟨h1, h2⟩ := and2 h
      have hr := sndJ r S _ h2
      rcases partB_inv h1 with ⟨z, kk, pp, rfl, rfl⟩ | ⟨y, pp, rfl, h1⟩
      · exact .lit hr
      · exact .fmt (snd e S _ h1).1 hr
theorem sndKs : ∀ (es : Es) {X : Cx} {C : Ck} {W : WX} (S : Sn X C W G T tp F F1) (kws : List Keyword), chkEs tp G.nC C es (kwVs kws) = true → PK X kws (tofA G n0 W fun env => evEs T F F1 n0 Wn env es)
  | .nil, X, C, W, S, kws, h => by
    cases kws with
    | nil => exact k_nil
    | cons _ _ => cases h
  | .cons e r, X, C, W, S, kws, h => by
    cases kws with
    | nil => cases h
    | cons k kws =>
      obtain ⟨nm, v, p⟩ := k
      have h : (chkE tp G.nC C e v && chkEs tp G.nC C r (kwVs kws)) = true := h
      obtain ⟨h1, h2⟩ := and2 h
      exact k_cons (snd e S _ h1).1 (sndKs r S _ h2)
theorem sndI : ∀ (i : It) {X : Cx} {C : Ck} {W : WX} {tg : Expr} (S : Sn X C W G T tp F F1) (x : Expr), chkI tp G.nC C i x = true → PI X tg x (tofI G n0 W fun env => evI T F F1 n0 Wn env i) ∧ ∀ v, foldedSetIterable x X.env v = pure v
  | .val e, X, C, W, tg, S, x, h => by
    have h : chkE tp G.nC C e x = true := h
    exact ⟨i_val S.fx.hK (snd e S _ h).1, fold_of h⟩
  | .rng es, X, C, W, tg, S, x, h => by
    unfold chkI at h
    split at h
    · next y p xs pos =>
      obtain ⟨h, h4⟩ := and2 h
      obtain ⟨h, h3⟩ := and2 h
      obtain ⟨h1, h2⟩ := and2 h
      obtain ⟨g1, g2⟩ := S.gl h1
      have h2 : y = ("range" : Str) := of_decide_eq_true h2
      refine ⟨i_rng h2 g1 (h2 ▸ S.fx.rng) (sndEs es S _ h4) ?_ (mem_of h4) fun env ν ds ν' q => evEs_len h4 q, fun _ => rfl⟩
      rw [Bool.or_eq_true] at h3
      exact h3.imp of_decide_eq_true of_decide_eq_true
    · cases h
theorem sndC : ∀ (o : Oe) (C : Ck) (scope : Scope) (xs : List Expr), chkC tp G.nC (C.blk scope) o xs = true → ∃ ctt : TT, (∀ (σ : L2.St) (H : Hp) (Q : Bool → Hp → Prop), tofB G n0 noW (fun env => evC T F F1 n0 Wn env o) σ H Q → ctt σ H Q) ∧
      ∀ {X : Cx}, Sn X (C.blk scope) noW G T tp F F1 → PTs X xs ctt
  | .none, C, scope, xs, h => by
    cases xs with
    | nil =>
      refine ⟨tYes, fun σ H Q q => ?_, fun _ => pts_nil⟩
      obtain ⟨x, env, rfl, ok, en, q⟩ := q
      exact q.pure ok rfl
    | cons _ _ => cases h
  | .some e, C, scope, xs, h => by
    unfold chkC at h
    split at h
    · exact ⟨_, fun σ H Q q => q, fun S => pts_one (snd e S _ h).2⟩
    · cases h
end
end
end EF

set_option maxHeartbeats 8000000
/-! EX: rules for statements. -/
namespace EF
open PySem PySem.Spec PyProof.Rows L2

section
variable {X : Cx} {G : Gx} {n0 : Nat} {W : WX} {pos : Pos} {e : Expr} {a b : Env → M D} {st : Stmt} {sts : List Stmt} {m m' : Env → MF}
theorem asg_ok {x : Sit} {D : Ends} {t : Tg} {d : EF.D} {v : V} {env : Env} {σ : L2.St} (h : AfterS G n0 W x (fun ν => asgK (bindT ν t d env) ν) D) (ok : OkS G n0 x) (en : EnvOk G x σ env) (r : Rep G x.ρ x.S d v) : tofG' G n0 t v σ x.H D.nx := by
  cases hb : bindT x.ν t d env with
  | none => exact (h.nonOf (by show asgK (bindT x.ν t d env) x.ν = none; rw [hb]; rfl)).elim
  | some env' => exact ⟨x, env, d, env', rfl, ok, en, r, hb, fun σ' e' _ => h.nxOf (env' := env') (ν' := x.ν) (by show asgK (bindT x.ν t d env) x.ν = _; rw [hb]; rfl) σ' x rfl (.refl x) ok e'⟩
theorem asg_wk {t : Tg} {D : Ends} {σ : L2.St} {H : Hp} (h : tofS G n0 W (fun env => thenM env (a env) fun d => fun ν => asgK (bindT ν t d env) ν) D σ H) : tAsg (tofE G n0 W a) (tofG' G n0 t) D σ H := by
  obtain ⟨x, env, rfl, ok, en, h⟩ := h
  exact ⟨x, env, rfl, ok, en, h.then en fun d v y ey oy ry h => asg_ok h oy (en.mono ey) ry⟩
/-- target = value -/
theorem s_asg {t : Tg} {tx : Expr} (he : PE X e (tofE G n0 W a)) (hg : PG X tx (tofG' G n0 t)) (hs : swapsWithSole [tx] e pos.line X.env = pure false) (hw : swappedStores [tx] e X.env = pure none) (h1 : (assignEach [tx] X.env).map (·.2) = [assign tx X.env]) :
    PS X (.Assign [tx] e pos) (tofS G n0 W fun env => thenM env (a env) fun d => fun ν => asgK (bindT ν t d env) ν) := PS.wk (ps_asg he hg hs hw h1) fun D σ H h => asg_wk h
theorem s_set {i : Nat} {y : Str} {p : Pos} (hN : X.N.Nodup) (hi : X.N[i]? = some y) (hx : Loc X.env.scope y) (hf : X.fn y = true ∨ X.env.scope.names.lookup y = some .local) (he : PE X e (tofE G n0 W a)) (hs : swapsWith e (some (.Name y p)) pos.line X.env = pure false) :
    PS X (.Assign [.Name y p] e pos) (tofS G n0 W fun env => thenM env (a env) fun d => fun ν => asgK (bindT ν (.nm i) d env) ν) := by
  refine PS.wk (ps_set hN hi hx he hs hf) fun D σ H h => ?_
  obtain ⟨x, env, rfl, ok, en, h⟩ := h
  refine ⟨x, env, rfl, ok, en, h.then en fun d v y ey oy ry h => ?_⟩
  exact h.nxOf (env' := env.set i (some d)) (ν' := y.ν) rfl _ y rfl (.refl y) oy ((en.mono ey).set i ry)
/-- name = [.. for ..] on one line -/
theorem s_setLc {i : Nat} {y : Str} {py cpos : Pos} {elt tgx iter : Expr} {ifs : List Expr} {scope : Scope} {own : List (Str × Nat)} {tg : Tg} {it : Env → M Src} {ct : Env → M Bool} {el : Env → M D} {nw : Bool} {Wn : Nat} {ctt : TT}
    (hc : X.calm = true) (hN : X.N.Nodup) (hy : X.N[i]? = some y) (hyl : X.env.scope.names.lookup y = some .local) (hsw : swapsWith (.ListComp elt [⟨tgx, iter, ifs, 0⟩] scope cpos) (some (.Name y py)) pos.line X.env = pure true)
    (hi : PI X tgx iter (tofI G n0 W it)) (ok : BlkOk X.N X.env.scope scope own) (ht : ∀ i ∈ tgIx tg, i ∈ own.map (·.2))
    (hg : ∀ (s : Shared) (H : Hp) (C : Addr) (cl : List (Str × Addr)) (fp : List Addr), PG (X.blk s H scope (compEnvC scope cl C X.env) fp) tgx (tofG' G n0 tg))
    (hct : ∀ (σ : L2.St) (H : Hp) (Q : Bool → Hp → Prop), tofB G n0 noW ct σ H Q → ctt σ H Q)
    (hts : ∀ (s : Shared) (H : Hp) (C : Addr) (cl : List (Str × Addr)) (fp : List Addr), PTs (X.blk s H scope (compEnvC scope cl C X.env) fp) ifs ctt)
    (he : ∀ (s : Shared) (H : Hp) (C : Addr) (cl : List (Str × Addr)) (fp : List Addr), PE (X.blk s H scope (compEnvC scope cl C X.env) fp) elt (tofE G n0 noW el)) (hs : ∀ x, foldedSetIterable iter X.env x = pure x) :
    PS X (.Assign [.Name y py] (.ListComp elt [⟨tgx, iter, ifs, 0⟩] scope cpos) pos) (tofS G n0 W fun env => thenM env (compM it tg (own.map (·.2)) ct el nw Wn env) fun d => fun ν => asgK (bindT ν (.nm i) d env) ν) := by
  refine PS.wk (ps_setLc hc hN hy hyl hsw hi ok hg hts he hs) fun D σ H h => ?_
  refine comp_wk (nw := nw) (Wn := Wn) ht hct σ H (fun v H1 => gName i v σ H1 D.nx) ?_
  obtain ⟨x, env, rfl, ok, en, h⟩ := h
  refine ⟨x, env, rfl, ok, en, h.then en fun d v y ey oy ry h => ?_⟩
  exact h.nxOf (env' := env.set i (some d)) (ν' := y.ν) rfl _ y rfl (.refl y) oy ((en.mono ey).set i ry)
theorem s_par2 {i j : Nat} {y z : Str} {e1 e2 : Expr} {as : Env → M (List D)} {p1 p2 p3 : Pos} {k1 k2 p4} (hc : X.calm = true) (hN : X.N.Nodup) (hi : X.N[i]? = some y) (hj : X.N[j]? = some z) (hij : i ≠ j)
    (hx : X.env.scope.names.lookup y = some .local) (hy : X.env.scope.names.lookup z = some .local) (ha : PA X [e1, e2] (tofA G n0 W as)) (hw : swappedStores [.Tuple [.Name y p1, .Name z p2] k1 p3] (.Tuple [e1, e2] k2 p4) X.env = pure (some [y, z])) :
    PS X (.Assign [.Tuple [.Name y p1, .Name z p2] k1 p3] (.Tuple [e1, e2] k2 p4) pos) (tofS G n0 W fun env => thenM env (as env) fun ds => fun ν => asgK (setAll env [i, j] ds) ν) := by
  refine PS.wk (ps_par hc hN hi hj hij hx hy ha hw rfl) fun D σ H h => ?_
  obtain ⟨x, env, rfl, ok, en, h⟩ := h
  refine ⟨x, env, rfl, ok, en, h.then en fun ds vs y ey oy ry h => ?_⟩
  have en := en.mono ey
  match ds, ry with
  | [d1, d2], ry =>
    obtain ⟨v, w, rfl, r1, r2⟩ := ry.inv2
    exact ⟨v, w, rfl, h.nxOf (env' := (env.set i (some d1)).set j (some d2)) (ν' := y.ν) rfl _ y rfl (.refl y) oy ((en.set i r1).set j r2)⟩
  | [], _ => exact (h.nonOf rfl).elim
  | [_], _ => exact (h.nonOf rfl).elim
  | _ :: _ :: _ :: _, _ => exact (h.nonOf rfl).elim
theorem s_par3 {i j l : Nat} {y z w : Str} {e1 e2 e3 : Expr} {as : Env → M (List D)} {p1 p2 p3 p5 : Pos} {k1 k2 p4} (hc : X.calm = true) (hN : X.N.Nodup) (hi : X.N[i]? = some y) (hj : X.N[j]? = some z) (hl : X.N[l]? = some w) (hij : i ≠ j) (hil : i ≠ l) (hjl : j ≠ l)
    (hx : X.env.scope.names.lookup y = some .local) (hy : X.env.scope.names.lookup z = some .local) (hz : X.env.scope.names.lookup w = some .local) (ha : PA X [e1, e2, e3] (tofA G n0 W as)) (hw : swappedStores [.Tuple [.Name y p1, .Name z p2, .Name w p5] k1 p3] (.Tuple [e1, e2, e3] k2 p4) X.env = pure (some [y, z, w])) :
    PS X (.Assign [.Tuple [.Name y p1, .Name z p2, .Name w p5] k1 p3] (.Tuple [e1, e2, e3] k2 p4) pos) (tofS G n0 W fun env => thenM env (as env) fun ds => fun ν => asgK (setAll env [i, j, l] ds) ν) := by
  refine PS.wk (ps_par3 hc hN hi hj hl hij hil hjl hx hy hz ha hw rfl) fun D σ H h => ?_
  obtain ⟨x, env, rfl, ok, en, h⟩ := h
  refine ⟨x, env, rfl, ok, en, h.then en fun ds vs y ey oy ry h => ?_⟩
  have en := en.mono ey
  match ds, ry with
  | [d1, d2, d3], ry =>
    cases ry with
    | cons r1 ry' =>
      obtain ⟨v, w, rfl, r2, r3⟩ := Reps.inv2 ry'
      exact ⟨_, v, w, rfl, h.nxOf (env' := ((env.set i (some d1)).set j (some d2)).set l (some d3)) (ν' := y.ν) rfl _ y rfl (.refl y) oy (((en.set i r1).set j r2).set l r3)⟩
  | [], _ => exact (h.nonOf rfl).elim
  | [_], _ => exact (h.nonOf rfl).elim
  | [_, _], _ => exact (h.nonOf rfl).elim
  | _ :: _ :: _ :: _ :: _, _ => exact (h.nonOf rfl).elim
theorem s_expr (he : PE X e (tofE G n0 W a)) (hs : swapsWith e none pos.line X.env = pure false) : PS X (.Expr e pos) (tofS G n0 W fun env => thenM env (a env) fun _ => MF.pure (.nx env)) := by
  refine PS.wk (ps_expr he hs) fun D σ H h => ?_
  obtain ⟨x, env, rfl, ok, en, h⟩ := h
  exact ⟨x, env, rfl, ok, en, h.then en fun d v y ey oy ry h => h.nxOf rfl σ y rfl (.refl y) oy (en.mono ey)⟩
theorem s_ret (he : PE X e (tofE G n0 W a)) : PS X (.Return (some e) pos) (tofS G n0 W fun env => thenM env (a env) fun d => MF.pure (.rt d)) := by
  refine PS.wk (ps_ret he) fun D σ H h => ?_
  obtain ⟨x, env, rfl, ok, en, h⟩ := h
  exact ⟨x, env, rfl, ok, en, h.then en fun d v y ey oy ry h => h.rtOf rfl v y rfl (.refl y) oy ry⟩
theorem s_retN : PS X (.Return none pos) (tofS G n0 W fun _ => MF.pure (.rt .non)) := by
  refine PS.wk ps_retN fun D σ H h => ?_
  obtain ⟨x, env, rfl, ok, en, h⟩ := h
  exact h.rtOf rfl .non x rfl (.refl x) ok .non
theorem s_pass : PS X (.Pass pos) (tofS G n0 W fun env => MF.pure (.nx env)) := by
  refine PS.wk ps_pass fun D σ H h => ?_
  obtain ⟨x, env, rfl, ok, en, h⟩ := h
  exact h.nxOf rfl σ x rfl (.refl x) ok en
theorem s_brk : PS X (.Break pos) (tofS G n0 W fun env => MF.pure (.bk env)) := by
  refine PS.wk ps_break fun D σ H h => ?_
  obtain ⟨x, env, rfl, ok, en, h⟩ := h
  exact h.bkOf rfl σ x rfl (.refl x) ok en
theorem s_cont : PS X (.Continue pos) (tofS G n0 W fun env => MF.pure (.ct env)) := by
  refine PS.wk ps_continue fun D σ H h => ?_
  obtain ⟨x, env, rfl, ok, en, h⟩ := h
  exact h.ctOf rfl σ x rfl (.refl x) ok en
theorem s_ifs {xs ys : List Stmt} (hc : PT X e (tofB G n0 W (tst a))) (h1 : PSs X xs (tofS G n0 W m)) (h2 : PSs X ys (tofS G n0 W m')) : PS X (.If e xs ys pos) (tofS G n0 W fun env => thenM env (tst a env) fun k => match k with
      | true => m env
      | false => m' env) := by
  refine PS.wk (ps_if hc h1 h2) fun D σ H h => ?_
  obtain ⟨x, env, rfl, ok, en, h⟩ := h
  refine ⟨x, env, rfl, ok, en, h.then en fun k k' y ey oy ry h => ?_⟩
  have ry : k = k' := ry
  subst ry
  cases k with
  | true => rw [if_pos rfl]; exact ⟨y, env, rfl, oy, en.mono ey, h⟩
  | false => rw [if_neg Bool.false_ne_true]; exact ⟨y, env, rfl, oy, en.mono ey, h⟩
theorem ss_nil : PSs X [] (tofS G n0 W fun env => MF.pure (.nx env)) := by
  refine PSs.wk pss_nil fun D σ H h => ?_
  obtain ⟨x, env, rfl, ok, en, h⟩ := h
  exact h.nxOf rfl σ x rfl (.refl x) ok en
theorem ss_cons (h1 : PS X st (tofS G n0 W m)) (h2 : PSs X sts (tofS G n0 W m')) : PSs X (st :: sts) (tofS G n0 W fun env => fun ν => seqK m' (m env ν)) := by
  refine PSs.wk (pss_cons h1 h2) fun D σ H h => ?_
  obtain ⟨x, env, rfl, ok, en, h⟩ := h
  refine ⟨x, env, rfl, ok, en, .mk (fun z => h.nonOf (by show seqK m' (m env x.ν) = none; rw [z]; rfl)) (fun env' ν' z σ' y hy ey oy eny => ⟨y, env', rfl, oy, eny, h.from ey (by show seqK m' (m env x.ν) = _; rw [z, hy]; rfl)⟩)
    (fun env' ν' z => h.bkOf (by show seqK m' (m env x.ν) = _; rw [z]; rfl)) (fun env' ν' z => h.ctOf (by show seqK m' (m env x.ν) = _; rw [z]; rfl)) (fun d ν' z => h.rtOf (by show seqK m' (m env x.ν) = _; rw [z]; rfl)) (fun q env' ν' z => h.exOf (by show seqK m' (m env x.ν) = _; rw [z]; rfl))⟩

/-! ### loops -/
theorem turns_succ {src : Src} {tg : Tg} {body : Env → MF} {w i : Nat} {env : Env} {ν : Sto} : turns src tg body (w + 1) i env ν = (match srcN ν src i with
    | none => none
    | some none => some (.nx env, ν)
    | some (some d) => match bindT ν tg d env with
      | none => none
      | some env1 => match body env1 ν with
        | some (.nx env', ν') => turns src tg body w (i + 1) env' ν'
        | some (.ct env', ν') => turns src tg body w (i + 1) env' ν'
        | some (.bk env', ν') => some (.nx env', ν')
        | some (.rt d, ν') => some (.rt d, ν')
        | some (.ex x env', ν') => some (.ex x env', ν')
        | none => none) := rfl
theorem s_loop {t : Tg} {tx iter : Expr} {xs : List Stmt} {it : Env → M Src} {Wn : Nat} (hp : PassesOwn (model X.prog X.w) X.A X.env X.xe) (hc : X.calm = true) (hi : PI X tx iter (tofI G n0 W it)) (hg : PG X tx (tofG' G n0 t)) (hb : PSs X xs (tofS G n0 W m)) (hs : ∀ x, foldedSetIterable iter X.env x = pure x) :
    PS X (.For tx iter xs [] pos) (tofS G n0 W fun env => thenM env (it env) fun src => turns src t m Wn 0 env) := by
  refine PS.wk (ps_for hp hc hi hg hb hs) fun D σ H h => ?_
  obtain ⟨x, env, rfl, ok, en, h⟩ := h
  refine ⟨x, env, rfl, ok, en, h.then en fun src J y ey oy sj h => ?_⟩
  refine ⟨fun i w σ H => ∃ (z : Sit) (env' : Env), z.H = H ∧ Ext n0 y z ∧ OkS G n0 z ∧ EnvOk G z σ env' ∧ AfterS G n0 W z (turns src t m w i env') D, ⟨Wn, y, env, rfl, .refl y, oy, en.mono ey, h⟩, ?_⟩
  rintro i w σ H ⟨z, env', rfl, ez, oz, enz, h⟩
  obtain ⟨s1, s2⟩ := sj n0 z ez oz i
  cases w with
  | zero => exact (h.nonOf rfl).elim
  | succ w =>
    cases e : srcN z.ν src i with
    | none => exact (h.nonOf (by rw [turns_succ, e])).elim
    | some o =>
      cases o with
      | none => exact .inl ⟨s1 e, h.nxOf (by rw [turns_succ, e]) σ z rfl (.refl z) oz enz⟩
      | some d =>
        obtain ⟨g1, g2⟩ := s2 d e
        refine .inr ⟨g1, fun σ' H' => ∃ (z : Sit) (env' : Env), z.H = H' ∧ Ext n0 y z ∧ OkS G n0 z ∧ EnvOk G z σ' env' ∧ AfterS G n0 W z (turns src t m w (i + 1) env') D, fun σ' H' q => ⟨w, Nat.lt_succ_self w, q⟩, fun v H' hy => ?_⟩
        obtain ⟨rfl, rv⟩ := g2 v H' hy
        cases hb2 : bindT z.ν t d env' with
        | none => exact (h.nonOf (by rw [turns_succ, e]; simp only [hb2])).elim
        | some env1 =>
          refine ⟨z, env', d, env1, rfl, oz, enz, rv, hb2, fun σ2 en2 _ => ⟨z, env1, rfl, oz, en2, ?_⟩⟩
          have step : turns src t m (w + 1) i env' z.ν = (match m env1 z.ν with
            | some (.nx env', ν') => turns src t m w (i + 1) env' ν'
            | some (.ct env', ν') => turns src t m w (i + 1) env' ν'
            | some (.bk env', ν') => some (.nx env', ν')
            | some (.rt d, ν') => some (.rt d, ν')
            | some (.ex x env', ν') => some (.ex x env', ν')
            | none => none) := by
            rw [turns_succ, e]
            simp only [hb2]
          refine .mk (fun q => h.nonOf (by rw [step, q])) (fun env2 ν2 q σ' t2 ht et ot ent => ⟨t2, env2, rfl, ez.trans et, ot, ent, h.from et (by rw [step, q, ← ht])⟩) (fun env2 ν2 q => h.nxOf (by rw [step, q]))
            (fun env2 ν2 q σ' t2 ht et ot ent => ⟨t2, env2, rfl, ez.trans et, ot, ent, h.from et (by rw [step, q, ← ht])⟩) (fun d2 ν2 q => h.rtOf (by rw [step, q])) (fun q2 env2 ν2 q => h.exOf (by rw [step, q]))
theorem while_succ {test : Env → M Bool} {body : Env → MF} {w : Nat} {env : Env} : whileM test body (w + 1) env = thenM env (test env) fun k => match k with
    | false => MF.pure (.nx env)
    | true => fun ν => match body env ν with
      | some (.nx env', ν') => whileM test body w env' ν'
      | some (.ct env', ν') => whileM test body w env' ν'
      | some (.bk env', ν') => some (.nx env', ν')
      | some (.rt d, ν') => some (.rt d, ν')
      | some (.ex x env', ν') => some (.ex x env', ν')
      | none => none := rfl
theorem s_whl {xs : List Stmt} {Wn : Nat} (hp : PassesOwn (model X.prog X.w) X.A X.env X.xe) (hc : PT X e (tofB G n0 W (tst a))) (hb : PSs X xs (tofS G n0 W m)) : PS X (.While e xs [] pos) (tofS G n0 W fun env => whileM (tst a) m Wn env) := by
  refine PS.wk (ps_while hp hc hb) fun D σ H h => ?_
  obtain ⟨x, env, rfl, ok, en, h⟩ := h
  refine ⟨fun w σ H => ∃ (z : Sit) (env' : Env), z.H = H ∧ OkS G n0 z ∧ EnvOk G z σ env' ∧ AfterS G n0 W z (whileM (tst a) m w env') D, ⟨Wn, x, env, rfl, ok, en, h⟩, ?_⟩
  rintro w σ H ⟨z, env', rfl, oz, enz, h⟩
  cases w with
  | zero => exact (h.nonOf rfl).elim
  | succ w =>
    rw [while_succ] at h
    refine ⟨z, env', rfl, oz, enz, h.then enz fun k k' y ey oy ry h => ?_⟩
    have ry : k = k' := ry
    subst ry
    cases k with
    | false =>
      rw [if_neg Bool.false_ne_true]
      exact h.nxOf rfl σ y rfl (.refl y) oy (enz.mono ey)
    | true =>
      rw [if_pos rfl]
      refine ⟨fun σ' H' => ∃ (z : Sit) (env' : Env), z.H = H' ∧ OkS G n0 z ∧ EnvOk G z σ' env' ∧ AfterS G n0 W z (whileM (tst a) m w env') D, fun σ' H' q => ⟨w, Nat.lt_succ_self w, q⟩, y, env', rfl, oy, enz.mono ey, ?_⟩
      have step : ∀ r, m env' y.ν = r → (match (generalizing := false) true with
        | false => MF.pure (.nx env')
        | true => fun ν => match m env' ν with
          | some (.nx env', ν') => whileM (tst a) m w env' ν'
          | some (.ct env', ν') => whileM (tst a) m w env' ν'
          | some (.bk env', ν') => some (.nx env', ν')
          | some (.rt d, ν') => some (.rt d, ν')
          | some (.ex x env', ν') => some (.ex x env', ν')
          | none => none : MF) y.ν = (match r with
        | some (.nx env', ν') => whileM (tst a) m w env' ν'
        | some (.ct env', ν') => whileM (tst a) m w env' ν'
        | some (.bk env', ν') => some (.nx env', ν')
        | some (.rt d, ν') => some (.rt d, ν')
        | some (.ex x env', ν') => some (.ex x env', ν')
        | none => none) := fun r hr => by
        rw [← hr]
      refine .mk (fun q => h.nonOf (step _ q)) (fun env2 ν2 q σ' t2 ht et ot ent => ⟨t2, env2, rfl, ot, ent, h.from et (by rw [ht]; exact step _ q)⟩) (fun env2 ν2 q => h.nxOf (step _ q))
        (fun env2 ν2 q σ' t2 ht et ot ent => ⟨t2, env2, rfl, ot, ent, h.from et (by rw [ht]; exact step _ q)⟩) (fun d2 ν2 q => h.rtOf (step _ q)) (fun q2 env2 ν2 q => h.exOf (step _ q))
end
end EF

set_option maxHeartbeats 8000000
/-! EY: stores into lists, dicts, instances under way. -/
namespace EF
open PySem PySem.Spec PyProof.Rows L2

section
variable {X : Cx} {G : Gx} {n0 : Nat} {W : WX} {pos : Pos} {e o i : Expr} {a b c : Env → M D}
def rSetX (G : Gx) (n0 : Nat) : TSet := fun o i v H Q => ∃ (s : Sit) (dx dy dv : D) (ν' : Sto), s.H = H ∧ OkS G n0 s ∧ Rep G s.ρ s.S dx o ∧ Rep G s.ρ s.S dy i ∧ Rep G s.ρ s.S dv v ∧ setX n0 s.ν dx dy dv = some ν' ∧ ∀ y : Sit, y.ν = ν' → Ext n0 s y → OkS G n0 y → Q y.H
theorem lows_set {k : Nat} {d : D} (hd : d.low k = true) : ∀ {xs : List D} {j : Nat}, D.lows k xs = true → D.lows k (xs.set j d) = true
  | [], j, _ => rfl
  | x :: xs, 0, h => by
    simp only [D.lows, Bool.and_eq_true, List.set] at h ⊢
    exact ⟨hd, h.2⟩
  | x :: xs, j + 1, h => by
    simp only [D.lows, Bool.and_eq_true, List.set] at h ⊢
    exact ⟨h.1, lows_set hd h.2⟩
theorem lows_zip {k : Nat} {d : D} {k1 : DK} (hd : d.low k = true) : ∀ {ks : List DK} {ds : List D}, D.lows k ds = true → D.lows k (List.zipWith (fun k' v' => if k' = k1 then d else v') ks ds) = true
  | [], _, _ => rfl
  | _ :: _, [], _ => rfl
  | k2 :: ks, x :: xs, h => by
    simp only [D.lows, Bool.and_eq_true, List.zipWith_cons_cons] at h ⊢
    refine ⟨?_, lows_zip hd h.2⟩
    by_cases e : k2 = k1
    · rw [if_pos e]; exact hd
    · rw [if_neg e]; exact h.1
theorem lows_put {k : Nat} {d : D} {k1 : DK} {ks : List DK} {ds : List D} (hd : d.low k = true) (h : D.lows k ds = true) : D.lows k (putD ks ds k1 d).2 = true := by
  unfold putD
  by_cases e : ks.contains k1 = true
  · rw [if_pos e]; exact lows_zip hd h
  · rw [if_neg e]; exact lows_app h (by simp [D.lows, hd])
theorem set_all (hu : X.A.units + 8 < cLine) : PSet X (rSetX G n0) := by
  intro pins s σ H ov iv vv ou iu vu Q I ro ri rv h
  obtain ⟨t, dx, dy, dv, ν', rfl, ok, r1, r2, r3, hs, k⟩ := h
  unfold setX at hs
  split at hs
  · next n =>
    unfold setD at hs
    split at hs
    · next xs j hz =>
      rw [Option.bind_eq_some_iff] at hs
      obtain ⟨q, hq, hs⟩ := hs
      split at hs
      · next hl =>
        cases hs
        cases r1 with
        | tok ht =>
          obtain ⟨d', u, h1, h2, h3⟩ := ok.tok ht
          rw [hz] at h1
          cases h1
          cases h3.plain rfl with
          | lst rr =>
            obtain ⟨e1, e2⟩ := ok.put (d := .lst (xs.set q dv)) (o := .lst (_)) ht (.lst (rr.set r3 q)) (fun d' hd' => by rw [hz] at hd'; cases hd'; rfl) (fun hn d' hd' k hk => by
              rw [hz] at hd'
              cases hd'
              rcases hl with z | z
              · omega
              · simp only [D.low] at hk ⊢
                exact lows_set (low_up dv (Nat.zero_le k) z) hk)
            refine set_list pins s σ _ _ _ _ _ _ _ Q I ro ri rv ⟨_, _, j, q, rfl, r2.intV, h2, by rw [← rr.length]; exact hq, ?_⟩
            exact k ⟨t.S, _, t.ρ, _⟩ rfl e1 e2
      · cases hs
    · next ks ds z hz =>
      split at hs
      · next hl =>
        cases hs
        cases r1 with
        | tok ht =>
          obtain ⟨d', u, h1, h2, h3⟩ := ok.tok ht
          rw [hz] at h1
          cases h1
          cases h3.plain rfl with
          | @dctK _ _ kvs hk rr =>
            subst hk
            obtain ⟨p1, p2⟩ := putD_ok (k := .inr z) r3 rr
            obtain ⟨e1, e2⟩ := ok.put (d := .dct (putD (kvs.map fun kv => DK.one kv.1) ds (.one (.inr z)) dv).1 (putD (kvs.map fun kv => DK.one kv.1) ds (.one (.inr z)) dv).2) (o := .dK (putK kvs (.inr z) _)) ht (.dctK p1 p2) (fun d' hd' => by rw [hz] at hd'; cases hd'; rfl) (fun hn d' hd' k hk => by
              rw [hz] at hd'
              cases hd'
              rcases hl.2 with z | z
              · omega
              · simp only [D.low] at hk ⊢
                exact lows_put (low_up dv (Nat.zero_le k) z) hk)
            cases (show ou = _ from ro)
            refine d_setItem (by omega) I (show DPut t.H _ (kV (.inr z)) vv _ from DPut.k h2 ?_) (by rw [r2.strV] at ri; exact ri) rv fun s' I' => ⟨_, I', k ⟨t.S, _, t.ρ, _⟩ rfl e1 e2⟩
            have := hl.1
            rw [List.length_map] at this
            rw [sizeLine_eq]
            omega
      · cases hs
    · cases hs
  · cases hs
theorem s_setI (hu : X.A.units + 8 < cLine) (he : PE X e (tofE G n0 W a)) (ho : PE X o (tofE G n0 W b)) (hi : PE X i (tofE G n0 W c)) (ha : ∀ v, assign (.Subscript o i pos) X.env v = (do
      let ov ← holding [v] (eval o X.env)
      let iv ← holding [v, ov] (eval i X.env)
      standAt pos
      holding [v, ov, iv] (setItem ov iv v)
      release [v, ov, iv] [])) {pos2 : Pos} (hs2 : swapsWithSole [.Subscript o i pos] e pos2.line X.env = pure false) (hw : swappedStores [.Subscript o i pos] e X.env = pure none) :
    PS X (.Assign [.Subscript o i pos] e pos2) (tofS G n0 W fun env => thenM env (a env) fun v => thenM env (b env) fun x => thenM env (c env) fun y => fun ν => stoK env (setX n0 ν x y v)) := by
  refine PS.wk (ps_asg he (pg_sub ho hi (set_all (G := G) (n0 := n0) hu) ha) hs2 hw) fun D σ H h => ?_
  obtain ⟨x, env, rfl, ok, en, h⟩ := h
  refine ⟨x, env, rfl, ok, en, h.then en fun dv v y ey oy ry h => ⟨y, env, rfl, oy, en.mono ey, h.then (en.mono ey) fun dx o z ez oz rz h => ⟨z, env, rfl, oz, (en.mono ey).mono ez, h.then ((en.mono ey).mono ez) fun dy i t et ot rt h => ?_⟩⟩⟩
  cases hx : setX n0 t.ν dx dy dv with
  | none => exact (h.nonOf (by show stoK env (setX n0 t.ν dx dy dv) = none; rw [hx]; rfl)).elim
  | some ν' => exact ⟨t, dx, dy, dv, ν', rfl, ot, et.rep rz, rt, et.rep (ez.rep ry), hx, fun w hw ew ow => h.nxOf (env' := env) (ν' := ν') (by show stoK env (setX n0 t.ν dx dy dv) = _; rw [hx]; rfl) σ w hw ew ow (((en.mono ey).mono ez).mono (et.trans ew))⟩
theorem putF_new {f : Str} {v : V} : ∀ {fs : List (Str × V)}, f ∉ fs.map (·.1) → putF f v fs = fs ++ [(f, v)]
  | [], _ => rfl
  | (g, x) :: r, h => by
    rw [List.map_cons, List.mem_cons, not_or] at h
    show (if g = f then (g, v) :: r else (g, x) :: putF f v r) = _
    rw [if_neg fun e => h.1 e.symm, putF_new h.2]
    rfl
/-- self.f = e, of an instance under way -/
theorem s_setF {j f : Nat} {y : Str} {p p2 : Pos} (hK : G.K = X.K) (F : ClsK G) (hf : FldK G f) (inj : ∀ g, G.fld g = G.fld f → g = f) (hN : X.N[j]? = some y) (hv : Vis X.env.scope y) (hd : (y == ("__debug__" : Str)) = false) (hcd : (y == ("__classdict__" : Str)) = false) (he : PE X e (tofE G n0 W a)) (hs : swapsWith e (some (.Attribute (.Name y p) (G.fld f) p2)) pos.line X.env = pure false) :
    PS X (.Assign [.Attribute (.Name y p) (G.fld f) p2] e pos) (tofS G n0 W fun env => thenM env (a env) fun v => fun ν => stoK env (setY n0 ν (env[j]?.bind id) f v)) := by
  refine PS.wk (ps_fld (pe_var hN hv hd hcd) he hs) fun D σ H h => ?_
  obtain ⟨x, env, rfl, ok, en, h⟩ := h
  refine ⟨x, env, rfl, ok, en, h.then en fun dv v y ey oy ry h => ?_⟩
  have en := en.mono ey
  cases hx : setY n0 y.ν (env[j]?.bind id) f dv with
  | none => exact (h.nonOf (by show stoK env (setY n0 y.ν (env[j]?.bind id) f dv) = none; rw [hx]; rfl)).elim
  | some ν' =>
    have fin : ∀ w : Sit, w.ν = ν' → Ext n0 y w → OkS G n0 w → D.nx σ w.H := fun w hw ew ow => h.nxOf (env' := env) (ν' := ν') (by show stoK env (setY n0 y.ν (env[j]?.bind id) f dv) = _; rw [hx]; rfl) σ w hw ew ow (en.mono ew)
    unfold setY at hx
    split at hx
    · next n hn =>
      have hn2 : env[j]? = some (some (.tok n)) := by
        cases q : env[j]? with
        | none => rw [q] at hn; cases hn
        | some o => rw [q] at hn; exact congrArg some hn
      obtain ⟨u, u1, u2⟩ := en.at_ j _ hn2
      cases u2 with
      | @tok _ p ht =>
        refine ⟨_, u1, ?_⟩
        unfold setF at hx
        split at hx
        · next C ns vs hz =>
          split at hx
          · next hl =>
            cases hx
            obtain ⟨d', o', h1, h2, h3⟩ := oy.tok ht
            rw [hz] at h1
            cases h1
            cases h3.plain rfl with
            | @obj _ _ _ dx fs hC hnm rr =>
              have hns : G.fld f ∉ fs.map (·.1) := by
                rw [hnm]
                intro m
                obtain ⟨g, g1, g2⟩ := List.mem_map.mp m
                exact hl.2.2.2 (inj g g2 ▸ g1)
              have key := putF_new (v := v) hns
              have hlen : fs.length = ns.length := by
                have := congrArg List.length hnm
                rwa [List.length_map, List.length_map] at this
              have nd : Node G y.ρ y.S (.obj C (ns ++ [f]) (vs ++ [dv])) (.ins (G.cad C) dx (putF (G.fld f) v fs)) := by
                rw [key]
                refine .obj hC ?_ ?_
                · rw [List.map_append, List.map_append, hnm]; rfl
                · rw [List.map_append]
                  exact rr.append (.cons ry .nil)
              obtain ⟨e1, e2⟩ := oy.put ht nd (fun d' hd' => by rw [hz] at hd'; cases hd'; rfl) (fun hn d' hd' k hk => by
                rw [hz] at hd'
                cases hd'
                simp only [EF.D.low] at hk ⊢
                exact lows_app hk (by simp [EF.D.lows, low_up dv (Nat.zero_le k) hl.2.2.1]))
              exact ⟨p, G.cad C, dx, fs, rfl, h2, hK ▸ (F.ty C hC).1, hK ▸ hf C hC, by omega, fin ⟨y.S, _, y.ρ, _⟩ rfl e1 e2⟩
          · cases hx
        · cases hx
    · cases hx
end
end EF

/-! EZ: errors are made: the base class's __init__ says super().__init__(given), then keeps what it was given. -/
namespace EF
open PySem PySem.Spec PyProof.Rows L2
open PySem.W PySem.Calls

section
variable {p0 p1 p2 p3 p4 p5 q1 q2 q3 q4 a1 a2 dp : Pos}
def feA (a1 a2 dp : Pos) : Arguments := { posonlyargs := [], args := [{ arg := "self", annotation := none, pos := a1 }, { arg := "given", annotation := none, pos := a2 }], vararg := none, kwonlyargs := [], kw_defaults := [], kwarg := none, defaults := [.Constant .none 0 dp] }
def feB (p0 p1 p2 p3 p4 p5 q1 q2 q3 q4 : Pos) : List Stmt := [.Expr (.Call (.Attribute (.Call (.Name "super" p0) [] [] p1) "__init__" p2) [.Name "given" p3] [] p4) p5, .Assign [.Attribute (.Name "self" q1) "given" q2] (.Name "given" q3) q4]
def feS : Scope := { kind := .function, names := [(PySem.Str.ofString "self", .local), (PySem.Str.ofString "given", .local), (PySem.Str.ofString "__class__", .free), (PySem.Str.ofString "super", .globalImplicit)], isGenerator := false, isCoroutine := false, more := [] }
end
theorem mcall_eq {o : Expr} {name : Str} {p2 p4 : Pos} {args : List Expr} {env : PySem.Env} (hf : methodCallForm args.length (backTo p4 (starEach args env)) [] = true) (hl : (p2.endLine == p4.line) = true) :
    eval (.Call (.Attribute o name p2) args [] p4) env = (do
      let ov ← attributeBase o name env (eval o env)
      standAt p2.atName
      let (f, first) ← holding [ov] (getMethod ov name (do return (← importBound o env).getD true))
      callWith p4 f first (backTo p4 (starEach args env)) []) := by
  have e : eval (.Call (.Attribute o name p2) args [] p4) env = (do
      let ov ← attributeBase o name env (eval o env)
      standAt p2.atName
      methodCall o name p2 p4 env ov (args.length + 0) (backTo p4 (starEach args env)) []) := rfl
  rw [e]
  unfold methodCall methodCallPos calleeOf
  simp only [Nat.add_zero, hf, hl, Bool.not_true, Bool.false_or, if_true]
  rfl
/-- what the written part says of the base class at D, and of its __init__ at fI -/
structure FeTxt (P : Program) (K : Frag) (mg : Str → Option Value) (D fI : Addr) : Prop where
  fn : ∃ (oc : Value) (od : Option Addr) (dV kV doc pm : Value) (an : Option Addr) (ct : Value) (osl : Array (Option Value)) (p0 p1 p2 p3 p4 p5 q1 q2 q3 q4 a1 a2 dp : Pos) (cc cda : Addr) (ocode : Obj) (vs : Array Value) (file : Str) (tf : Tok) (cl : Value) (cld : Option Addr) (csl : Array (Option Value)),
    K.lookup fI = some ⟨oc, od, .func (ksFn "__init__" "FreedomError.__init__" (feA a1 a2 dp) (feB p0 p1 p2 p3 p4 p5 q1 q2 q3 q4) feS dV kV doc pm an (.ref cda) ct cc), osl⟩ ∧ codeIn K (.ref cda) "FreedomError.__init__" = true ∧
    (p2.endLine == p4.line) = true ∧ (∃ (Td : Addr) (oT : Obj) (its : List Value) (nT : Nat), dV = .ref Td ∧ K.lookup Td = some oT ∧ oT.data = .seq its.toArray nT ∧ its.length = 1) ∧ K.lookup cda = some ocode ∧ ocode.data = .fields vs ∧ vs[2]? = some (.str file tf) ∧ ((P.main.file : Str) == file) = true ∧ K.lookup cc = some ⟨cl, cld, .cell (some (.ref D)), csl⟩
  tI : typeIn K (.ref fI) = some (.type "function")
  cD : ∃ cd, clsIn K D = some cd
  sup : mg "super" = none
  top : (P.main.scope.names.lookup ("super" : Str)).isSome = false
  opq : nsIn K cStatics "thirdparty.any" = some none
/-- what it says of a class at C under it -/
structure FeCls (K : Frag) (D C : Addr) : Prop where
  o : OexC K C
  sub : mroIn K C (.ref D) = some true
  ve : subIn K (.ref C) (.type "ValueError") = some true
  nxt : ks_superIn K C D "__init__" = some (some (.builtin "ValueError.__init__"))
  noG : findIn K (.ref C) "given" = some none
/-- what __init__ leaves of a fresh error at x -/
structure FeEnd (h h' : Heap) (x C dx t1 : Addr) (v : Value) : Prop where
  keep : ∀ b o, b ≠ x → h.get? b = some o → h'.get? b = some o
  obj : h'.get? x = some { cls := .ref C, dict := some dx, data := .fields #[.ref t1, .none, .none, .none, .bool false, .none] }
  dbig : h.objs.size ≤ dx
  dne : dx ≠ x
  ns : h'.Ns1 dx (fun y => if y = "given" then some v else none)
theorem kept1 {K : Frag} {h h' : Heap} {x : Addr} (X : K.In h) (hx : K.lookup x = none) (k : ∀ b o, b ≠ x → h.get? b = some o → h'.get? b = some o) : K.In h' := fun a o e =>
  k a o (fun z => by rw [z, hx] at e; cases e) (X a o e)
section
variable {prog : Program} {w : World} {A : Around} {E : Value → Shared → Prop} {h : Heap} {g : Array GenState} {d : Drawn} {t : Nat} {os : OsState}
/-- ValueError.__init__, bound to the error at e, called -/
theorem call_mw {nm q : Str} {C N : Addr} {bs bm : List Value} {hdct : Bool} {sn : List Str} {sub : List Value} {ab : Bool} {col : Option Bool} {dd : Option Addr} {k0 k1 k2 k3 k5 : Option Value} {u e t0 : Addr} {rest : List Value} {Q : Value → Shared → Prop}
    (hC : h.get? C = some (excClassObj nm q C N bs bm hdct sn sub ab col dd k0 k1 k2 k3 k5 "ValueError.__new__")) (he : h.get? e = some (HandSPX.excO C t0)) (hu : h.get? u = some (kxs_mw "ValueError.__init__" e)) (hrest : rest.length ≤ sizeLine)
    (hq : ∀ h' t1, (∀ b o, b ≠ e → h.get? b = some o → h'.get? b = some o) → h'.get? e = some (HandSPX.excO C t1) → Q .none ⟨h', g, d, t, os⟩) :
    wpAny (model prog w) A (call (.ref u) rest) Q E ⟨h, g, d, t, os⟩ := by
  refine wpAny_call (codeAny_of_tree ?_)
  show wpAny _ A.in1 (callAny (.ref u) ⟨rest, []⟩) _ _ _
  simp only [callAny]
  refine wpAny_bind (wpAny_load hu ?_)
  have hb : ((kxs_mw "ValueError.__init__" e).cls == .type "method" || (kxs_mw "ValueError.__init__" e).cls == .type "builtin_function_or_method" || (kxs_mw "ValueError.__init__" e).cls == .type "method-wrapper") = true := by
    show (Value.type "method-wrapper" == .type "method" || Value.type "method-wrapper" == .type "builtin_function_or_method" || Value.type "method-wrapper" == .type "method-wrapper") = true
    decide
  simp only [kxs_mw] at hb ⊢
  simp only [hb, if_true]
  refine KFB.if_so (by decide) ?_
  refine wpAny_bind (check_bound_init F.excBase_ValueError.toExcCallFacts hC he rfl ?_)
  refine wpAny_bind (wpAny_pure (wpAny_pure ?_))
  refine ⟨plainId_quiet F.excBase_ValueError.init.plain _, codeAny_builtin F.excBase_ValueError.initEntry ?_⟩
  exact exc_init_tree (cls := .ref C) (t0 := t0) (dv := none) (c2 := .none) (c3 := .none) (b4 := .bool false) he hrest fun h' k' e' _ => hq h' _ k' e'
end
section
variable {prog : Program} {w : World} {A : Around} {R : Result → Shared → Prop} {s : Shared} {K : Frag} {mg : Str → Option Value} {base : Heap} {D fI : Addr}
theorem fe_init {E : Value → Shared → Prop} (T : FeTxt prog K mg D fI) (M : Mod K mg base) (bk : ∀ b o, base.get? b = some o → s.heap.get? b = some o) {x C t0 : Addr} {v : Value} (F : FeCls K D C) (hx : s.heap.get? x = some (HandSPX.excO C t0)) (hnb : base.get? x = none) (hroom : A.depth < recursionLimit)
    (hq : ∀ h' tk dx t1, FeEnd s.heap h' x C dx t1 v → R (.ok (.ret .none)) { s with heap := h', toks := tk }) :
    codeAny (model prog w) A (.call (.ref fI) ⟨[.ref x, v], []⟩) R s := by
  obtain ⟨oc, od, dV, kV, doc, pm, an, ct, osl, p0, p1, p2, p3, p4, p5, q1, q2, q3, q4, a1, a2, dp, cc, cda, ocode, vs, file, tf, cl, cld, csl, lf, hcd, hpl, ⟨Td, oT, its, nT, rfl, lT, dT, hits⟩, lcode, dcode, hvs, hfile, lcell⟩ := T.fn
  obtain ⟨cdD, hD⟩ := T.cD
  have X : K.In s.heap := M.kin.keeps bk
  have hlim : s.heap.NoLimit := M.nolimit.keeps bk
  have hnx : K.lookup x = none := by
    cases e : K.lookup x with
    | none => rfl
    | some o => have := M.kin _ _ e; rw [hnb] at this; cases this
  refine ks_codeAny_call_defAt (fd := ksFn "__init__" "FreedomError.__init__" (feA a1 a2 dp) (feB p0 p1 p2 p3 p4 p5 q1 q2 q3 q4) feS (.ref Td) kV doc pm an (.ref cda) ct cc) (binds := [("self", .ref x), ("given", v)]) hroom (X _ _ lf) rfl hlim (codeRec_of X hcd) rfl
    (BindsTo.of_looks fun M => ?_) (show ∀ y ∈ feS.names, y.2 ≠ .cell by decide) (fun y hy => ?_) (fun h1 hns k1 => ?_) rfl rfl rfl
  · have nd : ∀ (T : List Value), T.length = 1 → ∃ k, bindArgs (ksFn "__init__" "FreedomError.__init__" (feA a1 a2 dp) (feB p0 p1 p2 p3 p4 p5 q1 q2 q3 q4) feS (.ref Td) kV doc pm an (.ref cda) ct cc) ⟨[.ref x, v], []⟩ = seqItems? (.ref Td) >>= k ∧ k (some T.toArray) = pure [(("self" : Str), Value.ref x), (("given" : Str), v)] := fun T hT => by
      match T, hT with
      | [i0], _ => exact ⟨_, rfl, by first | rfl | kernel_rfl⟩
    obtain ⟨k, e1, e2⟩ := nd its hits
    rw [e1]
    exact looks_items X lT dT (.of_pure e2)
  · simp only [List.mem_cons, List.not_mem_nil, or_false] at hy
    rcases hy with rfl | rfl <;> rfl
  have X1 : K.In h1 := X.keeps k1
  have hx1 := k1 _ _ hx
  show PySem.wpAt (model prog w) _ (.func _ (ksEnv "FreedomError.__init__" feS s.heap.objs.size fI (.ref cda) cc)) _ _ _ _
  refine ks_wpAt_execs_cons (ks_wpAt_Expr_any (ks_wpAt_MethodCall ?_ (mcall_eq (env := ksEnv "FreedomError.__init__" feS s.heap.objs.size fI (.ref cda) cc) rfl hpl)) rfl rfl)
  obtain ⟨oD, hD1, hD2⟩ : ∃ oD, h1.get? D = some oD ∧ oD.data = .cls cdD := by
    unfold clsIn at hD
    split at hD
    · rename_i c d cd' sl ho
      cases hD
      exact ⟨_, X1 _ _ ho, rfl⟩
    · cases hD
  obtain ⟨mb, b1, b2⟩ := M.blt
  have bk1 : ∀ b o, base.get? b = some o → h1.get? b = some o := fun b o e => k1 b o (bk b o e)
  refine ks_wpAt_super_base (env := ksEnv "FreedomError.__init__" feS s.heap.objs.size fI (.ref cda) cc) rfl rfl rfl rfl (X1 _ _ lf) rfl rfl rfl (X1 _ _ lcode) dcode hvs hfile T.top ?_
  refine ks_loadName_global rfl rfl (loadGlobal_builtin (env := ksEnv "FreedomError.__init__" feS s.heap.objs.size fI (.ref cda) cc) (M.glob.keeps bk1) T.sup (b1.keeps bk1) ((b2 _ (by decide)).trans PyProof.Rows.Boot.«super») ⟨rfl, ?_⟩)
  refine wpAny_loadName_free rfl rfl rfl ⟨_, X1 _ _ lcell, rfl⟩ ?_
  refine wpAny_loadName_local rfl rfl hns rfl ?_
  refine ks_wpAny_isType_cls hD1 hD2 ⟨rfl, ?_⟩
  refine ks_wpAny_call_super hD1 hD2 hx1 rfl (fun c e => by cases e) (looks_mroIn X1 F.sub) (fun h2 e2 k2 => ?_)
  have X2 : K.In h2 := X1.keeps k2
  have hx2 := k2 _ _ hx1
  obtain ⟨nm, q, N, bs, bm, sn, sub, ab, col, dd, c0, c1, c2, c3, c5, hC, hbm⟩ := F.o.cls
  have hcl : clsIn K C = some { name := nm, bases := bs, mro := .ref C :: bm, ns := N, qualname := q, hasDict := true, slotNames := sn, subclasses := sub, abstract := ab, collection := col, hasDel := false } := by unfold clsIn; rw [hC] <;> rfl
  have xC : x ≠ C := fun z => by
    have z2 : K.lookup C = none := by rw [← z]; exact hnx
    rw [z2] at hC
    cases hC
  have I2 : W.InstAt h2 x (HandSPX.excO C t0) C none := ⟨hx2, rfl, rfl, trivial⟩
  have hnxt := F.nxt
  unfold ks_superIn at hnxt
  rw [hcl, Option.bind_some] at hnxt
  refine kxs_getMethod kxs_ValueError e2 (looks_opaque X2 T.opq) (fun A Q E s k q => wpAny_bind ((looks_clsIn X2 hcl) A _ E s k (wpAny_pure q))) rfl X2 hnxt (I2.type.andThen (looks_subIn X2 F.ve)) xC rfl ?_
  have k3 : ∀ b o, h2.get? b = some o → (h2.push (kxs_mw "ValueError.__init__" x)).get? b = some o := fun b o e => Heap.get?_push_of_some _ e
  have X3 := X2.keeps k3
  have hns3 := (hns.keeps k2).keeps k3
  refine kxs_callWith (i := "ValueError.__init__") (x := x) rfl (evalArgs_plain (Calls.spliced_cons (wpAny_Name (wpAny_loadName_local rfl rfl hns3 rfl (Calls.spliced_nil ⟨Heap.get?_push_size _ rfl, ?_⟩)) (by decide))))
  refine call_mw (X3 _ _ hC) (k3 _ _ hx2) (Heap.get?_push_size _ rfl) (show 1 ≤ sizeLine by rw [sizeLine_eq]; decide) (fun h4 t4 k4 hx4 => ?_)
  refine PySem.wpAt_of_wpAny ?_
  have hLx : s.heap.objs.size ≠ x := Nat.ne_of_gt (Heap.lt_size hx)
  obtain ⟨oL, es, ep, hL, hrL⟩ := hns3
  have hns4 : h4.Ns s.heap.objs.size (fun y => List.lookup y [(("self" : Str), Value.ref x), (("given" : Str), v)].reverse) := ⟨oL, es, ep, k4 _ _ hLx hL, hrL⟩
  have kk : ∀ b o, b ≠ x → s.heap.get? b = some o → h4.get? b = some o := fun b o n e => k4 b o n (k3 _ _ (k2 _ _ (k1 _ _ e)))
  have X4 : K.In h4 := kept1 X hnx kk
  show wpAny _ _ (execs _ _) _ _ _
  refine wpAny_execs_cons (plainObj_wpAny_Assign_Attribute ?_)
  refine wpAny_Name (wpAny_loadName_local rfl rfl hns4 rfl (wpAny_Name (wpAny_loadName_local rfl rfl hns4 rfl ?_) (by decide))) (by decide)
  refine set_plain X4 (ox := HandSPX.excO C t4) (od := none) ⟨hx4, rfl, rfl, trivial⟩ F.o.sa ?_
  refine HandSPX.exc_osa X4 hx4 hcl (show HandSPX.refsVE (.ref C :: bm) = true from hbm) rfl F.noG (fun h5 tk5 dx k5 dn dne hx5 hn5 => ?_)
  show wpAny _ _ (execs _ _) _ _ _
  have z : s.heap.objs.size ≤ dx := Nat.le_trans (Nat.le_of_lt hns4.lt) dn
  exact wpAny_execs_nil (hq h5 tk5 dx t4 ⟨fun b o hb e => k5 b o hb (kk b o hb e), hx5, z, dne, hn5⟩)
end
end EF

/-! FA: an error is made by a call of its class. -/
namespace EF
open PySem PySem.Spec PyProof.Rows L2
open PySem.W PySem.Calls

/-- a made error at e, its dict at d -/
structure OwnM (h h' : Heap) (e C d : Addr) (fs : List (Str × Value)) : Prop where
  keep : ∀ b o, h.get? b = some o → h'.get? b = some o
  new : h.objs.size ≤ e
  obj : ∃ t1 : Addr, h'.get? e = some { cls := .ref C, dict := some d, data := .fields #[.ref t1, .none, .none, .none, .bool false, .none] }
  dbig : h.objs.size ≤ d
  dne : d ≠ e
  ns : h'.Ns1 d (fun y => fs.lookup y)
/-- a class of errors: called with n values, its fields are how -/
structure ErrMk (P : Program) (w : World) (K : Frag) (base : Heap) (C : Addr) (n : Nat) (how : List Value → List (Str × Value)) : Prop where
  run : ∀ (A : Around) (s : Shared) (us : List Value) (R : Result → Shared → Prop), us.length = n → (∀ b o, base.get? b = some o → s.heap.get? b = some o) → base.objs.size ≤ s.heap.objs.size → A.depth + 1 < recursionLimit →
    (∀ h' tk e d, OwnM s.heap h' e C d (how us) → R (.ok (.ret (.ref e))) { s with heap := h', toks := tk }) → codeAny (model P w) A (.call (.ref C) ⟨us, []⟩) R s
  ex : subIn K (.ref C) (.type "BaseException") = some true
  ty : typeIn K (.ref C) = some (.type "type")
  kp : keepIn K (.ref C) = true
theorem lookup_one {f : Str} {v : Value} : (fun y => if y = f then some v else none) = (fun y => List.lookup y [(f, v)]) := by
  funext y
  by_cases h : y = f
  · subst h
    simp [List.lookup]
  · have e : (y == f) = false := by simpa using h
    rw [if_neg h]
    simp [List.lookup, e]
section
variable {prog : Program} {w : World} {A : Around} {R : Result → Shared → Prop} {s : Shared} {K : Frag} {mg : Str → Option Value} {base : Heap} {D fI C : Addr}
/-- one that is not the base's own: C(v) -/
theorem fe_mk (T : FeTxt prog K mg D fI) (M : Mod K mg base) (F : FeCls K D C) (iC : findIn K (.ref C) "__init__" = some (some (.ref fI))) : ErrMk prog w K base C 1 (fun us => match us with | [v] => [("given", v)] | _ => []) := by
  refine ⟨fun A s us R hl bk bs hroom hq => ?_, F.o.exC, F.o.tyC, F.o.kC⟩
  obtain ⟨v, rfl⟩ : ∃ v, us = [v] := by
    match us, hl with
    | [v], _ => exact ⟨v, rfl⟩
  obtain ⟨nm, q, N, bs', bm, sn, sub, ab, col, dd, k0, k1, k2, k3, k5, hC, hbm⟩ := F.o.cls
  obtain ⟨hp, g, dr, tk, os⟩ := s
  have X : K.In hp := M.kin.keeps bk
  have k : ∀ b o, hp.get? b = some o → ((hp.push (kdv_tup [v])).push (HandSPX.excO C hp.objs.size)).get? b = some o := fun b o e => Heap.get?_push_of_some _ (Heap.get?_push_of_some _ e)
  have hget : ((hp.push (kdv_tup [v])).push (HandSPX.excO C hp.objs.size)).get? (hp.objs.size + 1) = some (HandSPX.excO C hp.objs.size) := by heap_get
  have hnb : base.get? (hp.objs.size + 1) = none := by
    cases e : base.get? (hp.objs.size + 1) with
    | none => rfl
    | some o => exact absurd (Heap.lt_size (bk _ _ e)) (by show ¬ hp.objs.size + 1 < hp.objs.size; omega)
  refine HandSPX.call_own PySem.F.excBase_ValueError (fun X => HandSPX.refsVE_contains X bm hbm) (X _ _ hC) (looks_findIn X iC) (fun self => bind_fn X self T.tI) (show 1 ≤ sizeLine by rw [sizeLine_eq]; decide) ?_
  refine fe_init (E := fun _ _ => False) (s := ⟨(hp.push (kdv_tup [v])).push (HandSPX.excO C hp.objs.size), g, dr, tk, os⟩) T M (fun b o e => k b o (bk b o e)) F hget hnb (by show A.depth + 1 < recursionLimit; exact hroom) fun h' tk' dx t1 Z => ?_
  have old : ∀ b o, hp.get? b = some o → h'.get? b = some o := fun b o e => Z.keep b o (Nat.ne_of_lt (Nat.lt_succ_of_lt (Heap.lt_size e))) (k b o e)
  have z : hp.objs.size + 1 + 1 ≤ dx := by
    have q := Z.dbig
    rw [Heap.size_push, Heap.size_push] at q
    exact q
  refine ⟨rfl, hq h' tk' (hp.objs.size + 1) dx ⟨old, Nat.le_succ _, ⟨t1, Z.obj⟩, by show hp.objs.size ≤ dx; omega, Z.dne, ?_⟩⟩
  rw [← lookup_one]
  exact Z.ns
end
section
variable {X : Cx} {C : Addr} {n : Nat} {how : List Value → List (Str × Value)}
theorem mk_both {pins : List (Addr × Obj)} {σ : L2.St} {H : Hp} {Q : XK} {hp h' : Heap} {g : Array GenState} {dr : Drawn} {t t' : Nat} {os : OsState} {e d : Addr} {fs : List (Str × Value)} {ws : List (Str × V)} (I : Inv X pins σ H ⟨hp, g, dr, t, os⟩) (M : OwnM hp h' e C d fs) (r : Raises X (.ref C))
    (hr : ∀ f, RelO (ws.lookup f) (fs.lookup f)) (q : ∀ d, H d = none → Q (.ref C) (some d) (upd H d (.xd ws))) :
    L2.MkP X pins σ Q (.ref e) ⟨h', g, dr, t', os⟩ ∧ L2N.MkP X pins σ Q (.ref e) ⟨h', g, dr, t', os⟩ ∧ L2H.Six (.ref e) ⟨h', g, dr, t', os⟩ := by
  obtain ⟨t1, hoe⟩ := M.obj
  obtain ⟨G', g1, g2⟩ := restrict h' fun b => decide (b ≠ e)
  have gk : ∀ b, b ≠ e → G'.get? b = h'.get? b := fun b hb => g1 b (decide_eq_true hb)
  have ge : G'.get? e = none := g2 e (by simp)
  have old : ∀ b o, hp.get? b = some o → G'.get? b = some o := fun b o q => (gk b (Nat.ne_of_lt (Nat.lt_of_lt_of_le (Heap.lt_size q) M.new))).trans (M.keep b o q)
  have ob : ObjOk X.prog X.w (upd H d (.xd ws)) G' d (.xd ws) := ⟨_, M.ns.at (fun o q => (gk d M.dne).trans q), fun f => hr f⟩
  have J : Inv X pins σ (upd H d (.xd ws)) ⟨G', g, dr, t', os⟩ := I.laid (t' := t') old M.dbig ob
  have kk : ∀ b o, G'.get? b = some o → h'.get? b = some o := fun b o q => by
    by_cases hb : b = e
    · rw [hb, ge] at q; cases q
    · exact (gk b hb).symm.trans q
  have nh : upd H d (.xd ws) e = none := by
    rw [upd_ne (Ne.symm M.dne)]
    exact I.hok.fresh M.new
  refine ⟨⟨e, _, _, ⟨G', g, dr, t', os⟩, _, .ref C, some d, rfl, J, kk, ge, hoe, ⟨rfl, rfl⟩, rfl, rfl, nh, rfl, I.bare, r, q d (I.hok.fresh M.dbig)⟩, ⟨e, _, _, ⟨G', g, dr, t', os⟩, _, .ref C, some d, rfl, J, kk, ge, hoe, ?_, rfl, rfl, nh, rfl, I.bare, r, q d (I.hok.fresh M.dbig)⟩, ?_⟩
  · refine ⟨rfl, rfl, fun vs hv => ?_⟩
    cases hv
    rfl
  · intro a oe vs ea hg hd
    cases ea
    have hg' : h'.get? e = some oe := hg
    rw [hoe] at hg'
    cases hg'
    cases hd
    show (4 : Nat) < 6
    decide
end
end EF

/-! FB: errors whose __init__ keeps None alone. -/
namespace EF
open PySem PySem.Spec PyProof.Rows L2
open PySem.W PySem.Calls
section
variable {p1 q1 q2 q3 q4 : Pos} {j : Nat}
def bzA (p1 : Pos) : Arguments := { posonlyargs := [], args := [{ arg := "self", annotation := none, pos := p1 }], vararg := none, kwonlyargs := [], kw_defaults := [], kwarg := none, defaults := [] }
def bzB (q1 q2 q3 q4 : Pos) : List Stmt := [.Assign [.Attribute (.Name "self" q1) "given" q2] (.Constant .none 0 q3) q4]
def bzS : Scope := { kind := .function, names := [(PySem.Str.ofString "self", .local)], isGenerator := false, isCoroutine := false, more := [] }
end
structure BzTxt (K : Frag) (C fI : Addr) : Prop where
  o : OexC K C
  iC : findIn K (.ref C) "__init__" = some (some (.ref fI))
  tI : typeIn K (.ref fI) = some (.type "function")
  noG : findIn K (.ref C) "given" = some none
  fn : ∃ (oc : Value) (od : Option Addr) (kV doc pm : Value) (an : Option Addr) (cdv ct : Value) (osl : Array (Option Value)) (qual : Str) (p1 q1 q2 q3 q4 : Pos),
    K.lookup fI = some ⟨oc, od, .func (fnOf "__init__" qual (bzA p1) (bzB q1 q2 q3 q4) bzS .none kV doc pm an cdv ct), osl⟩ ∧ codeIn K cdv qual = true
section
variable {prog : Program} {w : World} {A : Around} {R : Result → Shared → Prop} {s : Shared} {K : Frag} {mg : Str → Option Value} {base : Heap} {D fI C : Addr}
theorem bz_init (T : BzTxt K C fI) (M : Mod K mg base) (bk : ∀ b o, base.get? b = some o → s.heap.get? b = some o) {x t0 : Addr} (hx : s.heap.get? x = some (HandSPX.excO C t0)) (hroom : A.depth < recursionLimit)
    (hq : ∀ h' tk dx t1, FeEnd s.heap h' x C dx t1 .none → R (.ok (.ret .none)) { s with heap := h', toks := tk }) :
    codeAny (model prog w) A (.call (.ref fI) ⟨[.ref x], []⟩) R s := by
  obtain ⟨oc, od, kV, doc, pm, an, cdv, ct, osl, qual, p1, q1, q2, q3, q4, ho, hcd⟩ := T.fn
  obtain ⟨nm, q, N, bs, bm, sn, sub, ab, col, dd, k0, k1, k2, k3, k5, hC, hbm⟩ := T.o.cls
  have hcl : clsIn K C = some { name := nm, bases := bs, mro := .ref C :: bm, ns := N, qualname := q, hasDict := true, slotNames := sn, subclasses := sub, abstract := ab, collection := col, hasDel := false } := by unfold clsIn; rw [hC] <;> rfl
  have X : K.In s.heap := M.kin.keeps bk
  refine Att.call_fn (binds := [("self", .ref x)]) X (M.nolimit.keeps bk) ho hcd hroom (BindsTo.of_eq (by first | rfl | with_unfolding_all rfl)) (by first | rfl | decide | with_unfolding_all rfl) (fun s₁ IC => ?_) rfl rfl rfl
  obtain ⟨h₁, tk₁, rfl⟩ := IC.toInCall.same
  have k : ∀ b o, s.heap.get? b = some o → h₁.get? b = some o := IC.toInCall.keep
  have hn := IC.toInCall.ns
  have X₁ : K.In h₁ := X.keeps k
  have hx₁ := k _ _ hx
  show wpAny _ _ (execs _ _) _ _ _
  refine wpAny_execs_cons (plainObj_wpAny_Assign_Attribute ?_)
  refine Constant_none (wpAny_Name (wpAny_loadName_local (v := .ref x) rfl rfl hn (by first | rfl | with_unfolding_all rfl | kernel_rfl) ?_) (by decide))
  refine set_plain X₁ (ox := HandSPX.excO C t0) (od := none) ⟨hx₁, rfl, rfl, trivial⟩ T.o.sa ?_
  refine HandSPX.exc_osa X₁ hx₁ hcl (show HandSPX.refsVE (.ref C :: bm) = true from hbm) rfl T.noG (fun h₃ tk₃ dx k₃ dn dne hx₃ hn₃ => ?_)
  show wpAny _ _ (execs _ _) _ _ _
  have z : s.heap.objs.size < h₁.objs.size := hn.lt
  exact wpAny_execs_nil (hq h₃ tk₃ dx t0 ⟨fun b o hb e => k₃ b o hb (k b o e), hx₃, Nat.le_of_lt (Nat.lt_of_lt_of_le z dn), dne, hn₃⟩)
theorem bz_mk (T : BzTxt K C fI) (M : Mod K mg base) : ErrMk prog w K base C 0 (fun _ => [("given", .none)]) := by
  refine ⟨fun A s us R hl bk bs hroom hq => ?_, T.o.exC, T.o.tyC, T.o.kC⟩
  obtain rfl : us = [] := List.length_eq_zero_iff.mp hl
  obtain ⟨nm, q, N, bs', bm, sn, sub, ab, col, dd, k0, k1, k2, k3, k5, hC, hbm⟩ := T.o.cls
  obtain ⟨hp, g, dr, tk, os⟩ := s
  have X : K.In hp := M.kin.keeps bk
  have k : ∀ b o, hp.get? b = some o → ((hp.push (kdv_tup [])).push (HandSPX.excO C hp.objs.size)).get? b = some o := fun b o e => Heap.get?_push_of_some _ (Heap.get?_push_of_some _ e)
  have hget : ((hp.push (kdv_tup [])).push (HandSPX.excO C hp.objs.size)).get? (hp.objs.size + 1) = some (HandSPX.excO C hp.objs.size) := by heap_get
  refine HandSPX.call_own PySem.F.excBase_ValueError (fun X => HandSPX.refsVE_contains X bm hbm) (X _ _ hC) (looks_findIn X T.iC) (fun self => bind_fn X self T.tI) (Nat.zero_le _) ?_
  refine bz_init (s := ⟨(hp.push (kdv_tup [])).push (HandSPX.excO C hp.objs.size), g, dr, tk, os⟩) T M (fun b o e => k b o (bk b o e)) hget (by show A.depth + 1 < recursionLimit; exact hroom) fun h' tk' dx t1 Z => ?_
  have old : ∀ b o, hp.get? b = some o → h'.get? b = some o := fun b o e => Z.keep b o (Nat.ne_of_lt (Nat.lt_succ_of_lt (Heap.lt_size e))) (k b o e)
  have z : hp.objs.size + 1 + 1 ≤ dx := by
    have q := Z.dbig
    rw [Heap.size_push, Heap.size_push] at q
    exact q
  refine ⟨rfl, hq h' tk' (hp.objs.size + 1) dx ⟨old, Nat.le_succ _, ⟨t1, Z.obj⟩, by show hp.objs.size ≤ dx; omega, Z.dne, ?_⟩⟩
  rw [← lookup_one]
  exact Z.ns
end
end EF

/-! FC: raise. -/
namespace EF
open PySem PySem.Spec PyProof.Rows L2
open PySem.Calls
section
variable (P : Program) (w : World) (K : PySem.W.Frag) (base : Heap) (G : Gx) (T : Tab)
/-- the errors of kind C are made as T.err says -/
def ErrK (C : Nat) : Prop := ∃ n how, ErrMk P w K base (G.cad C) n how ∧ ∀ (y : Sit) (ds : List D) (x : Exn) (vs : List V) (us : List Value), T.err C ds = some x → Reps G y.ρ y.S ds vs → Vals vs us →
  x.C = C ∧ us.length = n ∧ ∃ ws : List (Str × V), (∀ f, RelO (ws.lookup f) ((how us).lookup f)) ∧ ws.map (·.1) = x.ns.map G.fld ∧ Reps G y.ρ y.S x.vs (ws.map (·.2))
end
section
variable {X : Cx} {G : Gx} {n0 : Nat} {W : WX} {T : Tab} {C : Nat} {as : Env → M (List D)} {y : Str} {e : Expr} {es : List Expr} {p pos pos2 : Pos}
def tMkE (G : Gx) (n0 : Nat) (T : Tab) (C : Nat) (x : Sit) (vs : List V) (Q : XK) (H : Hp) : Prop := ∃ (y : Sit) (ds : List D) (q : Exn), y.H = H ∧ OkS G n0 y ∧ Reps G y.ρ y.S ds vs ∧ T.err C ds = some q ∧ ∀ (z : Sit) (c : Value) (dx : Option Addr), z.ν = y.ν → Ext n0 y z → OkS G n0 z → ERep G z q c dx → Q c dx z.H
theorem mk_call {pins : List (Addr × Obj)} {σ : L2.St} {H : Hp} {Q : XK} {s : Shared} {us : List Value} {vs : List V} {x : Sit} {E : Value → Shared → Prop} (hE : ErrK X.prog X.w X.K X.base G T C) (hr : X.A.depth + 2 < recursionLimit) (I : Inv X pins σ H s) (r : Vals vs us) (h : tMkE G n0 T C x vs Q H) :
    wpAny (model X.prog X.w) X.A (call (.ref (G.cad C)) us) (fun u s' => L2.MkP X pins σ Q u s' ∧ L2N.MkP X pins σ Q u s' ∧ L2H.Six u s') E s := by
  obtain ⟨z, ds, q, rfl, oz, rz, he, k⟩ := h
  obtain ⟨n, how, M, hf⟩ := hE
  obtain ⟨hC, hn, ws, w1, w2, w3⟩ := hf z ds q vs us he rz r
  obtain ⟨hp, g, dr, tk, os⟩ := s
  refine wpAny_call (M.run _ _ us _ hn (fun b o e => (I.env0.bs b o e).1) I.env0.bsz (by omega) fun h' tk' e d Z => ?_)
  refine mk_both I Z (raises_own M.ex M.ty) w1 fun d hd => ?_
  obtain ⟨e1, e2⟩ := oz.layAny (o := .xd ws) hd
  refine k ⟨upd z.S d (.xd ws), upd z.H d (.xd ws), z.ρ, z.ν⟩ _ _ rfl e1 e2 ⟨d, ws, by rw [hC], rfl, upd_same, w2, e1.reps w3⟩
theorem pm_all (hE : ErrK X.prog X.w X.K X.base G T C) (hr : X.A.depth + 2 < recursionLimit) (hg : Gl X y) (hm : X.mg y = some (.ref (G.cad C))) (hd : (y == ("__debug__" : Str)) = false) (ha : PA X (e :: es) (tofA G n0 W as))
    (he : starEach (e :: es) X.env = (false, eval e X.env) :: starEach es X.env) (hpl : (backTo pos (starEach es X.env)).any (·.1) = false) {pins : List (Addr × Obj)} {s : Shared} {σ : L2.St} {x : Sit} {env : Env} {Q : XK}
    (I : Inv X pins σ x.H s) (ok : OkS G n0 x) (en : EnvOk G x σ env) (h : After G n0 (RepsR G) W σ x (as env) (fun vs H1 => tMkE G n0 T C x vs Q H1)) :
    wpAny (model X.prog X.w) X.A (eval (.Call (.Name y p) (e :: es) [] pos) X.env) (fun u s' => L2.MkP X pins σ Q u s' ∧ L2N.MkP X pins σ Q u s' ∧ L2H.Six u s') X.xe s := by
  refine wpAny_Call_Name_kw (ld_glob I hg hm ?_ hd)
  have kp : PySem.W.keepIn X.K (.ref (G.cad C)) = true := by obtain ⟨_, _, M, _⟩ := hE; exact M.kp
  refine PySem.W.callWith_K (h₀ := X.base) I.ok.mod.kin kp (thn (ha.run pos pins s σ x.H _ I ⟨x, env, rfl, ok, en, h⟩) fun us s1 ⟨vs, H1, I1, r, q⟩ => ⟨I1.kIn, mk_call hE hr I1 r q⟩) he hpl
theorem pm_all0 (hE : ErrK X.prog X.w X.K X.base G T C) (hr : X.A.depth + 2 < recursionLimit) (hg : Gl X y) (hm : X.mg y = some (.ref (G.cad C))) (hd : (y == ("__debug__" : Str)) = false) {pins : List (Addr × Obj)} {s : Shared} {σ : L2.St} {x : Sit} {Q : XK}
    (I : Inv X pins σ x.H s) (h : tMkE G n0 T C x [] Q x.H) :
    wpAny (model X.prog X.w) X.A (eval (.Call (.Name y p) [] [] pos) X.env) (fun u s' => L2.MkP X pins σ Q u s' ∧ L2N.MkP X pins σ Q u s' ∧ L2H.Six u s') X.xe s := by
  refine wpAny_Call_Name_kw (ld_glob I hg hm ?_ hd)
  have kp : PySem.W.keepIn X.K (.ref (G.cad C)) = true := by obtain ⟨_, _, M, _⟩ := hE; exact M.kp
  exact PySem.W.callWith_K0 I.kIn kp (mk_call (us := []) hE hr I .nil h)
def rsM (T : Tab) (C : Nat) (env : Env) (ds : List D) : MF := match T.err C ds with
  | some x => MF.pure (.ex x env)
  | none => MF.fail
theorem rs_after {x : Sit} {env : Env} {σ : L2.St} {vs : List V} {ds : List D} {E : Ends} (ok : OkS G n0 x) (en : EnvOk G x σ env) (r : Reps G x.ρ x.S ds vs) (h : AfterS G n0 W x (rsM T C env ds) E) : tMkE G n0 T C x vs (fun c d H' => W c d σ H') x.H := by
  cases e : T.err C ds with
  | none => exact (h.nonOf (by unfold rsM; rw [e]; rfl)).elim
  | some q => exact ⟨x, ds, q, rfl, ok, r, e, fun z c dx hz ez oz er => h.exOf (env' := env) (ν' := x.ν) (by unfold rsM; rw [e]; rfl) c dx σ z hz ez oz (en.mono ez) er⟩
/-- raise C(e, ..) -/
theorem s_raise (hcl : X.calm = true) (tk : Takes X W) (hE : ErrK X.prog X.w X.K X.base G T C) (hr : X.A.depth + 2 < recursionLimit) (hg : Gl X y) (hm : X.mg y = some (.ref (G.cad C))) (hd : (y == ("__debug__" : Str)) = false) (ha : PA X (e :: es) (tofA G n0 W as))
    (he : starEach (e :: es) X.env = (false, eval e X.env) :: starEach es X.env) (hpl : (backTo pos (starEach es X.env)).any (·.1) = false) :
    PS X (.Raise (some (.Call (.Name y p) (e :: es) [] pos)) none pos2) (tofS G n0 W fun env => thenM env (as env) fun ds => rsM T C env ds) := by
  refine PS.wk (ps_raise hcl tk (t := fun σ H Q => ∃ (x : Sit) (env : Env), x.H = H ∧ OkS G n0 x ∧ EnvOk G x σ env ∧ After G n0 (RepsR G) W σ x (as env) (fun vs H1 => tMkE G n0 T C x vs Q H1)) (fun pins s σ H Q I ⟨x, env, hH, ok, en, h⟩ => ?_)) fun D σ H h => ?_
  · subst hH
    exact thn (pm_all hE hr hg hm hd ha he hpl I ok en h) fun _ _ z => z.1
  · obtain ⟨x, env, rfl, ok, en, h⟩ := h
    refine ⟨x, env, rfl, ok, en, h.then en fun ds vs z ez oz rz h => ?_⟩
    obtain ⟨z', ds', q, a1, a2, a3, a4, a5⟩ := rs_after (T := T) (C := C) oz (en.mono ez) rz h
    exact ⟨z', ds', q, a1, a2, a3, a4, a5⟩
theorem s_raise0 (hcl : X.calm = true) (tk : Takes X W) (hE : ErrK X.prog X.w X.K X.base G T C) (hr : X.A.depth + 2 < recursionLimit) (hg : Gl X y) (hm : X.mg y = some (.ref (G.cad C))) (hd : (y == ("__debug__" : Str)) = false) :
    PS X (.Raise (some (.Call (.Name y p) [] [] pos)) none pos2) (tofS G n0 W fun env => thenM env (M.pure []) fun ds => rsM T C env ds) := by
  refine PS.wk (ps_raise hcl tk (t := fun σ H Q => ∃ (x : Sit), x.H = H ∧ tMkE G n0 T C x [] Q x.H) (fun pins s σ H Q I ⟨x, hH, h⟩ => ?_)) fun D σ H h => ?_
  · subst hH
    exact thn (pm_all0 hE hr hg hm hd I h) fun _ _ z => z.1
  · obtain ⟨x, env, rfl, ok, en, h⟩ := h
    have h' : AfterS G n0 W x (rsM T C env []) D := h.from (.refl x) rfl
    exact ⟨x, rfl, rs_after ok en .nil h'⟩
end
end EF

/-! FD: try with several clauses, with and without names. -/
namespace EF
open PySem PySem.Spec PyProof.Rows L2
/-- a clause: the class it names, its name's slot, its suite's reading -/
structure Cl1 where
  c : Value
  nm : Option Nat
  ts : Addr → Value → Option Addr → TS
def Cl1.ends (k : Cl1) (E : Ends) : Ends := match k.nm with
  | none => E
  | some i => ⟨fun σ H => E.nx (σ.set i none) H, E.rt, fun σ H => E.bk (σ.set i none) H, fun σ H => E.ct (σ.set i none) H⟩
def Cl1.at_ (k : Cl1) (a : Addr) (σ : L2.St) : L2.St := match k.nm with
  | none => σ
  | some i => σ.set i (some (.ref a))
def wHds (K : PySem.W.Frag) (Wout : WX) (E : Ends) : List Cl1 → WX
  | [] => Wout
  | k :: r => fun cls d σ H => ∃ b, PySem.W.exmOne K cls k.c = some b ∧ (b = true → ∀ a, H a = none → k.ts a cls d (k.ends E) (k.at_ a σ) H) ∧ (b = false → wHds K Wout E r cls d σ H)
section
variable {X : Cx} {pins : List (Addr × Obj)} {E : Ends} {st : Shared}
/-- what held in a state, holds in another context of it -/
theorem sp_turn {Y : Cx} {p2 : List (Addr × Obj)} {f : PySem.Flow} (h : SP Y p2 E f st) (k : ∀ σ H, Inv Y p2 σ H st → Inv X pins σ H st) : SP X pins E f st := by
  cases f with
  | next => obtain ⟨a, b, i, q⟩ := h; exact ⟨a, b, k a b i, q⟩
  | ret u => obtain ⟨v, a, b, i, q⟩ := h; exact ⟨v, a, b, k a b i, q⟩
  | brk => obtain ⟨a, b, i, q⟩ := h; exact ⟨a, b, k a b i, q⟩
  | cont => obtain ⟨a, b, i, q⟩ := h; exact ⟨a, b, k a b i, q⟩
/-- an error that was caught, in the state st -/
structure Ln (X : Cx) (pins : List (Addr × Obj)) (a : Addr) (cls : Value) (d : Option Addr) (σ : L2.St) (H : Hp) (sI : Shared) (B : Heap) (st : Shared) : Prop where
  inv : Inv X pins σ H sI
  nb : ∀ b o, sI.heap.get? b = some o → b ∉ frs X.stack → B.get? b = some o
  up : sI.heap.UpToSlots st.heap
  fly : HandSPX.FlyingZ B (X.env :: X.outer) a (Zc cls d) st.heap
  no : H a = none
  os : st.os = sI.os
  ag : AllBare st.gens
variable {a : Addr} {cls : Value} {d : Option Addr} {σ : L2.St} {H : Hp} {sI : Shared} {B : Heap}
theorem Ln.now (L : Ln X pins a cls d σ H sI B st) : Inv X pins σ H st := L.inv.landed L.nb L.fly.1 L.up L.os L.ag
theorem Ln.here (L : Ln X pins a cls d σ H sI B st) (hf : X.env.frame = some X.env.locals) :
    ∃ oe : Obj, st.heap.get? a = some oe ∧ Zc cls d oe ∧ (∃ vs, oe.data = .fields vs) ∧ Inv (X.suite a ((a, oe) :: (X.pn ++ pins))) [] σ H st := by
  obtain ⟨oe, vs, h1, h2, h3⟩ := L.fly.there
  have apart : a ∉ frs (X.env :: X.outer) := fun m => by
    obtain ⟨_, o, e, nf⟩ := L.fly.2.2.1.mem m
    cases h1.symm.trans e
    exact nf _ h3
  refine ⟨oe, h1, h2, ⟨vs, h3⟩, L.now.suite h1 h3 L.no (fun z => apart ?_) (fun m => apart ?_)⟩
  · exact List.mem_filterMap.mpr ⟨X.env, .head _, by rw [hf, z]⟩
  · obtain ⟨e, m1, m2⟩ := List.mem_filterMap.mp m
    exact List.mem_filterMap.mpr ⟨e, .tail _ m1, m2⟩
theorem Ln.again (L : Ln X pins a cls d σ H sI B st) {h' : Heap} (f : HandSPX.FlyingZ B (X.env :: X.outer) a (Zc cls d) h') (u : st.heap.UpToSlots h') : Ln X pins a cls d σ H sI B { st with heap := h' } :=
  ⟨L.inv, L.nb, L.up.trans u, f, L.no, L.os, L.ag⟩
/-- no clause is left: it goes on -/
theorem Ln.on {W : WX} (L : Ln X pins a cls d σ H sI B st) (hs : X.stack = X.env :: X.outer) (hf : X.env.frame = some X.env.locals) (tk : Takes X W) (w : W cls d σ H) :
    wpAny (model X.prog X.w) X.A (handleBy (.ref a) X.env []) (SP X pins E) X.xe st := by
  have key : wpAny (model X.prog X.w) X.A (setFlight (.ref a) X.env.frame) (fun _ s => wpAny (model X.prog X.w) X.A (throw (.ref a) : Sem PySem.Flow) (SP X pins E) X.xe s) X.xe st := by
    rw [hf]
    refine HandSPX.setFlight_upZ L.fly fun h hh u => wpAny_throw (tk _ _ ⟨a, B, sI, pins, σ, H, cls, d, rfl, L.inv, L.nb, L.up.trans u, ?_, L.no, L.os, L.ag, w⟩)
    rw [hs]
    exact .inr (.inr hh)
  obtain ⟨_, _, _, oe, vs, T, _, _, g1, _, g2, g3, _⟩ := id L.fly
  refine wpAny_handleBy_nil ?_
  unfold PySem.passOn
  refine wpAny_bind (wpAny_field g1 g2 g3 ?_)
  have ne : ¬ ((Value.ref T == Value.none) = true) := by simp
  rw [if_neg ne]
  first
    | exact wpAny_bind key
    | exact wpAny_bind (wpAny_pure (wpAny_bind key))
/-- a clause's class, read -/
theorem Ln.rd (L : Ln X pins a cls d σ H sI B st) (hf : X.env.frame = some X.env.locals) {x : Str} {c : Value} {np : Pos} (hc : Names X x c) {Q : Value → Shared → Prop} {R : Value → Shared → Prop} (q : Q c st) :
    wpAny (model X.prog X.w) (X.A.mark (some (.ref a))) (eval (.Name x np) X.env) Q R st := by
  obtain ⟨oe, _, _, _, S⟩ := L.here hf
  obtain ⟨g, g2, m | ⟨m, v, n⟩⟩ := hc
  · exact ld_glob (X := X.suite a ((a, oe) :: (X.pn ++ pins))) S g m q g2
  · exact ld_blt (X := X.suite a ((a, oe) :: (X.pn ++ pins))) S g m v q n g2
/-- .. and held against the error -/
theorem Ln.mat (L : Ln X pins a cls d σ H sI B st) (hf : X.env.frame = some X.env.locals) {c : Value} {b : Bool} (hb : PySem.W.exmOne X.K cls c = some b) {A : Around} {Q : Bool → Shared → Prop} {R : Value → Shared → Prop} (q : Q b st) :
    wpAny (model X.prog X.w) A (excMatches (.ref a) c) Q R st := by
  obtain ⟨oe, h1, h2, _, _⟩ := L.here hf
  have ty : PySem.W.Looks (model X.prog X.w) st.heap (typeOf (.ref a)) cls := fun _ _ _ _ k q => wpAny_typeOf_ref (k _ _ h1) (h2.1 ▸ q)
  exact (PySem.W.exm_one (M := model X.prog X.w) L.now.kIn ty hb).here q
theorem Ln.clause (L : Ln X pins a cls d σ H sI B st) (hs : X.stack = X.env :: X.outer) (hf : X.env.frame = some X.env.locals) {x : Str} {k : Cl1} {np p : Pos} {b : Bool} {nm : Option Str} {suite : List Stmt} {b₀ : Stmt} {rest : List ExceptHandler} (hc : Names X x k.c) (hb : PySem.W.exmOne X.K cls k.c = some b)
    (hn : (nm = none ∧ k.nm = none) ∨ ∃ n i, nm = some n ∧ k.nm = some i ∧ X.N.Nodup ∧ X.N[i]? = some n ∧ X.env.kindOf n = some .local)
    (hsu : ∀ (oe : Obj) (pn : List (Addr × Obj)), Zc cls d oe → (∃ vs, oe.data = .fields vs) → PSs (X.suite a ((a, oe) :: pn)) (b₀ :: suite) (k.ts a cls d))
    (hyes : b = true → k.ts a cls d (k.ends E) (k.at_ a σ) H) (hno : b = false → wpAny (model X.prog X.w) X.A (handleBy (.ref a) X.env rest) (SP X pins E) X.xe st) :
    wpAny (model X.prog X.w) X.A (handleBy (.ref a) X.env (.ExceptHandler (some (.Name x np)) nm (b₀ :: suite) p :: rest)) (SP X pins E) X.xe st := by
  have ok := L.inv.ok
  refine wpAny_handleBy_cons (codeAny_handlers_test (L.rd hf hc (L.mat hf hb ?_))) (by intro z; cases z)
  cases b with
  | false => exact hno rfl
  | true =>
    have go := hyes rfl
    obtain ⟨c, kn, ts⟩ := k
    rcases hn with ⟨rfl, e⟩ | ⟨n, i, rfl, e, nd, hi, hl⟩
    · have e : kn = none := e
      subst e
      refine codeAny_handlers_suite (HandSPX.lands_againZ L.fly fun h' f u => ?_)
      obtain ⟨oe, h1, h2, h3, S⟩ := (L.again f u).here hf
      exact wpAny_mono ((hsu oe _ h2 h3).run [] _ _ H _ S go) (fun f s z => sp_turn z fun _ _ I => I.unsuite ok) fun _ _ z => z.elim
    · have e : kn = some i := e
      subst e
      refine codeAny_handlers_suite_as (HandSPX.lands_againZ L.fly fun h' f u => ?_)
      obtain ⟨oe, h1, h2, h3, S⟩ := (L.again f u).here hf
      refine store_ok (X := X.suite a ((a, oe) :: (X.pn ++ pins))) (v := .ref a) S nd hi (.inl hl) rfl (fun s5 S5 => ?_) (.inr hl)
      refine wpAny_mono ((hsu oe _ h2 h3).run [] s5 _ H _ S5 go) (fun f s z => ?_) fun _ _ z => z.elim
      cases f with
      | next => obtain ⟨_, _, J, q⟩ := z; exact gone_ok (J.unsuite ok) nd hi hl fun s7 J7 => ⟨_, _, J7, q⟩
      | brk => obtain ⟨_, _, J, q⟩ := z; exact gone_ok (J.unsuite ok) nd hi hl fun s7 J7 => ⟨_, _, J7, q⟩
      | cont => obtain ⟨_, _, J, q⟩ := z; exact gone_ok (J.unsuite ok) nd hi hl fun s7 J7 => ⟨_, _, J7, q⟩
      | ret v => obtain ⟨_, _, _, J, r, q⟩ := z; exact gone_ok (J.unsuite ok) nd hi hl fun s7 J7 => ⟨_, _, _, J7, r, q⟩
end
inductive HdsX (X : Cx) : List ExceptHandler → List Cl1 → Prop
  | nil : HdsX X [] []
  | cons {x : Str} {k : Cl1} {b₀ : Stmt} {suite : List Stmt} {np p : Pos} {nm : Option Str} {hds : List ExceptHandler} {l : List Cl1} (hc : Names X x k.c)
      (hn : (nm = none ∧ k.nm = none) ∨ ∃ n i, nm = some n ∧ k.nm = some i ∧ X.N.Nodup ∧ X.N[i]? = some n ∧ X.env.kindOf n = some .local)
      (hsu : ∀ (a : Addr) (oe : Obj) (cls : Value) (d : Option Addr) (pn : List (Addr × Obj)), Zc cls d oe → (∃ vs, oe.data = .fields vs) → PSs (X.suite a ((a, oe) :: pn)) (b₀ :: suite) (k.ts a cls d)) (r : HdsX X hds l) :
      HdsX X (.ExceptHandler (some (.Name x np)) nm (b₀ :: suite) p :: hds) (k :: l)
section
variable {X : Cx} {body : List Stmt} {h₀ : ExceptHandler} {hds : List ExceptHandler} {l : List Cl1} {pos : Pos} {tb : WX → TS} {Wout : WX}
theorem hds_run {pins : List (Addr × Obj)} {E : Ends} {st : Shared} {a : Addr} {cls : Value} {d : Option Addr} {σ : L2.St} {H : Hp} {sI : Shared} {B : Heap} (L : Ln X pins a cls d σ H sI B st) (hs : X.stack = X.env :: X.outer) (hf : X.env.frame = some X.env.locals) (tk : Takes X Wout)
    (hh : HdsX X hds l) (w : wHds X.K Wout E l cls d σ H) : wpAny (model X.prog X.w) X.A (handleBy (.ref a) X.env hds) (SP X pins E) X.xe st := by
  induction hh with
  | nil => exact L.on hs hf tk w
  | cons hc hn hsu r ih =>
    obtain ⟨b, hb, hy, hno⟩ := w
    exact L.clause hs hf hc hb hn (fun oe pn => hsu a oe cls d pn) (fun e => hy e a L.no) fun e => ih (hno e)
/-- try: body, then clauses -/
theorem ps_tryX (hs : X.stack = X.env :: X.outer) (hf : X.env.frame = some X.env.locals) (tk : Takes X Wout)
    (hb : ∀ (W : WX) (pn : List (Addr × Obj)) (xe : Value → Shared → Prop), Takes (X.tr pn xe) W → PassesOwn (model X.prog X.w) X.A X.env xe → PSs (X.tr pn xe) body (tb W)) (hh : HdsX X (h₀ :: hds) l) :
    PS X (.Try body (h₀ :: hds) [] [] pos) (fun E σ H => tb (wHds X.K Wout E l) E σ H) := by
  refine ⟨fun pins s σ H E I h => ?_⟩
  have ok := I.ok
  have hfr : X.A.frames = some (X.env :: X.outer) := ok.frames.trans (congrArg some hs)
  let K1 : Value → Shared → Prop := fun e s₁ => wpAny (model X.prog X.w) X.A (noteFrame e X.env) (fun _ s₂ => wpAny (model X.prog X.w) X.A (setFlight e none) (fun _ s₃ => wpAny (model X.prog X.w) X.A (handleBy e X.env (h₀ :: hds)) (SP X pins E) X.xe s₃) X.xe s₂) X.xe s₁
  have T1 : Takes (X.tr (X.pn ++ pins) K1) (wHds X.K Wout E l) := by
    rintro u s' ⟨a, B, sI, pins', σ', H', cls, d, rfl, J', nb, up, sky, na, os, ag, w⟩
    have sky' : Sky B (X.env :: X.outer) a (Zc cls d) X.env.locals s'.heap := by rw [← hs]; exact sky
    refine Sky.land Zc.steady hfr hf sky' fun h3 f3 u3 => ?_
    have L : Ln X pins a cls d σ' H' sI B { s' with heap := h3 } := ⟨J'.ofTry ok, nb, up.trans u3, f3, na, os, ag⟩
    exact hds_run L hs hf tk hh w
  refine wpAny_Try_except (wpAny_mono ((hb _ _ K1 T1 PassesOwn.looking).run [] s σ H E (I.toTry _) h) (fun f s1 z => ?_) fun _ _ z => z)
  have z' : SP X pins E f s1 := sp_turn z fun _ _ J => J.ofTry ok
  cases f with
  | next => exact wpAny_execs_nil z'
  | ret v => exact z'
  | brk => exact z'
  | cont => exact z'
end
end EF

/-! FE: isinstance of an error that has a dict. -/
namespace EF
open PySem PySem.Spec PyProof.Rows L2
open PySem.W PySem.Calls
section
variable {prog : Program} {w : World} {A : Around} {E : Value → Shared → Prop} {K : Frag} {x D : Addr} {ox : Obj} {od : Option Obj}
theorem clsFound (Z : ExcC K D) : findObj K D od "__class__" = some (.bind (.builtin "getset_descriptor.__get__") (.builtin "object.__class__")) := by
  obtain ⟨cd, h1, _⟩ := any_some Z.hd
  unfold findObj
  rw [h1]
  simp only [Option.bind_some, Z.ha, Z.hn, Z.ht]
/-- BaseException.__getattribute__ at "__class__" -/
theorem ga_cls {hp : Heap} {g : Array GenState} {dr : Drawn} {t tk : Nat} {os : OsState} {Q : Value → Shared → Prop} (Z : ExcC K D) (X : K.In hp) (I : InstAt hp x ox D od) (q : Q (.ref D) ⟨hp, g, dr, t, os⟩) :
    wpAny (model prog w) A (call (.builtin "BaseException.__getattribute__") [.ref x, .str "__class__" tk]) Q E ⟨hp, g, dr, t, os⟩ := by
  have ty := I.type (M := model prog w)
  have fd := looks_find (M := model prog w) X I (clsFound Z)
  refine wpAny_call (codeAny_call_builtin PySem.F.excAttr_ValueError.ga.plain PySem.F.entry_bexc_ga ?_)
  refine @check_slot (model prog w) _ _ ⟨hp, g, dr, t, os⟩ "BaseException.__getattribute__" "BaseException" "__getattribute__" (.ref x) [.str "__class__" tk] [] _ (by decide +kernel) (by decide +kernel) (ty.andThen (looks_subIn X Z.hs)) (PySem.F.args_bexc_ga (.ref x) (.str "__class__" tk)) ?_
  unfold Builtin.«object.__getattribute__»
  refine wpAny_bind (wpAny_of_eq (show _ = pure ((Value.ref x : Value), [Value.str "__class__" tk]) by first | rfl | (simp only [slotArgs]; rfl)) ?_)
  refine wpAny_bind (wpAny_pure (wpAny_bind (ty.at (wpAny_bind (fd.at ?_)))))
  refine wpAny_bind (m := holding _ (call _ _)) (wpAny_holding (wpAny_call (class_get X I Z.hm ?_)))
  refine wpAny_pure ?_
  have hh : handedOut (Value.ref D) = pure (Value.ref D) := handedOut_of rfl
  first
    | exact q
    | (show wpAny _ _ (handedOut (.ref D)) _ _ _; rw [hh]; first | exact wpAny_pure q | exact wpAny_pure (wpAny_pure q))
/-- getattr(x, "__class__") -/
theorem kin_clsD {s : Shared} {Q : Option Value → Shared → Prop} (Z : ExcC K D) (X : K.In s.heap) (I : InstAt s.heap x ox D od) (q : Q (some (.ref D)) { s with toks := s.toks + 1 }) : wpAny (model prog w) A (getAttr? (.ref x) "__class__") Q E s := by
  obtain ⟨hp, g, dr, t, os⟩ := s
  have ty := I.type (M := model prog w)
  have no : (Value.builtin "BaseException.__getattribute__" == Value.builtin "object.__getattribute__") = false := by decide +kernel
  unfold getAttr? getAttrBy? getAttrBy
  refine wpAny_bind (wpAny_mkText (wpAny_bind (wpAny_attempt (wpAny_holding (wpAny_bind (ty.at (wpAny_bind ((looks_findIn X Z.hg).at ?_))))))))
  have c1 : (onTheHeap (Value.ref D) && Value.builtin "BaseException.__getattribute__" == Value.builtin "object.__getattribute__") = false := by rw [no, Bool.and_false]
  dsimp only
  rw [if_neg (fun z => absurd (c1.symm.trans z) (by decide))]
  unfold getAttrByItsOwn hookBefore
  refine wpAny_bind ?_
  have on : onTheHeap (Value.ref D) = true := rfl
  rw [if_pos on]
  refine (looks_findIn X Z.hk).at (wpAny_bind (wpAny_attempt (wpAny_holding ?_)))
  unfold callGetattribute
  have c2 : (false && onTheHeap (Value.builtin "BaseException.__getattribute__")) = false := rfl
  rw [if_neg (fun z => absurd (c2.symm.trans z) (by decide))]
  unfold boundAndCalled
  have bd := PySem.F.excAttr_ValueError.ga.bind (.ref x)
  rw [bd]
  refine wpAny_bind (wpAny_pure (ga_cls Z X I ?_))
  first
    | exact wpAny_pure (wpAny_pure q)
    | exact wpAny_pure q
    | exact wpAny_pure (wpAny_bind (wpAny_pure (wpAny_pure q)))
    | exact q
theorem kitD (Z : ExcC K D) : KitX K (.ref x) (.ref D) (fun h => InstAt h x ox D od) := by
  obtain ⟨cd, hc, _⟩ := any_some Z.hd
  obtain ⟨oD, lD, dD⟩ : ∃ oD, K.lookup D = some oD ∧ oD.data = .cls cd := by
    unfold clsIn at hc
    split at hc
    · next ho => cases hc; exact ⟨_, ho, rfl⟩
    · cases hc
  refine ⟨fun _ _ _ I => I.type, fun _ _ X _ => fun A Q E s k q => ?_, fun h tp dd its n sl X e => ?_, fun X I q => kin_clsD Z X I q⟩
  · unfold isType loadHead
    refine wpAny_bind (wpAny_loadPart (k _ _ (X _ _ lD)) ?_)
    rw [dD]
    exact wpAny_pure q
  · refine Bool.eq_false_iff.mpr fun z => ?_
    cases Value.ref.inj (beq_iff_eq.mp z)
    have := (X _ _ lD).symm.trans e
    cases this
    cases dD
end
end EF

/-! FF: what a clause gives; try. -/
namespace EF
open PySem PySem.Spec PyProof.Rows L2

section
variable {X : Cx} {a D dd : Addr} {oe : Obj} {pn : List (Addr × Obj)}
def rIsD (K : PySem.W.Frag) (D a dd : Addr) : List V → Hp → VK → Prop := fun xs H Q => ∃ (c : V) (cv : Value) (b : Bool) (fs : List (Str × V)), xs = [.ref a, c] ∧ (∀ u, RelV c u → u = cv) ∧ PySem.W.kitOne K (.ref D) cv = some b ∧ H dd = some (.xd fs) ∧ Q (.bl b) H
theorem call_isD (C : ExcC X.K D) (hz : Zc (.ref D) (some dd) oe) (hf : ∃ vs, oe.data = .fields vs) : CallR (X.suite a ((a, oe) :: pn)) (.builtin "isinstance") (rIsD X.K D a dd) := by
  intro pins s σ H xs us Q I r h
  obtain ⟨c, cv, b, fs, rfl, hcv, e, hd, q⟩ := h
  cases r with
  | cons rx rr =>
    cases rr with
    | cons rt rr =>
      cases rr
      cases rx
      have ec := hcv _ rt
      subst ec
      obtain ⟨hget, _⟩ := I.pin (a, oe) (List.mem_append.mpr (.inl List.mem_cons_self))
      obtain ⟨vs, hv⟩ := hf
      have hx : ObjOk X.prog X.w H s.heap dd (.xd fs) := I.hok dd _ hd
      obtain ⟨mA, hns, hr⟩ := hx
      obtain ⟨od, ho, hl⟩ := lookIn_ns hns
      have J : PySem.W.InstAt s.heap a oe D (some od) := ⟨hget, hz.1, by unfold PySem.W.notCls; rw [hv] <;> rfl, by rw [hz.2]; exact ho⟩
      exact PySem.W.kia_one (kitD C) I.kIn J e (fun z => nomatch z) fun tk => ⟨.bl b, H, I.kept (t' := tk) fun _ _ z => z, rfl, q⟩
theorem PE.wkI {e : Expr} {t t' : TE} (h : PE X e t) (i : ∀ (σ : L2.St) (H : Hp) (Q : VK), σ.length = X.N.length → t' σ H Q → t σ H Q) : PE X e t' := ⟨fun pins s σ H Q I hw => h.run pins s σ H Q I (i _ _ _ I.len hw)⟩
theorem PE.never {e : Expr} {t : TE} (i : ∀ (σ : L2.St) (H : Hp) (Q : VK), t σ H Q → False) : PE X e t := ⟨fun pins s σ H Q I hw => (i _ _ _ hw).elim⟩
theorem PA.never {es : List Expr} {t : TA} (i : ∀ (σ : L2.St) (H : Hp) (Q : List V → Hp → Prop), t σ H Q → False) : PA X es t := ⟨fun p pins s σ H Q I hw => (i _ _ _ hw).elim⟩
end

/-- the errors' part of what the whole leans on -/
structure FtE (P : Program) (w : World) (K : PySem.W.Frag) (mg : Str → Option Value) (base : Heap) (A : Around) (G : Gx) (T : Tab) (tp : Top) : Prop where
  err : ∀ c, G.nC ≤ c → c < tp.nE → mg (tp.enm c) = some (.ref (G.cad c)) ∧ ErrK P w K base G T c
  room : A.depth + 2 < recursionLimit
  xf : ∀ c, G.nC ≤ c → c < tp.nE → XfC K (G.cad c) ∧ ExcC K (G.cad c)
  nof : ∀ c f, G.nC ≤ c → c < tp.nE → f < tp.nfl → PySem.W.findIn K (.ref (G.cad c)) (G.fld f) = some none
  sub : ∀ c c' b, T.sub c c' = some b → (G.nC ≤ c ∧ c < tp.nE) ∧ PySem.W.exmOne K (.ref (G.cad c)) (.ref (G.cad c')) = some b ∧ PySem.W.kitOne K (.ref (G.cad c)) (.ref (G.cad c')) = some b
def isEB (tp : Top) (nC c : Nat) : Bool := decide (nC ≤ c) && decide (c < tp.nE)
/-- the reading of what a clause gives: the error stands at a -/
def tH (G : Gx) (n0 : Nat) (tp : Top) {α β : Type} (R : Sit → α → β → Prop) (nm : Option Nat) (a : Addr) (cls : Value) (dx : Option Addr) (ev : Exn → Option α) : L2.St → Hp → (β → Hp → Prop) → Prop := fun σ H Q =>
  ∃ (y : Sit) (q : Exn) (d : α), y.H = H ∧ OkS G n0 y ∧ ERep G y q cls dx ∧ (∀ i, nm = some i → i < σ.length → σ[i]? = some (some (.ref a))) ∧ (G.nC ≤ q.C ∧ q.C < tp.nE) ∧ ev q = some d ∧
    ∀ (b : β) (z : Sit), z.ν = y.ν → Ext n0 y z → OkS G n0 z → R z d b → Q b z.H
section
variable (tp : Top) (nC : Nat)
def heNm (C : Ck) (nm : Option Nat) (y : Str) : Bool := match nm with
  | some i => visB C i y
  | none => false
mutual
def chkHe (C : Ck) (nm : Option Nat) : He → Expr → Bool
  | .lit d, x => match x with
    | .Constant c _ _ => litB d c
    | _ => false
  | .attr f, x => match x with
    | .Attribute (.Name y _) n _ => heNm C nm y && decide (f < tp.nfl) && decide (n = tp.fld f)
    | _ => false
  | .isi c, x => match x with
    | .Call (.Name y _) [.Name z _, .Name w _] [] _ => glB C y && decide (y = ("isinstance" : Str)) && heNm C nm z && glB C w && isEB tp nC c && decide (w = tp.enm c)
    | _ => false
  | .lst es, x => match x with
    | .List xs _ => decide (xs.length < 100) && chkHes C nm es xs
    | _ => false
def chkHes (C : Ck) (nm : Option Nat) : Hes → List Expr → Bool
  | .nil, xs => xs.isEmpty
  | .cons e r, xs => match xs with
    | x :: xs => chkHe C nm e x && chkHes C nm r xs
    | [] => false
end
theorem heStar {C : Ck} {nm : Option Nat} {e : He} {x : Expr} (h : chkHe tp nC C nm e x = true) (xs : List Expr) (env : PySem.Env) : starEach (x :: xs) env = (false, eval x env) :: starEach xs env := by
  cases x with
  | Starred z p => cases e <;> cases h
  | _ => rfl
end
theorem ERep.mono {G : Gx} {n0 : Nat} {y z : Sit} {q : Exn} {c : Value} {dx : Option Addr} (e : Ext n0 y z) (h : ERep G y q c dx) : ERep G z q c dx := by
  obtain ⟨dd, fs, h1, h2, h3, h4, h5⟩ := h
  exact ⟨dd, fs, h1, h2, (e.s _ _ h3).xd, h4, e.reps h5⟩
section
variable {G : Gx} {n0 : Nat} {T : Tab} {tp : Top} {X : Cx} {C : Ck} {W : WX} {F F1 : Nat → List D → M D} {nm : Option Nat} {a : Addr} {oe : Obj} {pn : List (Addr × Obj)} {cls : Value} {dx : Option Addr}
theorem heAt (S : Sn X C W G T tp F F1) {y : Str} (h : heNm C nm y = true) : ∃ i, nm = some i ∧ X.N[i]? = some y ∧ Vis X.env.scope y ∧ (y == ("__debug__" : Str)) = false ∧ (y == ("__classdict__" : Str)) = false := by
  unfold heNm at h
  split at h
  · next i => exact ⟨i, rfl, S.vis h⟩
  · cases h
theorem evHs_len : ∀ {es : Hes} {q : Exn} {ds : List D} {C : Ck} {nC : Nat} {xs : List Expr}, chkHes tp nC C nm es xs = true → evHs T q es = some ds → ds.length = xs.length
  | .nil, q, ds, C, nC, xs, h, e => by
    have e : some ([] : List D) = some ds := e
    cases e
    cases xs with
    | nil => rfl
    | cons _ _ => cases h
  | .cons e r, q, ds, C, nC, xs, h, e1 => by
    cases xs with
    | nil => cases h
    | cons x xs =>
      have h : (chkHe tp nC C nm e x && chkHes tp nC C nm r xs) = true := h
      obtain ⟨_, h2⟩ := and2 h
      unfold evHs at e1
      split at e1
      · next d ds' _ e3 =>
        cases e1
        rw [List.length_cons, List.length_cons, evHs_len h2 e3]
      · cases e1
mutual
theorem sndHe (S : Sn X C W G T tp F F1) (E : FtE X.prog X.w X.K X.mg X.base X.A G T tp) (hz : Zc cls dx oe) (hf : ∃ vs, oe.data = .fields vs) : ∀ (e : He) (x : Expr), chkHe tp G.nC C nm e x = true →
    PE (X.suite a ((a, oe) :: pn)) x (tH G n0 tp (RepR G) nm a cls dx fun q => evH T q e)
  | .lit d, x, h => by
    unfold chkHe at h
    split at h
    · obtain ⟨v, h1, h2⟩ := lit_of (X := X.suite a ((a, oe) :: pn)) (G := G) h
      refine PE.wk h1 fun σ H Q q => ?_
      obtain ⟨y, q, d', rfl, oy, _, _, _, ev, k⟩ := q
      have ev : some d = some d' := ev
      cases ev
      exact k v y rfl (.refl y) oy (h2 y)
    · cases h
  | .attr f, x, h => by
    unfold chkHe at h
    split at h
    · next y p n p2 =>
      obtain ⟨h, h3⟩ := and2 h
      obtain ⟨h1, h2⟩ := and2 h
      have h3 : n = tp.fld f := of_decide_eq_true h3
      obtain ⟨i, rfl, g1, g2, g3, g4⟩ := heAt S h1
      obtain ⟨f1, f2, f3⟩ := S.fx.fld f (of_decide_eq_true h2)
      rw [← f1] at h3
      subst h3
      by_cases hc : ∃ c, (G.nC ≤ c ∧ c < tp.nE) ∧ cls = .ref (G.cad c)
      · obtain ⟨c, hc, rfl⟩ := hc
        refine PE.wkI (pe_xf (X := X) (a := a) (C := G.cad c) (pn := pn) (d := dx) (te := tVar i) (E.xf c hc.1 hc.2).1 (E.nof c f hc.1 hc.2 (of_decide_eq_true h2)) hz hf (pe_var (X := X.suite a ((a, oe) :: pn)) g1 g2 g3 g4)) fun σ H Q hl q => ?_
        obtain ⟨y, q, d, rfl, oy, er, hs, _, ev, k⟩ := q
        have hi : i < σ.length := by rw [hl]; exact (List.getElem?_eq_some_iff.mp g1).1
        obtain ⟨dd, fs, e1, e2, e3, e4, e5⟩ := er
        have ev : fldAt f q.ns q.vs = some d := ev
        obtain ⟨v, l1, l2⟩ := fldAt_ok f3 e4 e5 ev
        exact ⟨.ref a, hs i rfl hi, rfl, rfl, dd, fs, v, e2, oy.sub _ _ e3, l1, k v y rfl (.refl y) oy l2⟩
      · refine PE.never fun σ H Q q => hc ?_
        obtain ⟨y, q, d, rfl, oy, er, hs, hq, ev, k⟩ := q
        obtain ⟨dd, fs, e1, e2, e3, e4, e5⟩ := er
        exact ⟨q.C, hq, e1⟩
    · cases h
  | .isi c', x, h => by
    unfold chkHe at h
    split at h
    · next y p z p2 w p3 p4 =>
      obtain ⟨h, h6⟩ := and2 h
      obtain ⟨h, h5⟩ := and2 h
      obtain ⟨h, h4⟩ := and2 h
      obtain ⟨h, h3⟩ := and2 h
      obtain ⟨h1, h2⟩ := and2 h
      have h2 : y = ("isinstance" : Str) := of_decide_eq_true h2
      subst h2
      have h6 : w = tp.enm c' := of_decide_eq_true h6
      subst h6
      unfold isEB at h5
      obtain ⟨h5, h5'⟩ := and2 h5
      obtain ⟨i, rfl, g1, g2, g3, g4⟩ := heAt S h3
      obtain ⟨u1, u2⟩ := S.gl h1
      obtain ⟨w1, w2⟩ := S.gl h4
      by_cases hc : ∃ c dd, (G.nC ≤ c ∧ c < tp.nE) ∧ cls = .ref (G.cad c) ∧ dx = some dd
      · obtain ⟨c, dd, hc, rfl, rfl⟩ := hc
        refine PE.wkI (pe_callB (call_isD (X := X) (pn := pn) (E.xf c hc.1 hc.2).2 hz hf) u1 S.fx.isi boot_isi (pa_cons (pe_var (X := X.suite a ((a, oe) :: pn)) g1 g2 g3 g4) (pa_cons (pe_glob (X := X.suite a ((a, oe) :: pn)) w1 (E.err c' (of_decide_eq_true h5) (of_decide_eq_true h5')).1 (v := .ref (G.cad c')) rfl w2) pa_nil))) fun σ H Q hl q => ?_
        obtain ⟨y, q, d, rfl, oy, er, hs, _, ev, k⟩ := q
        have hi : i < σ.length := by rw [hl]; exact (List.getElem?_eq_some_iff.mp g1).1
        obtain ⟨dd', fs, e1, e2, e3, e4, e5⟩ := er
        cases e2
        have ev : (T.sub q.C c').map D.bl = some d := ev
        cases hb : T.sub q.C c' with
        | none => rw [hb] at ev; cases ev
        | some b =>
          rw [hb] at ev
          cases ev
          obtain ⟨_, _, s3⟩ := E.sub _ _ _ hb
          refine ⟨.ref a, hs i rfl hi, .ref (G.cad c'), .ref (G.cad c'), b, fs, rfl, fun u hu => hu, ?_, oy.sub _ _ e3, k (.bl b) y rfl (.refl y) oy (.bl b)⟩
          rw [e1]
          exact s3
      · refine PE.never fun σ H Q q => hc ?_
        obtain ⟨y, q, d, rfl, oy, er, hs, hq, ev, k⟩ := q
        obtain ⟨dd, fs, e1, e2, e3, e4, e5⟩ := er
        exact ⟨q.C, dd, hq, e1, e2⟩
    · cases h
  | .lst es, x, h => by
    unfold chkHe at h
    split at h
    · next xs p =>
      obtain ⟨h0, h⟩ := and2 h
      have h0 : xs.length < 100 := of_decide_eq_true h0
      refine PE.wk (pe_lst (sndHes S E hz hf es xs h)) fun σ H Q q => ?_
      obtain ⟨y, q, d, rfl, oy, er, hs, hq, ev, k⟩ := q
      have ev : (evHs T q es).map D.lst = some d := ev
      cases he : evHs T q es with
      | none => rw [he] at ev; cases ev
      | some ds =>
        rw [he] at ev
        cases ev
        refine ⟨y, q, ds, rfl, oy, er, hs, hq, he, fun vs z hz ez oz rz => ?_⟩
        refine ⟨by rw [← rz.length, evHs_len h he, sizeLine_eq]; omega, fun p np => ?_⟩
        obtain ⟨e1, e2, e3⟩ := oz.lay np (d := .lst ds) (.lst rz)
        exact k (.ref p) ⟨upd z.S p (.lst vs), upd z.H p (.lst vs), z.ρ, z.ν⟩ hz (ez.trans e1) e2 e3
    · cases h
theorem sndHes (S : Sn X C W G T tp F F1) (E : FtE X.prog X.w X.K X.mg X.base X.A G T tp) (hz : Zc cls dx oe) (hf : ∃ vs, oe.data = .fields vs) : ∀ (es : Hes) (xs : List Expr), chkHes tp G.nC C nm es xs = true →
    PA (X.suite a ((a, oe) :: pn)) xs (tH G n0 tp (RepsR G) nm a cls dx fun q => evHs T q es)
  | .nil, xs, h => by
    cases xs with
    | nil =>
      refine PA.wk pa_nil fun σ H Q q => ?_
      obtain ⟨y, q, d, rfl, oy, er, hs, hq, ev, k⟩ := q
      have ev : some ([] : List D) = some d := ev
      cases ev
      exact k [] y rfl (.refl y) oy .nil
    | cons _ _ => cases h
  | .cons e r, xs, h => by
    cases xs with
    | nil => cases h
    | cons x xs =>
      have h : (chkHe tp G.nC C nm e x && chkHes tp G.nC C nm r xs) = true := h
      obtain ⟨h1, h2⟩ := and2 h
      refine PA.wk (pa_cons (sndHe S E hz hf e x h1) (sndHes S E hz hf r xs h2) (heStar tp G.nC h1 xs _)) fun σ H Q q => ?_
      obtain ⟨y, q, d, rfl, oy, er, hs, hq, ev, k⟩ := q
      have ev : (match evH T q e, evHs T q r with
        | some d, some ds => some (d :: ds)
        | _, _ => none) = some d := ev
      split at ev
      · next d1 ds e1 e2 =>
        cases ev
        exact ⟨y, q, d1, rfl, oy, er, hs, hq, e1, fun v z hz ez oz rz => ⟨z, q, ds, rfl, oz, er.mono ez, hs, hq, e2, fun vs u hu eu ou ru => k (v :: vs) u (hu.trans hz) (ez.trans eu) ou (.cons (eu.rep rz) ru)⟩⟩
      · cases ev
end
end
end EF

/-! FG: the check of statements. -/
namespace EF
open PySem PySem.Spec PyProof.Rows L2

def tsNames (sc : Scope) (line : Nat) (ts : List Expr) : List Str := ts.filterMap fun
  | .Name id pos => if sc.names.lookup id == some .local && pos.line == line then some id else none
  | _ => none
/-- the model's word on a, b = c, d: what names are stored from the right -/
def swB (sc : Scope) (ts vs : List Expr) : Option (Option (List Str)) :=
  if (!(ts.length == 2 || ts.length == 3) || vs.length != ts.length) = true then some none
  else if (vs.any fun | .Starred .. => true | _ => false) = true then some none
  else if ((tsNames sc ((ts.head?.map (·.pos.line)).getD 0) ts).length != ts.length || (tsNames sc ((ts.head?.map (·.pos.line)).getD 0) ts).eraseDups.length != (tsNames sc ((ts.head?.map (·.pos.line)).getD 0) ts).length) = true then some none
  else if vs.all (foldedForSure 8) = true then some none
  else if vs.all (constantsAlone 8) = true then none
  else some (some (tsNames sc ((ts.head?.map (·.pos.line)).getD 0) ts))
theorem sw_of {env : PySem.Env} (hk : env.scope.kind = .function) {ts vs : List Expr} {k k2 p p2} {r : Option (List Str)} (h : swB env.scope ts vs = some r) : swappedStores [.Tuple ts k p] (.Tuple vs k2 p2) env = pure r := by
  have hb : env.blockKind = .function := by
    unfold Env.blockKind
    rw [hk]
    rfl
  unfold swB at h
  unfold swappedStores
  simp only [hb]
  by_cases c1 : (!(ts.length == 2 || ts.length == 3) || vs.length != ts.length) = true
  · rw [if_pos c1] at h
    cases h
    rw [if_pos (by simp only [c1, Bool.true_or])]
  · rw [if_neg c1] at h
    have c1' : (!(ts.length == 2 || ts.length == 3) || vs.length != ts.length) = false := by simpa using c1
    rw [if_neg (by rw [c1']; decide)]
    by_cases c2 : (vs.any fun | .Starred .. => true | _ => false) = true
    · rw [if_pos c2] at h
      cases h
      exact if_pos c2
    · rw [if_neg c2] at h
      refine (if_neg c2).trans ?_
      by_cases c3 : ((tsNames env.scope ((ts.head?.map (·.pos.line)).getD 0) ts).length != ts.length || (tsNames env.scope ((ts.head?.map (·.pos.line)).getD 0) ts).eraseDups.length != (tsNames env.scope ((ts.head?.map (·.pos.line)).getD 0) ts).length) = true
      · rw [if_pos c3] at h
        cases h
        exact if_pos c3
      · rw [if_neg c3] at h
        refine (if_neg c3).trans ?_
        by_cases c4 : vs.all (foldedForSure 8) = true
        · rw [if_pos c4] at h
          cases h
          exact if_pos c4
        · rw [if_neg c4] at h
          refine (if_neg c4).trans ?_
          by_cases c5 : vs.all (constantsAlone 8) = true
          · rw [if_pos c5] at h
            cases h
          · rw [if_neg c5] at h
            cases h
            exact (if_neg c5).trans rfl
/-- is the value a comprehension whose name is stored within -/
def lcB (C : Ck) : Expr → Expr → Bool
  | .Name y p, .ListComp _ _ scope cpos => (some NameKind.local == C.sc.names.lookup y) && (p.line == cpos.line) && !(scope.names.any fun (n, k) => n == y && (k == .local || k == .cell))
  | _, _ => false
def isComp : E → Bool
  | .comp _ _ _ _ _ _ => true
  | _ => false
def noLc : Expr → Bool
  | .ListComp _ _ _ _ => false
  | _ => true
section
variable (tp : Top) (nC : Nat)
def nmOkB (C : Ck) (nm : Option Nat) (n : Option Str) : Bool := match nm, n with
  | none, none => true
  | some i, some y => decide (C.N[i]? = some y) && decide (C.sc.names.lookup y = some .local)
  | _, _ => false
theorem nmOk_of {C : Ck} {nm : Option Nat} {n : Option Str} (h : nmOkB C nm n = true) : (nm = none ∧ n = none) ∨ ∃ i y, nm = some i ∧ n = some y ∧ C.N[i]? = some y ∧ C.sc.names.lookup y = some .local := by
  cases nm with
  | none =>
    cases n with
    | none => exact .inl ⟨rfl, rfl⟩
    | some _ => cases h
  | some i =>
    cases n with
    | none => cases h
    | some y =>
      obtain ⟨a, b⟩ := and2 h
      exact .inr ⟨i, y, rfl, rfl, of_decide_eq_true a, of_decide_eq_true b⟩
def chkHs (C : Ck) : Hs → List ExceptHandler → Bool
  | .nil, hs => hs.isEmpty
  | .cons c nm e r, hs => match hs with
    | .ExceptHandler (some (.Name x _)) n [.Return (some ex) _] _ :: hs => glB C x && isEB tp nC c && decide (x = tp.enm c) && nmOkB C nm n && chkHe tp nC C nm e ex && chkHs C r hs
    | _ => false
def parB (C : Ck) (is : List Nat) (ts vs : List Expr) : Bool := match is, ts with
  | [i, j], [.Name y _, .Name z _] => decide (swB C.sc ts vs = some (some [y, z])) && decide (C.N[i]? = some y) && decide (C.N[j]? = some z) && decide (i ≠ j) && decide (C.sc.names.lookup y = some .local) && decide (C.sc.names.lookup z = some .local)
  | [i, j, l], [.Name y _, .Name z _, .Name w _] => decide (swB C.sc ts vs = some (some [y, z, w])) && decide (C.N[i]? = some y) && decide (C.N[j]? = some z) && decide (C.N[l]? = some w) && decide (i ≠ j) && decide (i ≠ l) && decide (j ≠ l) && decide (C.sc.names.lookup y = some .local) && decide (C.sc.names.lookup z = some .local) && decide (C.sc.names.lookup w = some .local)
  | _, _ => false
def asgB (C : Ck) : Expr → Expr → Bool
  | .Tuple ts _ _, .Tuple vs _ _ => decide (swB C.sc ts vs = some none)
  | _, _ => true
mutual
def chkS (C : Ck) : S → Stmt → Bool
  | .asg t e, x => match x with
    | .Assign [tx] v _ => tgB C t tx && (asgB C tx v && (!lcB C tx v || isComp e)) && chkE tp nC C e v
    | _ => false
  | .par is es, x => match x with
    | .Assign [.Tuple ts _ _] (.Tuple vs _ _) _ => parB C is ts vs && chkEs tp nC C es vs
    | _ => false
  | .expr e, x => match x with
    | .Expr v _ => noLc v && chkE tp nC C e v
    | _ => false
  | .ret e, x => match x with
    | .Return (some v) _ => chkE tp nC C e v
    | _ => false
  | .retN, x => match x with
    | .Return none _ => true
    | _ => false
  | .ifs c a b, x => match x with
    | .If t xs ys _ => chkE tp nC C c t && chkSs C a xs && chkSs C b ys
    | _ => false
  | .loop t it b, x => match x with
    | .For tx iter xs [] _ => chkI tp nC C it iter && tgB C t tx && chkSs C b xs
    | _ => false
  | .whl c b, x => match x with
    | .While t xs [] _ => chkE tp nC C c t && chkSs C b xs
    | _ => false
  | .raise c es, x => match x with
    | .Raise (some (.Call (.Name y _) xs [] _)) none _ => glB C y && isEB tp nC c && decide (y = tp.enm c) && chkEs tp nC C es xs
    | _ => false
  | .tri b hs, x => match x with
    | .Try xs (h :: hds) [] [] _ => chkHs tp nC C hs (h :: hds) && chkSs C b xs
    | _ => false
  | .setI o i e, x => match x with
    | .Assign [.Subscript ox ix _] v _ => chkE tp nC C o ox && chkE tp nC C i ix && chkE tp nC C e v
    | _ => false
  | .setF i f e, x => match x with
    | .Assign [.Attribute (.Name y _) n _] v _ => visB C i y && decide (f < tp.nfl) && decide (n = tp.fld f) && chkE tp nC C e v
    | _ => false
  | .pass, x => match x with
    | .Pass _ => true
    | _ => false
  | .brk, x => match x with
    | .Break _ => true
    | _ => false
  | .cont, x => match x with
    | .Continue _ => true
    | _ => false
def chkSs (C : Ck) : Ss → List Stmt → Bool
  | .nil, xs => xs.isEmpty
  | .cons s r, xs => match xs with
    | x :: xs => chkS C s x && chkSs C r xs
    | [] => false
end
end

section
variable {G : Gx} {n0 Wn : Nat} {T : Tab} {tp : Top} {F F1 : Nat → List D → M D}
structure SnS (X : Cx) (C : Ck) (W : WX) (G : Gx) (T : Tab) (tp : Top) (F F1 : Nat → List D → M D) : Prop extends Sn X C W G T tp F F1 where
  fe : FtE X.prog X.w X.K X.mg X.base X.A G T tp
  st : X.stack = X.env :: X.outer
  fr : X.env.frame = some X.env.locals
  po : PassesOwn (model X.prog X.w) X.A X.env X.xe
theorem SnS.tr {X : Cx} {C : Ck} {W W' : WX} (S : SnS X C W G T tp F F1) {pn : List (Addr × Obj)} {xe : Value → Shared → Prop} (tk : Takes (X.tr pn xe) W') (po : PassesOwn (model X.prog X.w) X.A X.env xe) : SnS (X.tr pn xe) C W' G T tp F F1 :=
  ⟨⟨S.fx, S.N, S.sc, S.fn, S.kd, S.nd, S.calm, tk⟩, S.fe, S.st, S.fr, po⟩

/-! ### clauses -/
def clOf (G : Gx) (n0 : Nat) (T : Tab) (tp : Top) : Hs → List Cl1
  | .nil => []
  | .cons c nm e r => ⟨.ref (G.cad c), nm, fun a cls dx => fun D σ H => tH G n0 tp (RepR G) nm a cls dx (fun q => evH T q e) σ H D.rt⟩ :: clOf G n0 T tp r
theorem hdsX_of {X : Cx} {C : Ck} {W : WX} (S : SnS X C W G T tp F F1) : ∀ (hs : Hs) (hds : List ExceptHandler), chkHs tp G.nC C hs hds = true → HdsX X hds (clOf G n0 T tp hs)
  | .nil, hds, h => by
    cases hds with
    | nil => exact .nil
    | cons _ _ => cases h
  | .cons c nm e r, hds, h => by
    unfold chkHs at h
    split at h
    · next x np n ex p2 p hds =>
      obtain ⟨h, h6⟩ := and2 h
      obtain ⟨h, h5⟩ := and2 h
      obtain ⟨h, h4⟩ := and2 h
      obtain ⟨h, h3⟩ := and2 h
      obtain ⟨h1, h2⟩ := and2 h
      unfold isEB at h2
      obtain ⟨h2, h2'⟩ := and2 h2
      have h3 : x = tp.enm c := of_decide_eq_true h3
      subst h3
      obtain ⟨g1, g2⟩ := S.gl h1
      refine .cons (k := ⟨.ref (G.cad c), nm, _⟩) ⟨g1, g2, .inl (S.fe.err c (of_decide_eq_true h2) (of_decide_eq_true h2')).1⟩ ?_ (fun a oe cls d pn hz hf => ?_) (hdsX_of S r hds h6)
      · rcases nmOk_of h4 with ⟨rfl, rfl⟩ | ⟨i, y, rfl, rfl, a1, a2⟩
        · exact .inl ⟨rfl, rfl⟩
        · refine .inr ⟨y, i, rfl, rfl, S.nd, by rw [S.N]; exact a1, ?_⟩
          show X.env.scope.names.lookup y = some .local
          rw [S.sc]
          exact a2
      · exact pss_one (ps_ret (sndHe S.toSn S.fe hz hf e ex h5))
    · cases h
theorem handle_cons {q : Exn} {env : Env} {c : Nat} {nm : Option Nat} {e : He} {r : Hs} : handle T q env (.cons c nm e r) = (match T.sub q.C c with
    | some true => (match evH T q e with
      | some d => MF.pure (.rt d)
      | none => MF.fail)
    | some false => handle T q env r
    | none => MF.fail) := rfl
theorem wHds_of {X : Cx} {C : Ck} {W : WX} (S : SnS X C W G T tp F F1) {E : Ends} {q : Exn} {env : Env} {c : Value} {dx : Option Addr} {σ : L2.St} {y : Sit} (oy : OkS G n0 y) (en : EnvOk G y σ env) (er : ERep G y q c dx) : ∀ (hs : Hs), AfterS G n0 W y (handle T q env hs) E → wHds X.K W E (clOf G n0 T tp hs) c dx σ y.H
  | .nil, h => h.exOf (env' := env) (ν' := y.ν) rfl c dx σ y rfl (.refl y) oy en er
  | .cons c' nm e r, h => by
    cases hb : T.sub q.C c' with
    | none => exact (h.nonOf (by rw [handle_cons, hb] <;> rfl)).elim
    | some b =>
      obtain ⟨hq, s2, _⟩ := S.fe.sub _ _ _ hb
      obtain ⟨dd, fs, e1, e2, e3, e4, e5⟩ := id er
      refine ⟨b, by rw [e1]; exact s2, fun hb1 a na => ?_, fun hb0 => ?_⟩
      · subst hb1
        cases hv : evH T q e with
        | none => exact (h.nonOf (by rw [handle_cons, hb]; simp only [hv]; rfl)).elim
        | some d =>
          refine ⟨y, q, d, rfl, oy, er, fun i hi hl => ?_, hq, hv, fun v z hz ez oz rz => ?_⟩
          · have hi : nm = some i := hi
            subst hi
            show (σ.set i (some (V.ref a)))[i]? = _
            have hl : i < σ.length := by
              have hl : i < (σ.set i (some (V.ref a))).length := hl
              simpa using hl
            rw [List.getElem?_set_self hl]
          · have := h.rtOf (d := d) (ν' := y.ν) (by rw [handle_cons, hb]; simp only [hv]; rfl) v z hz ez oz rz
            cases nm <;> exact this
      · subst hb0
        refine wHds_of S oy en er r (h.from (.refl y) (by rw [handle_cons, hb]))
theorem s_tri {X : Cx} {C : Ck} {W : WX} (S : SnS X C W G T tp F F1) {m : Env → MF} {body : List Stmt} {h₀ : ExceptHandler} {hds : List ExceptHandler} {hs : Hs} {pos : Pos} (hh : chkHs tp G.nC C hs (h₀ :: hds) = true)
    (hb : ∀ {Y : Cx} {W' : WX}, SnS Y C W' G T tp F F1 → PSs Y body (tofS G n0 W' m)) : PS X (.Try body (h₀ :: hds) [] [] pos) (tofS G n0 W fun env => fun ν => triK (fun q env' => handle T q env' hs) (m env ν)) := by
  refine PS.wk (ps_tryX (tb := fun W' => tofS G n0 W' m) S.st S.fr S.tk (fun W' pn xe tk po => hb (S.tr tk po)) (hdsX_of (n0 := n0) S hs _ hh)) fun D σ H h => ?_
  obtain ⟨x, env, rfl, ok, en, h⟩ := h
  refine ⟨x, env, rfl, ok, en, .mk (fun z => h.nonOf (by show triK _ (m env x.ν) = none; rw [z]; rfl)) (fun env' ν' z => h.nxOf (by show triK _ (m env x.ν) = _; rw [z]; rfl)) (fun env' ν' z => h.bkOf (by show triK _ (m env x.ν) = _; rw [z]; rfl)) (fun env' ν' z => h.ctOf (by show triK _ (m env x.ν) = _; rw [z]; rfl)) (fun d ν' z => h.rtOf (by show triK _ (m env x.ν) = _; rw [z]; rfl)) (fun q env' ν' z c dx σ' y hy ey oy eny er => ?_)⟩
  exact wHds_of S oy eny er hs (h.from ey (by show triK _ (m env x.ν) = _; rw [z, ← hy]; rfl))

/-! ### the theorem -/
theorem lc_of {X : Cx} {C : Ck} {W : WX} (S : Sn X C W G T tp F F1) {e : E} {v tx : Expr} {l : Nat} (h : chkE tp G.nC C e v = true) : swapsWith v (some tx) l X.env = pure (lcB C tx v) := by
  have hb : X.env.blockKind = .function := by
    unfold Env.blockKind
    rw [S.sc, S.kd]
    rfl
  cases v with
  | ListComp elt gs scope cpos =>
    cases tx with
    | Name y p =>
      unfold swapsWith lcB
      simp only [hb, Expr.pos, Env.kindOf, S.sc]
      have : (some NameKind.local == C.sc.names.lookup y) = (C.sc.names.lookup y == some NameKind.local) := by
        cases h : C.sc.names.lookup y with
        | none => rfl
        | some k => cases k <;> rfl
      rw [this]
      rfl
    | _ => rfl
  | SetComp _ _ _ _ => cases e <;> cases h
  | DictComp _ _ _ _ _ => cases e <;> cases h
  | _ => cases tx <;> rfl
theorem ex_of {X : Cx} {C : Ck} {e : E} {v : Expr} {l : Nat} (h : chkE tp G.nC C e v = true) (hn : noLc v = true) : swapsWith v none l X.env = pure false := by
  cases v with
  | ListComp elt gs scope cpos => cases hn
  | SetComp _ _ _ _ => cases e <;> cases h
  | DictComp _ _ _ _ _ => cases e <;> cases h
  | _ => rfl
end
end EF

set_option maxHeartbeats 8000000
/-! FH: the check is sound: statements. -/
namespace EF
open PySem PySem.Spec PyProof.Rows L2

section
variable {G : Gx} {n0 Wn : Nat} {T : Tab} {tp : Top} {F F1 : Nat → List D → M D}
theorem asgEach1 {e : E} {tx : Expr} {t : Tg} {C : Ck} {env : PySem.Env} (h : tgB C t tx = true) : (assignEach [tx] env).map (·.2) = [assign tx env] := by
  cases tx with
  | Starred _ _ => cases t <;> cases h
  | _ => rfl
theorem lc_is {C : Ck} {e : E} {tx v : Expr} {nC : Nat} (h : chkE tp nC C e v = true) (hl : lcB C tx v = true) (hc : isComp e = true) : ∃ y p elt gs scope cpos nw el tg it cd own, tx = .Name y p ∧ v = .ListComp elt gs scope cpos ∧ e = .comp nw el tg it cd own := by
  unfold lcB at hl
  split at hl
  · cases e <;> first | exact ⟨_, _, _, _, _, _, _, _, _, _, _, _, rfl, rfl, rfl⟩ | cases hc
  · cases hl
theorem sn_setLc {X : Cx} {C : Ck} {W : WX} (S : Sn X C W G T tp F F1) {y : Str} {p pos : Pos} {v : Expr} {e : E} {t : Tg} (ht : tgB C t (.Name y p) = true) (h : chkE tp G.nC C e v = true) (hl : lcB C (.Name y p) v = true) (hc : isComp e = true) :
    PS X (.Assign [.Name y p] v pos) (tofS G n0 W fun env => evS T F F1 n0 Wn env (.asg t e)) := by
  obtain ⟨y', p', elt, gs, scope, cpos, nw, el, tg, it, cd, own, e1, e2, e3⟩ := lc_is h hl hc
  cases e1
  subst e2 e3
  cases t with
  | tp is => cases ht
  | nm i =>
    obtain ⟨a1, a2, a3⟩ := S.loc (show locB C i y = true from ht)
    have hyl : X.env.scope.names.lookup y = some .local := by
      unfold lcB at hl
      obtain ⟨hl, _⟩ := and2 hl
      obtain ⟨hl, _⟩ := and2 hl
      rw [S.sc]
      exact (eq_of_beq hl).symm
    have hsw : swapsWith (.ListComp elt gs scope cpos) (some (.Name y p)) pos.line X.env = pure true := by rw [lc_of S h, hl]
    unfold chkE at h
    split at h
    · next e' t' i' ifs scope' pos' heq =>
      cases heq
      obtain ⟨h, h6⟩ := and2 h
      obtain ⟨h, h5⟩ := and2 h
      obtain ⟨h, h4⟩ := and2 h
      obtain ⟨h, h3⟩ := and2 h
      obtain ⟨h1, h2⟩ := and2 h
      have ok : BlkOk X.N X.env.scope scope (ownP C own) := by
        rw [S.N, S.sc]
        exact blkOk_by h2
      have hI := sndI (n0 := n0) (Wn := Wn) (tg := t') it S _ h3
      obtain ⟨ctt, c1, c2⟩ := sndC (n0 := n0) (Wn := Wn) (F := F) (F1 := F1) (T := T) cd C scope ifs h5
      have key := s_setLc (n0 := n0) (nw := nw) (Wn := Wn) (pos := pos) (el := fun env => evE T F F1 n0 Wn env el) S.calm S.nd a1 hyl hsw hI.1 ok (by rw [own_ix]; intro j hj; exact of_decide_eq_true (List.all_eq_true.mp h1 j hj)) (fun s H a cl fp => (S.blk ok.kind s H a cl fp).tg h4) c1
        (fun s H a cl fp => c2 (S.blk ok.kind s H a cl fp)) (fun s H a cl fp => (snd el (S.blk ok.kind s H a cl fp) _ h6).1) hI.2
      rw [own_ix] at key
      exact key
    · cases h
theorem sn_asg {X : Cx} {C : Ck} {W : WX} (S : Sn X C W G T tp F F1) {pos : Pos} {tx v : Expr} {e : E} {t : Tg} (ht : tgB C t tx = true) (ha : (asgB C tx v && (!lcB C tx v || isComp e)) = true) (h : chkE tp G.nC C e v = true) :
    PS X (.Assign [tx] v pos) (tofS G n0 W fun env => evS T F F1 n0 Wn env (.asg t e)) := by
  have hv := (snd (n0 := n0) (Wn := Wn) e S v h).1
  obtain ⟨ha, hc⟩ := and2 ha
  by_cases hl : lcB C tx v = true
  · have hc2 : isComp e = true := by simpa [hl] using hc
    obtain ⟨y, p, _, _, _, _, _, _, _, _, _, _, rfl, _, _⟩ := lc_is h hl hc2
    exact sn_setLc S ht h hl hc2
  · have hsw : swapsWith v (some tx) pos.line X.env = pure false := by
      rw [lc_of S h]
      congr 1
      simpa using hl
    cases t with
    | nm i =>
      unfold tgB at ht
      simp only at ht
      split at ht
      · obtain ⟨a1, a2, a3⟩ := S.loc ht
        exact s_set S.nd a1 a2 a3 hv hsw
      · cases ht
    | tp is =>
      refine s_asg hv (S.tg ht) hsw ?_ (asgEach1 (e := e) ht)
      cases tx with
      | Tuple ts k p =>
        cases v with
        | Tuple vs k2 p2 =>
          refine sw_of (by rw [S.sc]; exact S.kd) ?_
          rw [S.sc]
          exact of_decide_eq_true (show decide (swB C.sc ts vs = some none) = true from ha)
        | _ => rfl
      | _ => cases ht
theorem sn_par {X : Cx} {C : Ck} {W : WX} (S : Sn X C W G T tp F F1) {pos p p2 : Pos} {k k2} {ts vs : List Expr} {es : Es} {is : List Nat} (hp : parB C is ts vs = true) (h : chkEs tp G.nC C es vs = true) :
    PS X (.Assign [.Tuple ts k p] (.Tuple vs k2 p2) pos) (tofS G n0 W fun env => evS T F F1 n0 Wn env (.par is es)) := by
  have ha := sndEs (n0 := n0) (Wn := Wn) es S vs h
  have kd : X.env.scope.kind = .function := by rw [S.sc]; exact S.kd
  unfold parB at hp
  split at hp
  · next i j y p3 z p4 =>
    obtain ⟨hp, h6⟩ := and2 hp
    obtain ⟨hp, h5⟩ := and2 hp
    obtain ⟨hp, h4⟩ := and2 hp
    obtain ⟨hp, h3⟩ := and2 hp
    obtain ⟨h1, h2⟩ := and2 hp
    have h1 := of_decide_eq_true h1
    have hw : swappedStores [.Tuple [.Name y p3, .Name z p4] k p] (.Tuple vs k2 p2) X.env = pure (some [y, z]) := sw_of kd (by rw [S.sc]; exact h1)
    have hl : vs.length = 2 := by
      unfold swB at h1
      split at h1
      · cases h1
      · next c => simpa using c
    match vs, hl with
    | [v1, v2], _ =>
      exact s_par2 S.calm S.nd (by rw [S.N]; exact of_decide_eq_true h2) (by rw [S.N]; exact of_decide_eq_true h3) (of_decide_eq_true h4) (by rw [S.sc]; exact of_decide_eq_true h5) (by rw [S.sc]; exact of_decide_eq_true h6) ha hw
  · next i j l y p3 z p4 w p5 =>
    obtain ⟨hp, h10⟩ := and2 hp
    obtain ⟨hp, h9⟩ := and2 hp
    obtain ⟨hp, h8⟩ := and2 hp
    obtain ⟨hp, h7⟩ := and2 hp
    obtain ⟨hp, h6⟩ := and2 hp
    obtain ⟨hp, h5⟩ := and2 hp
    obtain ⟨hp, h4⟩ := and2 hp
    obtain ⟨hp, h3⟩ := and2 hp
    obtain ⟨h1, h2⟩ := and2 hp
    have h1 := of_decide_eq_true h1
    have hw : swappedStores [.Tuple [.Name y p3, .Name z p4, .Name w p5] k p] (.Tuple vs k2 p2) X.env = pure (some [y, z, w]) := sw_of kd (by rw [S.sc]; exact h1)
    have hl : vs.length = 3 := by
      unfold swB at h1
      split at h1
      · cases h1
      · next c => simpa using c
    match vs, hl with
    | [v1, v2, v3], _ =>
      exact s_par3 S.calm S.nd (by rw [S.N]; exact of_decide_eq_true h2) (by rw [S.N]; exact of_decide_eq_true h3) (by rw [S.N]; exact of_decide_eq_true h4) (of_decide_eq_true h5) (of_decide_eq_true h6) (of_decide_eq_true h7) (by rw [S.sc]; exact of_decide_eq_true h8) (by rw [S.sc]; exact of_decide_eq_true h9) (by rw [S.sc]; exact of_decide_eq_true h10) ha hw
  · cases hp
mutual
theorem sndS : ∀ (s : S) {X : Cx} {C : Ck} {W : WX} (S : SnS X C W G T tp F F1) (x : Stmt), chkS tp G.nC C s x = true → PS X x (tofS G n0 W fun env => evS T F F1 n0 Wn env s)
  | .asg t e, X, C, W, S, x, h => by
    unfold chkS at h
    split at h
    · obtain ⟨h, h3⟩ := and2 h
      obtain ⟨h1, h2⟩ := and2 h
      exact sn_asg S.toSn h1 h2 h3
    · cases h
  | .par is es, X, C, W, S, x, h => by
    unfold chkS at h
    split at h
    · obtain ⟨h1, h2⟩ := and2 h
      exact sn_par S.toSn h1 h2
    · cases h
  | .expr e, X, C, W, S, x, h => by
    unfold chkS at h
    split at h
    · obtain ⟨h1, h2⟩ := and2 h
      exact s_expr (snd e S.toSn _ h2).1 (ex_of (X := X) h2 h1)
    · cases h
  | .ret e, X, C, W, S, x, h => by
    unfold chkS at h
    split at h
    · exact s_ret (snd e S.toSn _ h).1
    · cases h
  | .retN, X, C, W, S, x, h => by
    unfold chkS at h
    split at h
    · exact s_retN
    · cases h
  | .ifs c a b, X, C, W, S, x, h => by
    unfold chkS at h
    split at h
    · obtain ⟨h, h3⟩ := and2 h
      obtain ⟨h1, h2⟩ := and2 h
      exact s_ifs (a := fun env => evE T F F1 n0 Wn env c) (snd c S.toSn _ h1).2 (sndSs a S _ h2) (sndSs b S _ h3)
    · cases h
  | .loop t it b, X, C, W, S, x, h => by
    unfold chkS at h
    split at h
    · next tx iter xs pos =>
      obtain ⟨h, h3⟩ := and2 h
      obtain ⟨h1, h2⟩ := and2 h
      have hI := sndI (n0 := n0) (Wn := Wn) (tg := tx) it S.toSn _ h1
      exact s_loop S.po S.calm hI.1 (S.toSn.tg h2) (sndSs b S _ h3) hI.2
    · cases h
  | .whl c b, X, C, W, S, x, h => by
    unfold chkS at h
    split at h
    · obtain ⟨h1, h2⟩ := and2 h
      exact s_whl (a := fun env => evE T F F1 n0 Wn env c) S.po (snd c S.toSn _ h1).2 (sndSs b S _ h2)
    · cases h
  | .raise c es, X, C, W, S, x, h => by
    unfold chkS at h
    split at h
    · next y p xs pos pos2 =>
      obtain ⟨h, h4⟩ := and2 h
      obtain ⟨h, h3⟩ := and2 h
      obtain ⟨h1, h2⟩ := and2 h
      unfold isEB at h2
      obtain ⟨h2, h2'⟩ := and2 h2
      have h3 : y = tp.enm c := of_decide_eq_true h3
      subst h3
      obtain ⟨g1, g2⟩ := S.gl h1
      obtain ⟨e1, e2⟩ := S.fe.err c (of_decide_eq_true h2) (of_decide_eq_true h2')
      cases xs with
      | nil =>
        cases es with
        | nil => exact s_raise0 S.calm S.tk e2 S.fe.room g1 e1 g2
        | cons e r => cases h4
      | cons z zs =>
        cases es with
        | nil => cases h4
        | cons e r =>
          have h4' : (chkE tp G.nC C e z && chkEs tp G.nC C r zs) = true := h4
          obtain ⟨c1, c2⟩ := and2 h4'
          exact s_raise S.calm S.tk e2 S.fe.room g1 e1 g2 (sndEs (.cons e r) S.toSn _ h4) (star_of c1 zs X.env) ((stars_of c2).1 _)
    · cases h
  | .tri b hs, X, C, W, S, x, h => by
    unfold chkS at h
    split at h
    · obtain ⟨h1, h2⟩ := and2 h
      exact s_tri S h1 fun S' => sndSs b S' _ h2
    · cases h
  | .setI o i e, X, C, W, S, x, h => by
    unfold chkS at h
    split at h
    · next ox ix p v pos =>
      obtain ⟨h, h3⟩ := and2 h
      obtain ⟨h1, h2⟩ := and2 h
      refine s_setI S.fx.un (snd e S.toSn _ h3).1 (snd o S.toSn _ h1).1 (snd i S.toSn _ h2).1 (fun u => ?_) (pos2 := pos) ?_ rfl
      · cases ix with
        | Slice a b c p => rw [chk_slice] at h2; cases h2
        | _ => rfl
      · have := lc_of S.toSn (tx := .Subscript ox ix p) (l := pos.line) h3
        rw [show lcB C (.Subscript ox ix p) v = false by cases v <;> rfl] at this
        exact this
    · cases h
  | .setF i f e, X, C, W, S, x, h => by
    unfold chkS at h
    split at h
    · next y p n p2 v pos =>
      obtain ⟨h, h4⟩ := and2 h
      obtain ⟨h, h3⟩ := and2 h
      obtain ⟨h1, h2⟩ := and2 h
      have h3 : n = tp.fld f := of_decide_eq_true h3
      obtain ⟨f1, f2, f3⟩ := S.fx.fld f (of_decide_eq_true h2)
      rw [← f1] at h3
      subst h3
      obtain ⟨v1, v2, v3, v4⟩ := S.vis h1
      refine s_setF S.fx.hK S.fx.cls f2 f3 v1 v2 v3 v4 (snd e S.toSn _ h4).1 ?_
      have := lc_of S.toSn (tx := .Attribute (.Name y p) (G.fld f) p2) (l := pos.line) h4
      rw [show lcB C (.Attribute (.Name y p) (G.fld f) p2) v = false by cases v <;> rfl] at this
      exact this
    · cases h
  | .pass, X, C, W, S, x, h => by
    unfold chkS at h
    split at h
    · exact s_pass
    · cases h
  | .brk, X, C, W, S, x, h => by
    unfold chkS at h
    split at h
    · exact s_brk
    · cases h
  | .cont, X, C, W, S, x, h => by
    unfold chkS at h
    split at h
    · exact s_cont
    · cases h
theorem sndSs : ∀ (ss : Ss) {X : Cx} {C : Ck} {W : WX} (S : SnS X C W G T tp F F1) (xs : List Stmt), chkSs tp G.nC C ss xs = true → PSs X xs (tofS G n0 W fun env => evSs T F F1 n0 Wn env ss)
  | .nil, X, C, W, S, xs, h => by
    cases xs with
    | nil => exact ss_nil
    | cons _ _ => cases h
  | .cons s r, X, C, W, S, xs, h => by
    cases xs with
    | nil => cases h
    | cons x xs =>
      have h : (chkS tp G.nC C s x && chkSs tp G.nC C r xs) = true := h
      obtain ⟨h1, h2⟩ := and2 h
      exact ss_cons (sndS s S x h1) (sndSs r S xs h2)
end
end
end EF

/-! FI: all defs keep what the evaluator says of them. -/
namespace EF
open PySem PySem.Spec PyProof.Rows L2

/-- a def: where it stands, its names by place, its body in the small language -/
structure DefE where
  d : He.DefD
  N : List Str
  fn : Fn
namespace DefE
def ps (e : DefE) : List Str := e.N.take e.fn.np
def ck (e : DefE) : Ck := ⟨e.N, e.d.scope, fun _ => true⟩
def scB (e : DefE) : Bool := decide (e.d.scope.kind = .function) && !e.d.scope.isCoroutine && !e.d.scope.isGenerator && decide e.N.Nodup && (e.ps.all fun x => match e.d.scope.names.lookup x with
  | some .local => true
  | some .cell => true
  | _ => false) && (e.d.scope.names.all fun y => match y.2 with
  | .free => false
  | _ => true)
def okB (tp : Top) (nC : Nat) (e : DefE) : Bool := e.scB && decide (e.fn.ns = e.N.length) && decide (e.fn.np ≤ e.N.length) && chkSs tp nC e.ck e.fn.body e.d.body
def Bn (e : DefE) : Prop := ∀ (kV doc pm : Value) (an : Option Addr) (cdv ct : Value) (us : List Value), us.length = e.ps.length → bindArgs (PySem.W.fnOf e.d.name e.d.qual e.d.params e.d.body e.d.scope .none kV doc pm an cdv ct) ⟨us, []⟩ = pure (e.ps.zip us)
def Kw (e : DefE) (n : Nat) (ks : List Str) (p : List Nat) : Prop := ∀ (kV doc pm : Value) (an : Option Addr) (cdv ct : Value) (us ws : List Value), us.length = n → ws.length = ks.length →
  bindArgs (PySem.W.fnOf e.d.name e.d.qual e.d.params e.d.body e.d.scope .none kV doc pm an cdv ct) ⟨us, ks.zip ws⟩ = pure (e.ps.zip (permL p (us ++ ws)))
def FD (e : DefE) (K : PySem.W.Frag) (fd : FuncData) : Prop := FunD K e.d.name e.d.qual e.d.params e.d.body e.d.scope [] [] (He.fAd K e.d.at_) fd
theorem scope_ok {e : DefE} {tp : Top} {nC : Nat} (h : e.okB tp nC = true) : FnScope e.N e.ps e.d.scope ∧ e.fn.ns = e.N.length ∧ e.fn.np = e.ps.length ∧ chkSs tp nC e.ck e.fn.body e.d.body = true := by
  unfold okB at h
  obtain ⟨h, h4⟩ := and2 h
  obtain ⟨h, h3⟩ := and2 h
  obtain ⟨h1, h2⟩ := and2 h
  have h3 := of_decide_eq_true h3
  have hl : e.ps.length = e.fn.np := by
    unfold ps
    rw [List.length_take]
    omega
  refine ⟨?_, of_decide_eq_true h2, hl.symm, h4⟩
  unfold scB at h1
  obtain ⟨h, q6⟩ := and2 h1
  obtain ⟨h, q5⟩ := and2 h
  obtain ⟨h, q4⟩ := and2 h
  obtain ⟨h, q3⟩ := and2 h
  obtain ⟨q1, q2⟩ := and2 h
  refine ⟨of_decide_eq_true q1, by simpa using q2, by simpa using q3, of_decide_eq_true q4, by rw [hl] <;> rfl, fun x hx => ?_, fun y hy => ?_⟩
  · have := List.all_eq_true.mp q5 x hx
    split at this
    · exact .inl (by assumption)
    · exact .inr (by assumption)
    · cases this
  · have := List.all_eq_true.mp q6 y hy
    intro z
    rw [z] at this
    cases this
theorem FD.pos {e : DefE} {K : PySem.W.Frag} {fd : FuncData} (F : e.FD K fd) (h : e.Bn) : ∀ us : List Value, us.length = e.ps.length → bindArgs fd ⟨us, []⟩ = pure (e.ps.zip us) := by
  obtain ⟨oc, od, dV, kV, doc, pm, an, cdv, ct, osl, rfl, lk, hcd, hD, hK⟩ := F.ex
  rcases hD with ⟨_, rfl⟩ | ⟨z, _⟩
  · exact h kV doc pm an cdv ct
  · exact absurd rfl z
theorem FD.kw {e : DefE} {K : PySem.W.Frag} {fd : FuncData} {n : Nat} {ks : List Str} {p : List Nat} (F : e.FD K fd) (h : e.Kw n ks p) : KwOk fd e.ps n ks p := by
  obtain ⟨oc, od, dV, kV, doc, pm, an, cdv, ct, osl, rfl, lk, hcd, hD, hK⟩ := F.ex
  rcases hD with ⟨_, rfl⟩ | ⟨z, _⟩
  · exact ⟨h kV doc pm an cdv ct⟩
  · exact absurd rfl z
end DefE
def tbOf (defs : List DefE) : Nat → Option Fn := fun f => (defs[f]?).map (·.fn)
/-- what a law's text gives -/
structure Lw (P : Program) (w : World) (K : PySem.W.Frag) (mg : Str → Option Value) (base : Heap) (G : Gx) (T : Tab) (tp : Top) (defs : List DefE) : Prop where
  hK : G.K = K
  cls : ClsK G
  fld : ∀ f, f < tp.nfl → G.fld f = tp.fld f ∧ FldK G f ∧ ∀ g, G.fld g = G.fld f → g = f
  free : ∀ b : Bi, b ≠ .gcd → mg (biN b) = none
  tys : ∀ t, t < 6 → mg (tyNm t) = none
  isi : mg ("isinstance" : Str) = none
  rng : mg ("range" : Str) = none
  gcd : tp.gcd = true → mg ("gcd" : Str) = some (.builtin "math.gcd")
  glb : ∀ i, i < tp.nG → ∃ v u, mg (tp.gnm i) = some u ∧ RelV v u ∧ ∀ z, T.glb i = some z → ∀ y : Sit, Rep G y.ρ y.S z v
  err : ∀ c, G.nC ≤ c → c < tp.nE → mg (tp.enm c) = some (.ref (G.cad c)) ∧ ErrK P w K base G T c
  xf : ∀ c, G.nC ≤ c → c < tp.nE → XfC K (G.cad c) ∧ ExcC K (G.cad c)
  nof : ∀ c f, G.nC ≤ c → c < tp.nE → f < tp.nfl → PySem.W.findIn K (.ref (G.cad c)) (G.fld f) = some none
  sub : ∀ c c' b, T.sub c c' = some b → (G.nC ≤ c ∧ c < tp.nE) ∧ PySem.W.exmOne K (.ref (G.cad c)) (.ref (G.cad c')) = some b ∧ PySem.W.kitOne K (.ref (G.cad c)) (.ref (G.cad c')) = some b
  fn : ∀ f, f < tp.nF → ∃ e : DefE, defs[f]? = some e ∧ mg (tp.fnm f) = some (.ref (He.fAd K e.d.at_)) ∧ ∀ j q, tp.kwf j = f → T.kw j = some q → e.Kw (tp.kwn j) (tp.kws j) q
  mkc : ∀ c, c < G.nC → mg (tp.cnm c) = some (.ref (G.cad c)) ∧ PySem.W.keepIn K (.ref (G.cad c)) = true ∧ ∃ (f : Nat) (e : DefE), T.init c = some f ∧ defs[f]? = some e ∧ Mk K (G.cad c) (He.fAd K e.d.at_)
  def_ : ∀ (f : Nat) (e : DefE), defs[f]? = some e → (∃ fd, e.FD K fd) ∧ e.okB tp G.nC = true ∧ e.Bn
section
variable {P : Program} {w : World} {K : PySem.W.Frag} {mg : Str → Option Value} {base : Heap} {G : Gx} {T : Tab} {tp : Top} {defs : List DefE} {Wn : Nat}
def bodyM (T : Tab) (F F1 : Nat → List D → M D) (Wn : Nat) (fn : Fn) (ds : List D) : M D := if ds.length = fn.np then (fun ν => fin ν.length fn.kp (evSs T F F1 ν.length Wn (startE fn ds) fn.body ν) : M D) else M.fail
theorem callP_succ {tb : Nat → Option Fn} {fn : Fn} {f k : Nat} (h : tb f = some fn) (ds : List D) : (callP T tb Wn (k + 1)).1 f ds = bodyM T (callP T tb Wn k).1 (callP T tb Wn k).2 Wn fn ds := by
  show (match tb f with
    | some fn => if ds.length = fn.np then (fun ν => fin ν.length fn.kp (evSs T (callP T tb Wn k).1 (callP T tb Wn k).2 ν.length Wn (startE fn ds) fn.body ν) : M D) else M.fail
    | none => M.fail) = _
  rw [h]
  rfl
theorem callP_wants {tb : Nat → Option Fn} {fn : Fn} {f : Nat} (h : tb f = some fn) : ∀ k, Wants ((callP T tb Wn k).1 f) fn.np
  | 0 => fun ds ν z => absurd rfl z
  | k + 1 => fun ds ν z => by
    rw [callP_succ h] at z
    by_cases c : ds.length = fn.np
    · exact c
    · exact absurd (congrFun (if_neg c) ν) z
theorem Lw.all (L : Lw P w K mg base G T tp defs) : ∀ (k f : Nat) (e : DefE) (fd : FuncData), defs[f]? = some e → e.FD K fd → DefOk P w K mg base k G ((callP T (tbOf defs) Wn k).1 f) e.fn.np (He.fAd K e.d.at_) fd e.ps
  | 0, f, e, fd, hf, F => by
    obtain ⟨_, h2, h3⟩ := L.def_ f e hf
    obtain ⟨s1, s2, s3, s4⟩ := DefE.scope_ok h2
    refine ⟨F.kp, ⟨fun vs H Q E h => ?_, fun A outer s H args us vs Q E hr e0 hb r h => ?_⟩, by rw [s3]; exact F.pos h3⟩
    · obtain ⟨y, ds, _, _, r, hl, _⟩ := h
      rw [← r.length, hl, s3]
    · obtain ⟨y, ds, _, _, r, hl, h⟩ := h
      exact (h.nonOf rfl).elim
  | k + 1, f, e, fd, hf, F => by
    obtain ⟨_, h2, h3⟩ := L.def_ f e hf
    obtain ⟨s1, s2, s3, s4⟩ := DefE.scope_ok h2
    have tb : tbOf defs f = some e.fn := by unfold tbOf; rw [hf]; rfl
    have key := fn_rule (P := P) (w := w) (mg := mg) (base := base) (k := k) (fn := e.fn) (ev := fun n0 env => evSs T (callP T (tbOf defs) Wn k).1 (callP T (tbOf defs) Wn k).2 n0 Wn env e.fn.body) (G := G) F s1 s2 s3 (fun cdv A outer s H E n0 hr => ?_)
    · refine ⟨F.kp, ?_, by rw [s3]; exact F.pos h3⟩
      rw [show (callP T (tbOf defs) Wn (k + 1)).1 f = bodyM T (callP T (tbOf defs) Wn k).1 (callP T (tbOf defs) Wn k).2 Wn e.fn from funext (callP_succ tb)]
      exact key
    · refine sndSs (C := e.ck) e.fn.body ?_ e.d.body s4
      refine ⟨⟨?_, rfl, rfl, rfl, s1.kind, s1.nd, rfl, takes_of rfl rfl rfl rfl⟩, ?_, rfl, rfl, passes_of rfl⟩
      · refine ⟨L.hK, by have := hr.un; show (A.deeper _).units + 8 < cLine; omega, L.cls, L.fld, L.free, L.tys, L.isi, L.rng, L.gcd, L.glb, fun g hg => ?_, fun c hc => ?_⟩
        · obtain ⟨e', q1, q2, q3⟩ := L.fn g hg
          obtain ⟨⟨fd', F'⟩, _, _⟩ := L.def_ g e' q1
          exact ⟨k, e'.fn.np, _, fd', e'.ps, hr, q2, L.all k g e' fd' q1 F', callP_wants (by unfold tbOf; rw [q1]; rfl) k, fun j q a b => F'.kw (q3 j q a b)⟩
        · obtain ⟨m1, m2, g, e', m3, m4, m5⟩ := L.mkc c hc
          refine ⟨m1, m2, ?_⟩
          cases k with
          | zero =>
            left
            intro ds ν
            unfold makeD
            rw [m3]
            rfl
          | succ j =>
            right
            obtain ⟨⟨fd', F'⟩, _, _⟩ := L.def_ g e' m4
            exact ⟨j, g, e'.fn.np, _, fd', e'.ps, hr, m3, m5, L.all j g e' fd' m4 F', callP_wants (by unfold tbOf; rw [m4]; rfl) j⟩
      · exact ⟨L.err, by have := hr.dp; show (A.deeper _).depth + 2 < recursionLimit; omega, L.xf, L.nof, L.sub⟩
/-- the law's def -/
theorem Lw.law (L : Lw P w K mg base G T tp defs) {k f : Nat} {e : DefE} {fd : FuncData} (hf : defs[f]? = some e) (F : e.FD K fd) (hnp : e.fn.np = 1) (hk : ∀ ns : List Int, ns.length ≤ 63 → ∃ ν', (callP T (tbOf defs) Wn k).1 f [.frz (ns.map .int)] [] = some (.ok (.bl true), ν')) :
    FnOk P w K mg base (L2.CX P w) k (He.fAd K e.d.at_) fd e.ps (spF G ((callP T (tbOf defs) Wn k).1 f) 1) ∧
    ∀ (H : Hp) (a : Addr) (ns : List Int), ns.length ≤ 63 → SqL K H a (ns.map V.int) → spF G ((callP T (tbOf defs) Wn k).1 f) 1 [.ref a] H (fun v _ => v = .bl true) fun _ _ _ => False := by
  refine ⟨by rw [← hnp]; exact (L.all k f e fd hf F).ok, fun H a ns hl hS => ?_⟩
  have rr : Reps G [] H (ns.map D.int) (ns.map V.int) := by
    induction ns with
    | nil => exact .nil
    | cons i r ih =>
      clear hS
      have : ∀ l : List Int, Reps G [] H (l.map D.int) (l.map V.int) := fun l => by
        induction l with
        | nil => exact .nil
        | cons i l ih => exact .cons (.int i) ih
      exact this (i :: r)
  refine ⟨⟨H, H, [], []⟩, [.frz (ns.map .int)], rfl, ⟨fun _ _ h => h, rfl, Nat.le_refl _, List.nodup_nil, fun n b d h => by simp at h⟩, .cons (.frz (by rw [L.hK]; exact hS) rr) .nil, rfl, ?_⟩
  obtain ⟨ν', hv⟩ := hk ns hl
  unfold AfterF
  have hv' : (callP T (tbOf defs) Wn k).1 f [.frz (ns.map .int)] (⟨H, H, [], []⟩ : Sit).ν = some (.ok (.bl true), ν') := hv
  rw [hv']
  intro b y _ _ _ r
  cases r
  rfl
end
end EF

/-! FJ: a law's text as data; what its top leaves; all of it together. -/
namespace EF
open PySem PySem.Spec PyProof.Rows L2

/-! ### the Hook -/
abbrev FnZ : Type := Option (Str × Str × Arguments × FuncBody × Scope × Addr × List Str × Addr)
def fnZ (K : PySem.W.Frag) (p : Str × Option Str) : FnZ := match K.lookup (He.fAd K p) with
  | some ⟨_, _, .func fd, _⟩ => some (fd.name, fd.qualname, fd.params, fd.body, fd.scope, fd.globals, fd.closure.map (·.1), fd.builtins)
  | _ => none
abbrev AlF : Type := Bool × List He.FnW × List FnZ
def asF (g : Addr → Option Obj) (n : Nat) : List Addr := cStatics :: He.asD g n
def obsF (bx : PySem.W.Frag → Bool) (fn : List He.DefD) (fz : List (Str × Option Str)) (K : PySem.W.Frag) : AlF := (bx K && fn.all fun d => d.ok K, fn.map fun d => He.fnW K d.at_, fz.map fun p => fnZ K p)
def valF (fn : List He.DefD) (vz : List FnZ) : AlF := (true, fn.map He.DefD.val, vz)
def SaysF (bx : PySem.W.Frag → Bool) (fn : List He.DefD) (fz : List (Str × Option Str)) (vz : List FnZ) (K : PySem.W.Frag) : Prop := obsF bx fn fz K = valF fn vz
def obsFG (n : Nat) (bx : PySem.W.Frag → Bool) (fn : List He.DefD) (fz : List (Str × Option Str)) (g : Addr → Option Obj) : AlF := obsF bx fn fz (He.frG g (asF g n))
def hookF (n : Nat) (bx : PySem.W.Frag → Bool) (fn : List He.DefD) (fz : List (Str × Option Str)) (vz : List FnZ) : PySem.W.Hook where
  α := AlF
  obs := fun s => obsFG n bx fn fz s.heap.get?
  val := fun _ => valF fn vz
  says := fun _ h => ∃ K : PySem.W.Frag, K.In h ∧ SaysF bx fn fz vz K
  of := fun _ _ e => ⟨_, He.frG_in, e⟩
  keeps := fun _ _ _ ⟨K, hK, c⟩ k => ⟨K, PySem.W.Frag.In.keeps hK k, c⟩
theorem obsFG_eq {n : Nat} {bx : PySem.W.Frag → Bool} {fn : List He.DefD} {fz : List (Str × Option Str)} {vz : List FnZ} {g : Addr → Option Obj} {s : Shared} (h : ∀ a, g a = s.heap.get? a) : obsFG n bx fn fz g = (hookF n bx fn fz vz).obs s := by
  have e : g = s.heap.get? := funext h
  rw [e] <;> rfl
section
variable {bx' : PySem.W.Frag → Bool} {fn : List He.DefD} {fz : List (Str × Option Str)} {vz : List FnZ} {K : PySem.W.Frag}
theorem SaysF.bx (c : SaysF bx' fn fz vz K) : bx' K = true := (He.ba (show (bx' K && fn.all fun d => d.ok K) = true from congrArg (fun z : AlF => z.1) c)).1
theorem SaysF.def_ (c : SaysF bx' fn fz vz K) {d : He.DefD} (h : d ∈ fn) : ∃ fd, FunD K d.name d.qual d.params d.body d.scope (d.dvs K) (d.kws K) (He.fAd K d.at_) fd := by
  have c2 := (He.ba (show (bx' K && fn.all fun d => d.ok K) = true from congrArg (fun z : AlF => z.1) c)).2
  have e : fn.map (fun d => He.fnW K d.at_) = fn.map He.DefD.val := congrArg (fun z : AlF => z.2.1) c
  obtain ⟨i, hi, hd⟩ := List.mem_iff_getElem.mp h
  have e2 : (fn.map fun d => He.fnW K d.at_)[i]? = (fn.map He.DefD.val)[i]? := by rw [e]
  rw [List.getElem?_map, List.getElem?_map, List.getElem?_eq_getElem hi, hd] at e2
  exact He.DefD.funD (Option.some.inj e2) (List.all_eq_true.mp c2 d h)
theorem SaysF.z (c : SaysF bx' fn fz vz K) : fz.map (fun p => fnZ K p) = vz := congrArg (fun z : AlF => z.2.2) c
end

/-! ### errors' classes -/
def oexB (K : PySem.W.Frag) (C : Addr) : Bool := (match K.lookup C with
  | some ⟨.type t, _, .cls cd, sl⟩ => (match cd.mro, sl.toList with
    | .ref C' :: bm, [_, _, _, _, some (.builtin n), _] => decide (t = "type") && C' == C && n == "ValueError.__new__" && !cd.hasDel && cd.hasDict && PySem.HandSPX.refsVE bm
    | _, _ => false)
  | _ => false) && decide (PySem.W.findIn K (.ref C) "__setattr__" = some (some (.builtin "object.__setattr__"))) && decide (PySem.W.subIn K (.ref C) (.type "BaseException") = some true) && decide (PySem.W.typeIn K (.ref C) = some (.type "type")) && PySem.W.keepIn K (.ref C)
theorem oexB_ok {K : PySem.W.Frag} {C : Addr} (h : oexB K C = true) : OexC K C := by
  unfold oexB at h
  obtain ⟨h, h5⟩ := and2 h
  obtain ⟨h, h4⟩ := and2 h
  obtain ⟨h, h3⟩ := and2 h
  obtain ⟨h1, h2⟩ := and2 h
  refine ⟨?_, of_decide_eq_true h2, of_decide_eq_true h3, of_decide_eq_true h4, h5⟩
  split at h1
  · rename_i t dd cd sl ho
    split at h1
    · rename_i C' bm k0 k1 k2 k3 n k5 hm hs
      obtain ⟨q, q6⟩ := and2 h1
      obtain ⟨q, q5⟩ := and2 q
      obtain ⟨q, q4⟩ := and2 q
      obtain ⟨q, q3⟩ := and2 q
      obtain ⟨q1, q2⟩ := and2 q
      have q1 : t = "type" := of_decide_eq_true q1
      have q2 : C' = C := by simpa using q2
      have q3 : n = "ValueError.__new__" := by simpa using q3
      subst q1 q2 q3
      obtain ⟨nm, bs, mro, ns, qn, hd, sn, sub, ab, col, del⟩ := cd
      dsimp only at hm q4 q5
      have q4 : del = false := by simpa using q4
      subst hm q4 q5
      have hsl : sl = #[k0, k1, k2, k3, some (.builtin "ValueError.__new__"), k5] := by
        obtain ⟨l⟩ := sl
        simp only at hs
        rw [hs]
      subst hsl
      exact ⟨nm, qn, ns, bs, bm, sn, sub, ab, col, dd, k0, k1, k2, k3, k5, ho, q6⟩
    · cases h1
  · cases h1
def excB (K : PySem.W.Frag) (D : Addr) : Bool := decide (PySem.W.findIn K (.ref D) "__getattribute__" = some (some (.builtin "BaseException.__getattribute__"))) && decide (PySem.W.findIn K (.ref D) "__getattr__" = some none) && decide (PySem.W.subIn K (.ref D) (.type "BaseException") = some true) && PySem.W.hasDictIn K D &&
  decide (PySem.W.findIn K (.ref D) "__class__" = some (some (.builtin "object.__class__"))) && decide (PySem.W.specialIn K (.builtin "object.__class__") "__get__" = some (some (.builtin "getset_descriptor.__get__"))) && decide (PySem.W.takesIn K (.builtin "object.__class__") = some true) && decide (PySem.W.mroIn K D (.type "object") = some true)
theorem excB_ok {K : PySem.W.Frag} {D : Addr} (h : excB K D = true) : ExcC K D ∧ XfC K D := by
  unfold excB at h
  obtain ⟨h, h8⟩ := and2 h
  obtain ⟨h, h7⟩ := and2 h
  obtain ⟨h, h6⟩ := and2 h
  obtain ⟨h, h5⟩ := and2 h
  obtain ⟨h, h4⟩ := and2 h
  obtain ⟨h, h3⟩ := and2 h
  obtain ⟨h1, h2⟩ := and2 h
  exact ⟨⟨of_decide_eq_true h1, of_decide_eq_true h2, of_decide_eq_true h3, h4, of_decide_eq_true h5, of_decide_eq_true h6, of_decide_eq_true h7, of_decide_eq_true h8⟩, ⟨of_decide_eq_true h1, of_decide_eq_true h2, of_decide_eq_true h3, h4⟩⟩
/-- an error that is the base class or keeps its __init__ -/
def inhB (K : PySem.W.Frag) (D C fI : Addr) : Bool := oexB K C && decide (PySem.W.mroIn K C (.ref D) = some true) && decide (PySem.W.subIn K (.ref C) (.type "ValueError") = some true) && decide (PySem.W.ks_superIn K C D "__init__" = some (some (.builtin "ValueError.__init__"))) && decide (PySem.W.findIn K (.ref C) "given" = some none) &&
  decide (PySem.W.findIn K (.ref C) "__init__" = some (some (.ref fI)))
theorem inhB_ok {K : PySem.W.Frag} {D C fI : Addr} (h : inhB K D C fI = true) : FeCls K D C ∧ PySem.W.findIn K (.ref C) "__init__" = some (some (.ref fI)) := by
  unfold inhB at h
  obtain ⟨h, h6⟩ := and2 h
  obtain ⟨h, h5⟩ := and2 h
  obtain ⟨h, h4⟩ := and2 h
  obtain ⟨h, h3⟩ := and2 h
  obtain ⟨h1, h2⟩ := and2 h
  exact ⟨⟨oexB_ok h1, of_decide_eq_true h2, of_decide_eq_true h3, of_decide_eq_true h4, of_decide_eq_true h5⟩, of_decide_eq_true h6⟩
def bzB' (K : PySem.W.Frag) (C fI : Addr) : Bool := oexB K C && decide (PySem.W.findIn K (.ref C) "__init__" = some (some (.ref fI))) && decide (PySem.W.typeIn K (.ref fI) = some (.type "function")) && decide (PySem.W.findIn K (.ref C) "given" = some none)
/-- the def's text is bz's -/
def BzSh (d : He.DefD) : Prop := d.name = "__init__" ∧ d.dfl = [] ∧ d.kwd = [] ∧ d.scope = bzS ∧ ∃ p1 q1 q2 q3 q4, d.params = bzA p1 ∧ d.body = bzB q1 q2 q3 q4
theorem bz_ok {K : PySem.W.Frag} {C : Addr} {d : He.DefD} {fd : FuncData} (h : bzB' K C (He.fAd K d.at_) = true) (S : BzSh d) (F : FunD K d.name d.qual d.params d.body d.scope (d.dvs K) (d.kws K) (He.fAd K d.at_) fd) : BzTxt K C (He.fAd K d.at_) := by
  unfold bzB' at h
  obtain ⟨h, h4⟩ := and2 h
  obtain ⟨h, h3⟩ := and2 h
  obtain ⟨h1, h2⟩ := and2 h
  obtain ⟨s1, s2, s3, s4, p1, q1, q2, q3, q4, s5, s6⟩ := S
  obtain ⟨oc, od, dV, kV, doc, pm, an, cdv, ct, osl, rfl, lk, hcd, hD, hK⟩ := F.ex
  refine ⟨oexB_ok h1, of_decide_eq_true h2, of_decide_eq_true h3, of_decide_eq_true h4, oc, od, kV, doc, pm, an, cdv, ct, osl, d.qual, p1, q1, q2, q3, q4, ?_, hcd⟩
  rcases hD with ⟨_, rfl⟩ | ⟨z, _⟩
  · rw [s1, s4, s5, s6] at lk
    exact lk
  · exact absurd (by unfold He.DefD.dvs; rw [s2]; rfl) z
def cloB (K : PySem.W.Frag) (D : Addr) (cl : List (Str × Addr)) : Bool := match cl with
  | [(_, cc)] => (match K.lookup cc with
    | some ⟨_, _, .cell (some (.ref D')), _⟩ => D' == D
    | _ => false)
  | _ => false
theorem cloB_ok {K : PySem.W.Frag} {D : Addr} {cl : List (Str × Addr)} (h : cloB K D cl = true) : ∃ x cc c d s, cl = [(x, cc)] ∧ K.lookup cc = some ⟨c, d, .cell (some (.ref D)), s⟩ := by
  unfold cloB at h
  split at h
  · split at h
    · rename_i x cc _ c d D' s ho
      have : D' = D := by simpa using h
      subst this
      exact ⟨_, _, _, _, _, rfl, ho⟩
    · cases h
  · cases h
def dfB (K : PySem.W.Frag) (dV : Value) : Bool := match dV with
  | .ref Td => (match K.lookup Td with
    | some ⟨_, _, .seq its _, _⟩ => its.toList.length == 1
    | _ => false)
  | _ => false
theorem dfB_ok {K : PySem.W.Frag} {dV : Value} (h : dfB K dV = true) : ∃ (Td : Addr) (oT : Obj) (its : List Value) (nT : Nat), dV = .ref Td ∧ K.lookup Td = some oT ∧ oT.data = .seq its.toArray nT ∧ its.length = 1 := by
  cases dV with
  | ref Td =>
    cases q : K.lookup Td with
    | none => simp [dfB, q] at h
    | some o =>
      obtain ⟨c, d, dt, sl⟩ := o
      cases dt with
      | seq its n =>
        simp [dfB, q] at h
        exact ⟨_, _, its.toList, n, rfl, q, by simp, by simpa using h⟩
      | _ => simp [dfB, q] at h
  | _ => cases h
def fileB (file : Str) (K : PySem.W.Frag) (cd : Value) : Bool := match cd with
  | .ref cda => (match K.lookup cda with
    | some ⟨_, _, .fields vs, _⟩ => (match (vs[2]? : Option Value) with
      | some (.str f _) => file == f
      | _ => false)
    | _ => false)
  | _ => false
theorem fileB_ok {file : Str} {K : PySem.W.Frag} {cd : Value} (h : fileB file K cd = true) : ∃ (cda : Addr) (o : Obj) (vs : Array Value) (f : Str) (tf : Tok), cd = .ref cda ∧ K.lookup cda = some o ∧ o.data = .fields vs ∧ vs[2]? = some (.str f tf) ∧ (file == f) = true := by
  cases cd with
  | ref Td =>
    cases q : K.lookup Td with
    | none => simp [fileB, q] at h
    | some o =>
      obtain ⟨c, d, dt, sl⟩ := o
      cases dt with
      | fields vs =>
        cases q2 : (vs[2]? : Option Value) with
        | none => simp only [fileB, q, q2] at h; cases h
        | some v =>
          cases v with
          | str f tf =>
            simp only [fileB, q, q2] at h
            exact ⟨_, _, vs, f, tf, rfl, q, rfl, q2, h⟩
          | _ => simp only [fileB, q, q2] at h; cases h
      | _ => simp [fileB, q] at h
  | _ => cases h
/-- the base class's __init__ -/
def feB' (file : Str) (K : PySem.W.Frag) (D fI : Addr) : Bool := (match K.lookup fI with
  | some ⟨_, _, .func fd, _⟩ => PySem.W.codeIn K fd.code "FreedomError.__init__" && cloB K D fd.closure && dfB K fd.defaults && fileB file K fd.code
  | _ => false) && decide (PySem.W.typeIn K (.ref fI) = some (.type "function")) && (PySem.W.clsIn K D).isSome && decide (PySem.W.nsIn K cStatics "thirdparty.any" = some none)
/-- the text of the base class's __init__ -/
def FeSh (v : FnZ) : Prop := ∃ (p0 p1 p2 p3 p4 p5 q1 q2 q3 q4 a1 a2 dp : Pos), v = (some (("__init__" : Str), ("FreedomError.__init__" : Str), feA a1 a2 dp, FuncBody.stmts (feB p0 p1 p2 p3 p4 p5 q1 q2 q3 q4), feS, mainGlobals, [("__class__" : Str)], builtinsNs) : FnZ) ∧ (p2.endLine == p4.line) = true
theorem fe_ok {P : Program} {K : PySem.W.Frag} {mg : Str → Option Value} {D : Addr} {p : Str × Option Str} (h : feB' P.main.file K D (He.fAd K p) = true) (S : FeSh (fnZ K p)) (hs : mg "super" = none) (ht : (P.main.scope.names.lookup ("super" : Str)).isSome = false) : FeTxt P K mg D (He.fAd K p) := by
  unfold feB' at h
  obtain ⟨h, h4⟩ := and2 h
  obtain ⟨h, h3⟩ := and2 h
  obtain ⟨h1, h2⟩ := and2 h
  refine ⟨?_, of_decide_eq_true h2, Option.isSome_iff_exists.mp h3, hs, ht, of_decide_eq_true h4⟩
  obtain ⟨p0, p1, p2, p3, p4, p5, q1, q2, q3, q4, a1, a2, dp, e, hp⟩ := S
  unfold fnZ at e
  cases q : K.lookup (He.fAd K p) with
  | none => rw [q] at e; cases e
  | some o =>
    obtain ⟨oc, od, dt, osl⟩ := o
    rw [q] at h1 e
    cases dt with
    | func fd =>
      obtain ⟨n1, n2, n3, n4, n5, n6, n7, n8, n9, n10, n11, n12, n13, n14, n15⟩ := fd
      have e2 : (some (n1, n2, n3, n4, n5, n6, n7.map (·.1), n15) : FnZ) = some (("__init__" : Str), ("FreedomError.__init__" : Str), feA a1 a2 dp, FuncBody.stmts (feB p0 p1 p2 p3 p4 p5 q1 q2 q3 q4), feS, mainGlobals, [("__class__" : Str)], builtinsNs) := e
      simp only [Option.some.injEq, Prod.mk.injEq] at e2
      obtain ⟨z1, z2, z3, z4, z5, z6, z7, z8⟩ := e2
      subst z1 z2 z3 z4 z5 z6 z8
      dsimp only at h1
      obtain ⟨h1, g4⟩ := and2 h1
      obtain ⟨h1, g3⟩ := and2 h1
      obtain ⟨g1, g2⟩ := and2 h1
      obtain ⟨x, cc, cl, cld, csl, rfl, hcc⟩ := cloB_ok g2
      have z7 : x = ("__class__" : Str) := by simpa using z7
      subst z7
      obtain ⟨cda, oc2, vs, f, tf, rfl, k1, k2, k3, k4⟩ := fileB_ok g4
      exact ⟨oc, od, n8, n9, n10, n11, n12, n14, osl, p0, p1, p2, p3, p4, p5, q1, q2, q3, q4, a1, a2, dp, cc, cda, oc2, vs, f, tf, cl, cld, csl, rfl, g1, hp, dfB_ok g3, k1, k2, k3, k4, hcc⟩
    | _ => cases h1
end EF

/-! FK: a law's text as data: what is asked of it, and what follows. -/
namespace EF
open PySem PySem.Spec PyProof.Rows L2

structure Dat where
  /-- own classes -/
  cls : List Str
  /-- errors, the base class first: does it keep the base's __init__ -/
  errs : List (Str × Bool)
  flds : List Str
  /-- the place of "given" -/
  gv : Nat
  fns : List Str
  glbs : List (Str × D)
  /-- keyword calls: the def, how many by place, the keywords, the parameters' order -/
  kws : List (Nat × Nat × List Str × List Nat)
  /-- the classes' __init__ -/
  init : List Nat
  gcd : Bool
namespace Dat
def nC (t : Dat) : Nat := t.cls.length
def nE (t : Dat) : Nat := t.cls.length + t.errs.length
def cn (t : Dat) (c : Nat) : Str := (t.cls ++ t.errs.map (·.1)).getD c Str.empty
def kwAt (t : Dat) (j : Nat) : Nat × Nat × List Str × List Nat := t.kws.getD j (0, 0, [], [])
def tp (t : Dat) : Top where
  fnm := fun f => t.fns.getD f Str.empty
  nF := t.fns.length
  cnm := t.cn
  enm := t.cn
  nE := t.nE
  gnm := fun i => (t.glbs.getD i (Str.empty, .non)).1
  nG := t.glbs.length
  kwf := fun j => (t.kwAt j).1
  kwc := fun _ => 0
  kwn := fun j => (t.kwAt j).2.1
  kws := fun j => (t.kwAt j).2.2.1
  fld := fun f => t.flds.getD f Str.empty
  nfl := t.flds.length
  gcd := t.gcd
def errD (t : Dat) (c : Nat) (o : Option (Str × Bool)) (ds : List D) : Option Exn := match o, ds with
  | some (_, true), [v] => some ⟨c, [t.gv], [v]⟩
  | some (_, false), [] => some ⟨c, [t.gv], [.non]⟩
  | _, _ => none
def T (t : Dat) : Tab where
  glb := fun i => (t.glbs[i]?).map (·.2)
  err := fun c ds => if t.nC ≤ c then t.errD c t.errs[c - t.nC]? ds else none
  kw := fun j => (t.kws[j]?).map (·.2.2.2)
  sub := fun c c' => if t.nC ≤ c ∧ c < t.nE ∧ t.nC ≤ c' ∧ c' < t.nE then some (c == c' || c' == t.nC) else none
  init := fun c => if c < t.nC then t.init[c]? else none
def G (t : Dat) (K : PySem.W.Frag) : Gx := ⟨K, fun f => t.flds.getD f Str.empty, fun c => He.ga K (t.cn c), t.nC⟩
def base (t : Dat) : Str × Option Str := (t.cn t.nC, some "__init__")
/-! ### what is asked of the written part -/
def gloB (K : PySem.W.Frag) (x : Str) : Bool := He.eqO (PySem.W.nsIn K mainGlobals x) (some (some (.ref (He.ga K x))))
def fre : List Str := ["len", "int", "abs", "sum", "all", "any", "tuple", "list", "str", "min", "max", "dict", "bool", "isinstance", "range", "super"]
def glbB (K : PySem.W.Frag) (q : Str × D) : Bool := match q.2 with
  | .int i => (He.Fa.int q.1 i).ok K
  | .str z => (He.Fa.str q.1 z).ok K
  | _ => false
def clB (t : Dat) (K : PySem.W.Frag) (c : Nat) : Bool := gloB K (t.cn c) && (He.Fa.cls (t.cn c)).ok K && decide (PySem.W.findIn K (.ref (He.ga K (t.cn c))) "__class__" = some (some (.builtin "object.__class__"))) && decide (PySem.W.specialIn K (.builtin "object.__class__") "__get__" = some (some (.builtin "getset_descriptor.__get__"))) &&
  decide (PySem.W.takesIn K (.builtin "object.__class__") = some true) && decide (PySem.W.mroIn K (He.ga K (t.cn c)) (.type "object") = some true) && (List.range 6).all (fun u => decide (PySem.W.kitOne K (.ref (He.ga K (t.cn c))) (.type (tyName u)) = some false)) &&
  (List.range t.nC).all (fun c' => decide (PySem.W.kitOne K (.ref (He.ga K (t.cn c))) (.ref (He.ga K (t.cn c'))) = some (c == c'))) && (List.range 7).all (fun u => decide (PySem.W.kitOne K (.type (tyName u)) (.ref (He.ga K (t.cn c))) = some false)) &&
  t.flds.all (fun f => (He.Fa.noat (t.cn c) f).ok K) && PySem.W.makesIn K (He.ga K (t.cn c)) && decide (PySem.W.findIn K (.ref (He.ga K (t.cn c))) "__init__" = some (some (.ref (He.fAd K (t.cn c, some "__init__"))))) && PySem.W.isFn K (.ref (He.fAd K (t.cn c, some "__init__"))) && PySem.W.keepIn K (.ref (He.ga K (t.cn c)))
def erB (t : Dat) (K : PySem.W.Frag) (i : Nat) : Bool := gloB K (t.cn (t.nC + i)) && excB K (He.ga K (t.cn (t.nC + i))) && t.flds.all (fun f => decide (PySem.W.findIn K (.ref (He.ga K (t.cn (t.nC + i)))) f = some none)) &&
  (List.range t.errs.length).all (fun j => decide (PySem.W.exmOne K (.ref (He.ga K (t.cn (t.nC + i)))) (.ref (He.ga K (t.cn (t.nC + j)))) = some (t.nC + i == t.nC + j || t.nC + j == t.nC)) && decide (PySem.W.kitOne K (.ref (He.ga K (t.cn (t.nC + i)))) (.ref (He.ga K (t.cn (t.nC + j)))) = some (t.nC + i == t.nC + j || t.nC + j == t.nC))) &&
  (match t.errs[i]? with
    | some (_, true) => inhB K (He.ga K (t.cn t.nC)) (He.ga K (t.cn (t.nC + i))) (He.fAd K t.base)
    | some (_, false) => bzB' K (He.ga K (t.cn (t.nC + i))) (He.fAd K (t.cn (t.nC + i), some "__init__"))
    | none => false)
def bxB (t : Dat) (file : Str) (K : PySem.W.Frag) : Bool := (fre.all fun x => He.eqO (PySem.W.nsIn K mainGlobals x) (some none)) && (!t.gcd || He.eqO (PySem.W.nsIn K mainGlobals "gcd") (some (some (.builtin "math.gcd")))) && (t.glbs.all (glbB K)) && (t.fns.all (gloB K)) && ((List.range t.nC).all (t.clB K)) && ((List.range t.errs.length).all (t.erB K)) &&
  feB' file K (He.ga K (t.cn t.nC)) (He.fAd K t.base)
/-- what is asked of the data alone -/
def stB (t : Dat) : Bool := decide t.flds.Nodup && (t.flds.all fun f => decide (f ≠ Str.empty)) && decide (t.flds[t.gv]? = some "given") && decide (t.init.length = t.nC)
def dfsB (t : Dat) (defs : List DefE) : Bool := ((List.range t.fns.length).all fun f => match defs[f]? with
  | some e => decide (e.d.at_ = (t.fns.getD f Str.empty, none))
  | none => false) && (List.range t.nC).all fun c => match t.init[c]? with
  | some f => (match defs[f]? with
    | some e => decide (e.d.at_ = ((t.cn c, some ("__init__" : Str)) : Str × Option Str))
    | none => false)
  | none => false
/-! ### what follows -/
section
variable {t : Dat} {P : Program} {w : World} {K : PySem.W.Frag} {mg : Str → Option Value} {base : Heap} {defs : List DefE}
theorem rng {n : Nat} {p : Nat → Bool} (h : (List.range n).all p = true) {i : Nat} (hi : i < n) : p i = true := List.all_eq_true.mp h i (List.mem_range.mpr hi)
theorem relO1 {v : V} {u : Value} (r : RelV v u) (g f : Str) : RelO (List.lookup f [(g, v)]) (List.lookup f [(g, u)]) := by
  by_cases h : f = g
  · subst h
    simp [List.lookup]
    exact r
  · have e : (f == g) = false := by simpa using h
    simp [List.lookup, e]
    trivial
theorem fld_lt {f : Nat} (hf : f < t.flds.length) : t.flds.getD f Str.empty ∈ t.flds := by
  rw [List.getD_eq_getElem?_getD, List.getElem?_eq_getElem hf]
  exact List.getElem_mem hf
theorem gN (hs : t.stB = true) : t.flds.getD t.gv Str.empty = "given" := by
  unfold stB at hs
  obtain ⟨hs, _⟩ := and2 hs
  obtain ⟨_, h3⟩ := and2 hs
  have h3 := of_decide_eq_true h3
  rw [List.getD_eq_getElem?_getD, h3]
  rfl
theorem lw (M : Mod K mg base) (hx : t.bxB P.main.file K = true) (hst : t.stB = true) (FE : FeSh (fnZ K t.base)) (hbz : ∀ i, t.errs[i]?.map (·.2) = some false → ∃ d : He.DefD, d.at_ = ((t.cn (t.nC + i), some ("__init__" : Str)) : Str × Option Str) ∧ BzSh d ∧ ∃ fd, FunD K d.name d.qual d.params d.body d.scope (d.dvs K) (d.kws K) (He.fAd K d.at_) fd)
    (ht : (P.main.scope.names.lookup ("super" : Str)).isSome = false) (hdf : t.dfsB defs = true) (hkw : ∀ q ∈ t.kws, ∃ e, defs[q.1]? = some e ∧ e.Kw q.2.1 q.2.2.1 q.2.2.2) (hdef : ∀ e ∈ defs, (∃ fd, e.FD K fd) ∧ e.okB t.tp t.nC = true ∧ e.Bn) :
    Lw P w K mg base (t.G K) t.T t.tp defs := by
  unfold bxB at hx
  obtain ⟨hx, x7⟩ := and2 hx
  obtain ⟨hx, x6⟩ := and2 hx
  obtain ⟨hx, x5⟩ := and2 hx
  obtain ⟨hx, x4⟩ := and2 hx
  obtain ⟨hx, x3⟩ := and2 hx
  obtain ⟨x1, x2⟩ := and2 hx
  have gl : ∀ {x : Str}, gloB K x = true → mg x = some (.ref (He.ga K x)) := fun {x} h => PySem.W.mg_of M.kin M.glob (He.eqO_ok h)
  have fr : ∀ x ∈ fre, mg x = none := fun x hx => PySem.W.mg_none_of M.kin M.glob (He.eqO_ok (List.all_eq_true.mp x1 x hx))
  have st := hst
  unfold stB at st
  obtain ⟨st, st4⟩ := and2 st
  obtain ⟨st, st3⟩ := and2 st
  obtain ⟨st1, st2⟩ := and2 st
  have st1 := of_decide_eq_true st1
  have inj : ∀ f, f < t.flds.length → ∀ g, t.flds.getD g Str.empty = t.flds.getD f Str.empty → g = f := fun f hf g e => by
    by_cases hg : g < t.flds.length
    · rw [List.getD_eq_getElem?_getD, List.getD_eq_getElem?_getD, List.getElem?_eq_getElem hg, List.getElem?_eq_getElem hf] at e
      exact (List.getElem_inj st1).mp e
    · have := of_decide_eq_true (List.all_eq_true.mp st2 _ (fld_lt hf))
      rw [← e, List.getD_eq_getElem?_getD, List.getElem?_eq_none (by omega)] at this
      exact absurd rfl this
  have cl : ∀ c, c < t.nC → t.clB K c = true := fun c hc => rng x5 hc
  have er : ∀ i, i < t.errs.length → t.erB K i = true := fun i hi => rng x6 hi
  have erc : ∀ c, t.nC ≤ c → c < t.nE → ∃ i, i < t.errs.length ∧ c = t.nC + i := fun c h1 h2 => ⟨c - t.nC, by unfold nE at h2; unfold nC at h1 ⊢; omega, by omega⟩
  unfold dfsB at hdf
  obtain ⟨df1, df2⟩ := and2 hdf
  have FT : FeTxt P K mg (He.ga K (t.cn t.nC)) (He.fAd K t.base) := fe_ok x7 FE (fr "super" (by decide)) ht
  refine ⟨rfl, ⟨fun c hc => ?_, fun c hc u hu => ?_, fun c c' hc hc' => ?_, fun c hc u hu => ?_⟩, fun f hf => ⟨rfl, fun c hc => ?_, inj f hf⟩, fun b hb => ?_, fun u hu => ?_, fr _ (by decide), fr _ (by decide), fun hg => ?_, fun i hi => ?_, fun c h1 h2 => ?_, fun c h1 h2 => ?_, fun c f h1 h2 hf => ?_, fun c c' b h => ?_, fun f hf => ?_, fun c hc => ?_, fun f e hf => hdef e (List.mem_of_getElem? hf)⟩
  · have q := cl c hc
    unfold clB at q
    simp only [Bool.and_eq_true, decide_eq_true_eq] at q
    obtain ⟨⟨⟨⟨⟨⟨⟨⟨⟨⟨⟨⟨⟨q1, q2⟩, q3⟩, q4⟩, q5⟩, q6⟩, q7⟩, q8⟩, q9⟩, q10⟩, q11⟩, q12⟩, q13⟩, q14⟩ := q
    exact ⟨He.cls_ok q2, q3, q4, q5, q6⟩
  · have q := cl c hc
    unfold clB at q
    simp only [Bool.and_eq_true, decide_eq_true_eq] at q
    obtain ⟨⟨⟨⟨⟨⟨⟨⟨⟨⟨⟨⟨⟨q1, q2⟩, q3⟩, q4⟩, q5⟩, q6⟩, q7⟩, q8⟩, q9⟩, q10⟩, q11⟩, q12⟩, q13⟩, q14⟩ := q
    exact of_decide_eq_true (rng q7 hu)
  · have q := cl c hc
    unfold clB at q
    simp only [Bool.and_eq_true, decide_eq_true_eq] at q
    obtain ⟨⟨⟨⟨⟨⟨⟨⟨⟨⟨⟨⟨⟨q1, q2⟩, q3⟩, q4⟩, q5⟩, q6⟩, q7⟩, q8⟩, q9⟩, q10⟩, q11⟩, q12⟩, q13⟩, q14⟩ := q
    exact of_decide_eq_true (rng q8 hc')
  · have q := cl c hc
    unfold clB at q
    simp only [Bool.and_eq_true, decide_eq_true_eq] at q
    obtain ⟨⟨⟨⟨⟨⟨⟨⟨⟨⟨⟨⟨⟨q1, q2⟩, q3⟩, q4⟩, q5⟩, q6⟩, q7⟩, q8⟩, q9⟩, q10⟩, q11⟩, q12⟩, q13⟩, q14⟩ := q
    exact of_decide_eq_true (rng q9 hu)
  · have q := cl c hc
    unfold clB at q
    simp only [Bool.and_eq_true, decide_eq_true_eq] at q
    obtain ⟨⟨⟨⟨⟨⟨⟨⟨⟨⟨⟨⟨⟨q1, q2⟩, q3⟩, q4⟩, q5⟩, q6⟩, q7⟩, q8⟩, q9⟩, q10⟩, q11⟩, q12⟩, q13⟩, q14⟩ := q
    exact He.noat_ok (List.all_eq_true.mp q10 _ (fld_lt hf))
  · refine fr _ ?_
    cases b <;> first | exact absurd rfl hb | decide
  · refine fr _ ?_
    match u, hu with
    | 0, _ => decide
    | 1, _ => decide
    | 2, _ => decide
    | 3, _ => decide
    | 4, _ => decide
    | 5, _ => decide
  · have hg : t.gcd = true := hg
    rw [hg] at x2
    exact PySem.W.mg_of M.kin M.glob (He.eqO_ok (by simpa using x2))
  · have hi : i < t.glbs.length := hi
    have q := List.all_eq_true.mp x3 _ (List.getElem_mem hi)
    have e1 : t.tp.gnm i = t.glbs[i].1 := by
      show (t.glbs.getD i (Str.empty, .non)).1 = _
      rw [List.getD_eq_getElem?_getD, List.getElem?_eq_getElem hi]
      rfl
    have e2 : t.T.glb i = some t.glbs[i].2 := by
      show (t.glbs[i]?).map (·.2) = _
      rw [List.getElem?_eq_getElem hi]
      rfl
    rw [e1, e2]
    generalize t.glbs[i] = g at q
    obtain ⟨x, d⟩ := g
    unfold glbB at q
    cases d with
    | int j =>
      obtain ⟨tk, h⟩ := He.int_ok M.kin M.glob (x := x) (i := j) q
      exact ⟨.int j, _, h, ⟨tk, rfl⟩, fun z hz y => by cases hz; exact .int j⟩
    | str j =>
      obtain ⟨tk, h⟩ := He.str_ok M.kin M.glob (x := x) (z := j) q
      exact ⟨.str j, _, h, ⟨tk, rfl⟩, fun z hz y => by cases hz; exact .str j⟩
    | _ => cases q
  · obtain ⟨i, hi, rfl⟩ := erc c h1 h2
    have q := er i hi
    unfold erB at q
    simp only [Bool.and_eq_true] at q
    obtain ⟨⟨⟨⟨q1, q2⟩, q3⟩, q4⟩, q5⟩ := q
    refine ⟨gl q1, ?_⟩
    have he : ∀ ds, t.T.err (t.nC + i) ds = t.errD (t.nC + i) t.errs[i]? ds := fun ds => by
      show (if t.nC ≤ t.nC + i then _ else _) = _
      rw [if_pos (show t.nC ≤ t.nC + i from h1), Nat.add_sub_cancel_left]
    have hn : t.flds.getD t.gv Str.empty = "given" := gN hst
    cases ei : t.errs[i]? with
    | none => rw [ei] at q5; cases q5
    | some z =>
      obtain ⟨x, k⟩ := z
      rw [ei] at q5 he
      cases k with
      | true =>
        obtain ⟨c1, c2⟩ := inhB_ok q5
        refine ⟨1, _, fe_mk FT M c1 c2, fun y ds q vs us hq rr rv => ?_⟩
        rw [he] at hq
        match ds, hq with
        | [v], hq =>
          have hq : some (⟨t.nC + i, [t.gv], [v]⟩ : Exn) = some q := hq
          cases hq
          match vs, us, rr, rv with
          | [v1], [u1], .cons r1 .nil, .cons s1 .nil =>
            refine ⟨rfl, rfl, [("given", v1)], relO1 s1 "given", ?_, .cons r1 .nil⟩
            show [("given" : Str)] = [t.flds.getD t.gv Str.empty]
            rw [hn]
        | [], hq => cases hq
        | _ :: _ :: _, hq => cases hq
      | false =>
        obtain ⟨d, d1, d2, fd, d3⟩ := hbz i (by rw [ei]; rfl)
        have q5 : bzB' K (He.ga K (t.cn (t.nC + i))) (He.fAd K (t.cn (t.nC + i), some "__init__")) = true := q5
        rw [← d1] at q5
        refine ⟨0, _, bz_mk (bz_ok q5 d2 d3) M, fun y ds q vs us hq rr rv => ?_⟩
        rw [he] at hq
        match ds, hq with
        | [], hq =>
          have hq : some (⟨t.nC + i, [t.gv], [.non]⟩ : Exn) = some q := hq
          cases hq
          match vs, us, rr, rv with
          | [], [], .nil, .nil =>
            refine ⟨rfl, rfl, [("given", .non)], relO1 (v := .non) (u := .none) rfl "given", ?_, .cons .non .nil⟩
            show [("given" : Str)] = [t.flds.getD t.gv Str.empty]
            rw [hn]
        | _ :: _, hq => cases hq
  · obtain ⟨i, hi, rfl⟩ := erc c h1 h2
    have q := er i hi
    unfold erB at q
    simp only [Bool.and_eq_true] at q
    obtain ⟨⟨⟨⟨q1, q2⟩, q3⟩, q4⟩, q5⟩ := q
    exact ⟨(excB_ok q2).2, (excB_ok q2).1⟩
  · obtain ⟨i, hi, rfl⟩ := erc c h1 h2
    have q := er i hi
    unfold erB at q
    simp only [Bool.and_eq_true] at q
    obtain ⟨⟨⟨⟨q1, q2⟩, q3⟩, q4⟩, q5⟩ := q
    exact of_decide_eq_true (List.all_eq_true.mp q3 _ (fld_lt hf))
  · have h : (if t.nC ≤ c ∧ c < t.nE ∧ t.nC ≤ c' ∧ c' < t.nE then some (c == c' || c' == t.nC) else none) = some b := h
    split at h
    · next hc =>
      obtain ⟨h1, h2, h3, h4⟩ := hc
      cases h
      obtain ⟨i, hi, rfl⟩ := erc c h1 h2
      obtain ⟨j, hj, rfl⟩ := erc c' h3 h4
      have q := er i hi
      unfold erB at q
      simp only [Bool.and_eq_true] at q
      obtain ⟨⟨⟨⟨q1, q2⟩, q3⟩, q4⟩, q5⟩ := q
      obtain ⟨z1, z2⟩ := and2 (rng q4 hj)
      exact ⟨⟨h1, h2⟩, of_decide_eq_true z1, of_decide_eq_true z2⟩
    · cases h
  · have hf : f < t.fns.length := hf
    have q := rng df1 hf
    cases e : defs[f]? with
    | none => simp only [e] at q; cases q
    | some d =>
      simp only [e] at q
      have q := of_decide_eq_true q
      refine ⟨d, rfl, ?_, fun j p hj hp => ?_⟩
      · have hm : t.fns.getD f Str.empty ∈ t.fns := by
          rw [List.getD_eq_getElem?_getD, List.getElem?_eq_getElem hf]
          exact List.getElem_mem hf
        have := gl (List.all_eq_true.mp x4 _ hm)
        rw [q]
        exact this
      · have hj : (t.kwAt j).1 = f := hj
        have hp : (t.kws[j]?).map (·.2.2.2) = some p := hp
        cases ej : t.kws[j]? with
        | none => rw [ej] at hp; cases hp
        | some z =>
          have ez : t.kwAt j = z := by
            unfold kwAt
            rw [List.getD_eq_getElem?_getD, ej]
            rfl
          rw [ej] at hp
          cases hp
          obtain ⟨e', k1, k2⟩ := hkw z (List.mem_of_getElem? ej)
          rw [← ez, hj, e] at k1
          cases k1
          show d.Kw (t.kwAt j).2.1 (t.kwAt j).2.2.1 z.2.2.2
          rw [ez]
          exact k2
  · have hc : c < t.nC := hc
    have q := cl c hc
    unfold clB at q
    simp only [Bool.and_eq_true, decide_eq_true_eq] at q
    obtain ⟨⟨⟨⟨⟨⟨⟨⟨⟨⟨⟨⟨⟨q1, q2⟩, q3⟩, q4⟩, q5⟩, q6⟩, q7⟩, q8⟩, q9⟩, q10⟩, q11⟩, q12⟩, q13⟩, q14⟩ := q
    have z := rng df2 hc
    cases e : t.init[c]? with
    | none => simp only [e] at z; cases z
    | some f =>
      simp only [e] at z
      cases ed : defs[f]? with
      | none => simp only [ed] at z; cases z
      | some d =>
        simp only [ed] at z
        have z := of_decide_eq_true z
        refine ⟨gl q1, q14, f, d, ?_, ed, ?_⟩
        · show (if c < t.nC then t.init[c]? else none) = some f
          rw [if_pos hc, e]
        · rw [z]
          exact ⟨q11, q12, q13, q14⟩
end
end Dat
end EF

/-! FL: the end of a law. -/
namespace EF
open PySem PySem.Spec PyProof.Rows L2

theorem FnOk_cx {P : Program} {w : World} {K : PySem.W.Frag} {mg : Str → Option Value} {base : Heap} {CX CX' : CXT} {k : Nat} {f : Addr} {fd : FuncData} {ps : List Str} {sp : Sp} (hc : ∀ outer H s E u s', CX outer H s E u s' → CX' outer H s E u s') (hl : ∀ vs H Q E, sp vs H Q E → vs.length = ps.length)
    (F : Mod K mg base → FnOk P w K mg base CX k f fd ps sp) : FnOk P w K mg base CX' k f fd ps sp := by
  refine ⟨hl, fun A outer s H args us vs Q E hr e0 hb r h => codeAny_mono ((F e0.mod).run A outer s H args us vs Q E hr e0 hb r h) fun r s' q => ?_⟩
  cases r with
  | ok fl => cases fl <;> exact q
  | error e => exact hc _ _ _ _ _ _ q
theorem spF_len {G : Gx} {F : List D → M D} {np : Nat} {vs : List V} {H : Hp} {Q : VK} {E : XK} (h : spF G F np vs H Q E) : vs.length = np := by
  obtain ⟨y, ds, _, _, r, hl, _⟩ := h
  rw [← r.length, hl]
theorem reps_ints {G : Gx} {S : Hp} : ∀ l : List Int, Reps G [] S (l.map D.int) (l.map V.int)
  | [] => .nil
  | i :: l => .cons (.int i) (reps_ints l)
/-- the script is met -/
theorem law_sp {G : Gx} {K : PySem.W.Frag} (hK : G.K = K) {F : List D → M D} (hk : ∀ ns : List Int, ns.length ≤ 63 → ∃ ν', F [.frz (ns.map .int)] [] = some (.ok (.bl true), ν')) (H : Hp) (a : Addr) (ns : List Int) (hl : ns.length ≤ 63) (hS : SqL K H a (ns.map V.int)) :
    spF G F 1 [.ref a] H (fun v _ => v = .bl true) fun _ _ _ => False := by
  refine ⟨⟨H, H, [], []⟩, [.frz (ns.map .int)], rfl, ⟨fun _ _ h => h, rfl, Nat.le_refl _, List.nodup_nil, fun n b d h => by simp at h⟩, .cons (.frz (by rw [hK]; exact hS) (reps_ints ns)) .nil, rfl, ?_⟩
  obtain ⟨ν', hv⟩ := hk ns hl
  unfold AfterF
  have hv' : F [.frz (ns.map .int)] (⟨H, H, [], []⟩ : Sit).ν = some (.ok (.bl true), ν') := hv
  rw [hv']
  intro b y _ _ _ r
  cases r
  rfl
theorem walk_ofF {l : PySem.W.OpenLaw} {n k : Nat} {q : Program} {loose : List Str} {XP : (Str → Option Value) → Heap → Prop} {YP : World → Heap → Prop} {d : DefRec} {x : Str}
    (hn : l.most = some n) (hn2 : n ≤ sizeLine) (hdf : d.params.defaults = []) (hr : Room k callerA)
    (F : ∀ (w : World) (mg : Str → Option Value) (fa : Addr) (h : Heap), YP w h → h.Ns mainGlobals mg → mg d.name = some (.ref fa) →
      ∃ (K : PySem.W.Frag) (fd : FuncData) (sp : Sp), K.In h ∧ (∀ (s : Shared) (u : Value), BindsTo s fd ⟨[u], []⟩ [(x, u)]) ∧
        (∀ (H : Hp) (a : Addr) (ns : List Int), ns.length ≤ n → Only H → SqL K H a (ns.map V.int) → sp [.ref a] H (fun v _ => v = .bl true) fun _ _ _ => False) ∧
        (∀ vs H Q E, sp vs H Q E → vs.length = [x].length) ∧ ∀ base : Heap, Mod K mg base → FnOk l.prog w K mg base (L2.CX l.prog w) k fa fd [x] sp) :
    PySem.W.WalkO q loose XP YP l.row.toRowW d [] (fun f vs => PySem.call f vs) := by
  refine walk_ofE (x := x) (CX := fun outer H s E u s' => ∃ w, L2.CX l.prog w outer H s E u s') hn hn2 hdf hr (fun w mg fa h Y G hm => ?_) fun H s e s' ⟨w, z⟩ => ?_
  · obtain ⟨K, fd, sp, h1, h2, h3, h4, h5⟩ := F w mg fa h Y G hm
    exact ⟨K, fd, sp, h1, h2, h3, fun base _ _ => FnOk_cx (fun _ _ _ _ _ _ z => ⟨w, z⟩) h4 (h5 base)⟩
  · obtain ⟨_, _, _, _, _, _, _, _, _, _, _, _, z⟩ := z
    exact z
end EF

/-! FM: the evaluator as a machine whose rests are data: for simp. -/
namespace EF
open PySem

abbrev RS (α : Type) : Type := Option (Res α × Sto)
section
variable (T : Tab) (F F1 : Nat → List D → M D) (n0 W : Nat)
def retO (ν : Sto) : Option D → RS D
  | some d => some (.ok d, ν)
  | none => none
def retB (ν : Sto) : Option Bool → RS D
  | some d => some (.ok (.bl d), ν)
  | none => none
def bin2 (op : Bop) (x : D) : RS D → RS D
  | some (.ok y, ν) => retO ν (binD op (un ν x) (un ν y))
  | some (.ex x, ν) => some (.ex x, ν)
  | none => none
def bin1 (env : Env) (op : Bop) (b : E) : RS D → RS D
  | some (.ok x, ν) => bin2 op x (evE T F F1 n0 W env b ν)
  | some (.ex x, ν) => some (.ex x, ν)
  | none => none
def cmp2 (op : Cop) (x : D) : RS D → RS D
  | some (.ok y, ν) => retB ν (cmpD ν op x y)
  | some (.ex x, ν) => some (.ex x, ν)
  | none => none
def cmp1 (env : Env) (op : Cop) (b : E) : RS D → RS D
  | some (.ok x, ν) => cmp2 op x (evE T F F1 n0 W env b ν)
  | some (.ex x, ν) => some (.ex x, ν)
  | none => none
def chn3 (ν : Sto) (env : Env) (o2 : Cop) (y : D) (c : E) : Option Bool → RS D
  | some true => cmp2 o2 y (evE T F F1 n0 W env c ν)
  | some false => some (.ok (.bl false), ν)
  | none => none
def chn2 (env : Env) (o1 o2 : Cop) (x : D) (c : E) : RS D → RS D
  | some (.ok y, ν) => chn3 T F F1 n0 W ν env o2 y c (cmpD ν o1 x y)
  | some (.ex x, ν) => some (.ex x, ν)
  | none => none
def chn1 (env : Env) (o1 o2 : Cop) (b c : E) : RS D → RS D
  | some (.ok x, ν) => chn2 T F F1 n0 W env o1 o2 x c (evE T F F1 n0 W env b ν)
  | some (.ex x, ν) => some (.ex x, ν)
  | none => none
def k_not1 : RS D → RS D
  | some (.ok x, ν) => retB ν ((tru (un ν x)).map (!·))
  | some (.ex x, ν) => some (.ex x, ν)
  | none => none
def k_neg1 : RS D → RS D
  | some (.ok x, ν) => retO ν (match x with | .int i => some (.int (-i)) | _ => none)
  | some (.ex x, ν) => some (.ex x, ν)
  | none => none
def k_and2 (env : Env) (x : D) (b : E) (ν : Sto) : Option Bool → RS D
  | some true => evE T F F1 n0 W env b ν
  | some false => some (.ok x, ν)
  | none => none
def k_and1 (env : Env) (b : E) : RS D → RS D
  | some (.ok x, ν) => k_and2 T F F1 n0 W env x b ν (tru (un ν x))
  | some (.ex x, ν) => some (.ex x, ν)
  | none => none
def k_or2 (env : Env) (x : D) (b : E) (ν : Sto) : Option Bool → RS D
  | some false => evE T F F1 n0 W env b ν
  | some true => some (.ok x, ν)
  | none => none
def k_or1 (env : Env) (b : E) : RS D → RS D
  | some (.ok x, ν) => k_or2 T F F1 n0 W env x b ν (tru (un ν x))
  | some (.ex x, ν) => some (.ex x, ν)
  | none => none
def k_ife2 (env : Env) (a b : E) (ν : Sto) : Option Bool → RS D
  | some true => evE T F F1 n0 W env a ν
  | some false => evE T F F1 n0 W env b ν
  | none => none
def k_ife1 (env : Env) (a b : E) : RS D → RS D
  | some (.ok x, ν) => k_ife2 T F F1 n0 W env a b ν (tru (un ν x))
  | some (.ex x, ν) => some (.ex x, ν)
  | none => none
def tup1 : RS (List D) → RS D
  | some (.ok ds, ν) => if ds.length ≤ sizeLine then some (.ok (.tup ds), ν) else none
  | some (.ex x, ν) => some (.ex x, ν)
  | none => none
def lst1 (nw : Bool) : RS (List D) → RS D
  | some (.ok ds, ν) => layL nw ds ν
  | some (.ex x, ν) => some (.ex x, ν)
  | none => none
def dsp1 (nw : Bool) (ks : List DK) : RS (List D) → RS D
  | some (.ok ds, ν) => if ds.length = ks.length ∧ ks.length ≤ 15 then mkNew nw (.dct ks ds) ν else none
  | some (.ex x, ν) => some (.ex x, ν)
  | none => none
def call1 (f : Nat) : RS (List D) → RS D
  | some (.ok ds, ν) => F f ds ν
  | some (.ex x, ν) => some (.ex x, ν)
  | none => none
def kw3 (f : Nat) (ν : Sto) : Option (List D) → RS D
  | some as => F f as ν
  | none => none
def kw2 (f j : Nat) (ds : List D) : RS (List D) → RS D
  | some (.ok zs, ν) => kw3 F f ν ((T.kw j).bind fun p => permD p (ds ++ zs))
  | some (.ex x, ν) => some (.ex x, ν)
  | none => none
def kw1 (env : Env) (f j : Nat) (ks : Es) : RS (List D) → RS D
  | some (.ok ds, ν) => kw2 T F f j ds (evEs T F F1 n0 W env ks ν)
  | some (.ex x, ν) => some (.ex x, ν)
  | none => none
def starD (ν : Sto) (x : D) : Option (List D) := match un ν x with
  | .tup xs => some xs
  | .lst xs => some xs
  | _ => none
def star1 (f : Nat) : RS D → RS D
  | some (.ok x, ν) => kw3 F f ν (starD ν x)
  | some (.ex x, ν) => some (.ex x, ν)
  | none => none
def new1 (nw : Bool) (ν : Sto) : Option D → RS D
  | some d => mkNew nw d ν
  | none => none
def bi1 (nw : Bool) (b : Bi) : RS (List D) → RS D
  | some (.ok ds, ν) => new1 nw ν (biD ν b ds)
  | some (.ex x, ν) => some (.ex x, ν)
  | none => none
def mt2 (nw : Bool) (m : Mt) (x : D) : RS (List D) → RS D
  | some (.ok ds, ν) => mtE n0 nw m x ds ν
  | some (.ex x, ν) => some (.ex x, ν)
  | none => none
def mt1 (env : Env) (nw : Bool) (m : Mt) (es : Es) : RS D → RS D
  | some (.ok x, ν) => (match mtTy m (un ν x) with
    | some _ => mt2 n0 nw m x (evEs T F F1 n0 W env es ν)
    | none => none)
  | some (.ex x, ν) => some (.ex x, ν)
  | none => none
def attr1 (f : Nat) : RS D → RS D
  | some (.ok x, ν) => retO ν (attrD ν x f)
  | some (.ex x, ν) => some (.ex x, ν)
  | none => none
def idx2 (x : D) : RS D → RS D
  | some (.ok y, ν) => retO ν (idxD ν x y)
  | some (.ex x, ν) => some (.ex x, ν)
  | none => none
def idx1 (env : Env) (i : E) : RS D → RS D
  | some (.ok x, ν) => idx2 x (evE T F F1 n0 W env i ν)
  | some (.ex x, ν) => some (.ex x, ν)
  | none => none
def sli3 (nw : Bool) (x : D) (l : Option Int) : RS (Option Int) → RS D
  | some (.ok h, ν) => new1 nw ν (sliD nw ν x l h)
  | some (.ex x, ν) => some (.ex x, ν)
  | none => none
def sli2 (env : Env) (nw : Bool) (x : D) (hi : Oe) : RS (Option Int) → RS D
  | some (.ok l, ν) => sli3 nw x l (evO T F F1 n0 W env hi ν)
  | some (.ex x, ν) => some (.ex x, ν)
  | none => none
def sli1 (env : Env) (nw : Bool) (lo hi : Oe) : RS D → RS D
  | some (.ok x, ν) => sli2 T F F1 n0 W env nw x hi (evO T F F1 n0 W env lo ν)
  | some (.ex x, ν) => some (.ex x, ν)
  | none => none
def rev1 : RS D → RS D
  | some (.ok x, ν) => retO ν (revD ν x)
  | some (.ex x, ν) => some (.ex x, ν)
  | none => none
def isi1' (cs : List Cl) : RS D → RS D
  | some (.ok x, ν) => retB ν (isiD (un ν x) cs)
  | some (.ex x, ν) => some (.ex x, ν)
  | none => none
def mk1 (C : Nat) : RS (List D) → RS D
  | some (.ok ds, ν) => makeD T F1 C ds ν
  | some (.ex x, ν) => some (.ex x, ν)
  | none => none
def cons2 (d : D) : RS (List D) → RS (List D)
  | some (.ok ds, ν) => some (.ok (d :: ds), ν)
  | some (.ex x, ν) => some (.ex x, ν)
  | none => none
def cons1 (env : Env) (r : Es) : RS D → RS (List D)
  | some (.ok d, ν) => cons2 d (evEs T F F1 n0 W env r ν)
  | some (.ex x, ν) => some (.ex x, ν)
  | none => none
def k_o1 : RS D → RS (Option Int)
  | some (.ok d, ν) => (match oInt d with
    | some i => some (.ok (some i), ν)
    | none => none)
  | some (.ex x, ν) => some (.ex x, ν)
  | none => none
def fst1 : RS Str → RS D
  | some (.ok d, ν) => some (.ok (.str d), ν)
  | some (.ex x, ν) => some (.ex x, ν)
  | none => none
def j2 (env : Env) (r : Es) (ν : Sto) : Option Str → RS Str
  | some acc => evJ T F F1 n0 W env r acc ν
  | none => none
def j1 (env : Env) (r : Es) (acc : Str) : RS D → RS Str
  | some (.ok d, ν) => j2 T F F1 n0 W env r ν (txtD acc d)
  | some (.ex x, ν) => some (.ex x, ν)
  | none => none
/-- a comprehension's turn -/
def turnE (env : Env) (el : E) (tg : Tg) (cd : Oe) (own : List Nat) : D → M (Option D) := fun d => (M.look fun ν => bindT ν tg d (env.wipe own)).bind fun env' => (evC T F F1 n0 W env' cd).bind fun k => match k with
          | true => (evE T F F1 n0 W env' el).bind fun x => M.pure (some x)
          | false => M.pure none
def comp2 (nw : Bool) : RS (List D) → RS D
  | some (.ok xs, ν) => mkNew nw (.lst xs) ν
  | some (.ex x, ν) => some (.ex x, ν)
  | none => none
def comp1 (env : Env) (nw : Bool) (el : E) (tg : Tg) (cd : Oe) (own : List Nat) : RS Src → RS D
  | some (.ok src, ν) => comp2 nw (loopC src (turnE T F F1 n0 W env el tg cd own) W 0 [] ν)
  | some (.ex x, ν) => some (.ex x, ν)
  | none => none
def it1 : RS D → RS Src
  | some (.ok d, ν) => (match srcOf ν d with
    | some s => some (.ok s, ν)
    | none => none)
  | some (.ex x, ν) => some (.ex x, ν)
  | none => none
def rng1 : RS (List D) → RS Src
  | some (.ok ds, ν) => (match rngD ds with
    | some s => some (.ok s, ν)
    | none => none)
  | some (.ex x, ν) => some (.ex x, ν)
  | none => none
/-! ### statements -/
def asg1 (env : Env) (t : Tg) : RS D → Option (Flow × Sto)
  | some (.ok d, ν) => asgK (bindT ν t d env) ν
  | some (.ex x, ν) => some (.ex x env, ν)
  | none => none
def par1 (env : Env) (is : List Nat) : RS (List D) → Option (Flow × Sto)
  | some (.ok ds, ν) => asgK (setAll env is ds) ν
  | some (.ex x, ν) => some (.ex x env, ν)
  | none => none
def expr1 (env : Env) : RS D → Option (Flow × Sto)
  | some (.ok _, ν) => some (.nx env, ν)
  | some (.ex x, ν) => some (.ex x env, ν)
  | none => none
def ret1 (env : Env) : RS D → Option (Flow × Sto)
  | some (.ok d, ν) => some (.rt d, ν)
  | some (.ex x, ν) => some (.ex x env, ν)
  | none => none
def if2 (env : Env) (a b : Ss) (ν : Sto) : Option Bool → Option (Flow × Sto)
  | some true => evSs T F F1 n0 W env a ν
  | some false => evSs T F F1 n0 W env b ν
  | none => none
def if1 (env : Env) (a b : Ss) : RS D → Option (Flow × Sto)
  | some (.ok d, ν) => if2 T F F1 n0 W env a b ν (tru (un ν d))
  | some (.ex x, ν) => some (.ex x env, ν)
  | none => none
/-- a loop's turns, its body as data -/
def loopT (t : Tg) (b : Ss) (src : Src) (w i : Nat) (env : Env) : MF := turns src t (fun env' => evSs T F F1 n0 W env' b) w i env
def loop1 (env : Env) (t : Tg) (b : Ss) : RS Src → Option (Flow × Sto)
  | some (.ok src, ν) => loopT T F F1 n0 W t b src W 0 env ν
  | some (.ex x, ν) => some (.ex x env, ν)
  | none => none
def whlT (c : E) (b : Ss) (w : Nat) (env : Env) : MF := whileM (fun env' => (evE T F F1 n0 W env' c).bind fun x => M.look fun ν => tru (un ν x)) (fun env' => evSs T F F1 n0 W env' b) w env
def raise2 (env : Env) (ν : Sto) : Option Exn → Option (Flow × Sto)
  | some x => some (.ex x env, ν)
  | none => none
def raise1 (env : Env) (C : Nat) : RS (List D) → Option (Flow × Sto)
  | some (.ok ds, ν) => raise2 env ν (T.err C ds)
  | some (.ex x, ν) => some (.ex x env, ν)
  | none => none
def tri1 (hs : Hs) : Option (Flow × Sto) → Option (Flow × Sto)
  | some (.ex x env', ν') => handle T x env' hs ν'
  | some (.nx e, ν) => some (.nx e, ν)
  | some (.rt e, ν) => some (.rt e, ν)
  | some (.bk e, ν) => some (.bk e, ν)
  | some (.ct e, ν) => some (.ct e, ν)
  | none => none
def setI3 (env : Env) (v x : D) : RS D → Option (Flow × Sto)
  | some (.ok y, ν) => stoK env (setX n0 ν x y v)
  | some (.ex x, ν) => some (.ex x env, ν)
  | none => none
def setI2 (env : Env) (v : D) (i : E) : RS D → Option (Flow × Sto)
  | some (.ok x, ν) => setI3 n0 env v x (evE T F F1 n0 W env i ν)
  | some (.ex x, ν) => some (.ex x env, ν)
  | none => none
def setI1 (env : Env) (o i : E) : RS D → Option (Flow × Sto)
  | some (.ok v, ν) => setI2 T F F1 n0 W env v i (evE T F F1 n0 W env o ν)
  | some (.ex x, ν) => some (.ex x env, ν)
  | none => none
def setF1 (env : Env) (i f : Nat) : RS D → Option (Flow × Sto)
  | some (.ok v, ν) => stoK env (setY n0 ν (env[i]?.bind id) f v)
  | some (.ex x, ν) => some (.ex x env, ν)
  | none => none
def seqS (r : Ss) : Option (Flow × Sto) → Option (Flow × Sto)
  | some (.nx env', ν') => evSs T F F1 n0 W env' r ν'
  | some (.ex x e, ν) => some (.ex x e, ν)
  | some (.rt e, ν) => some (.rt e, ν)
  | some (.bk e, ν) => some (.bk e, ν)
  | some (.ct e, ν) => some (.ct e, ν)
  | none => none
end
set_option autoImplicit true
section
variable {T : Tab} {F F1 : Nat → List D → M D} {n0 W : Nat}
@[simp] theorem retO_0 : retO  ν (some d) = (some (.ok d, ν)) := rfl
@[simp] theorem retO_1 : retO  ν (none) = (none) := rfl
@[simp] theorem retB_0 : retB  ν (some d) = (some (.ok (.bl d), ν)) := rfl
@[simp] theorem retB_1 : retB  ν (none) = (none) := rfl
@[simp] theorem bin2_0 : bin2  op x (some (.ok y, ν)) = (retO ν (binD op (un ν x) (un ν y))) := rfl
@[simp] theorem bin2_1 : bin2  op x (some (.ex q, ν)) = (some (.ex q, ν)) := rfl
@[simp] theorem bin2_2 : bin2  op x (none) = (none) := rfl
@[simp] theorem bin1_0 : bin1 T F F1 n0 W env op b (some (.ok x, ν)) = (bin2 op x (evE T F F1 n0 W env b ν)) := rfl
@[simp] theorem bin1_1 : bin1 T F F1 n0 W env op b (some (.ex q, ν)) = (some (.ex q, ν)) := rfl
@[simp] theorem bin1_2 : bin1 T F F1 n0 W env op b (none) = (none) := rfl
@[simp] theorem cmp2_0 : cmp2  op x (some (.ok y, ν)) = (retB ν (cmpD ν op x y)) := rfl
@[simp] theorem cmp2_1 : cmp2  op x (some (.ex q, ν)) = (some (.ex q, ν)) := rfl
@[simp] theorem cmp2_2 : cmp2  op x (none) = (none) := rfl
@[simp] theorem cmp1_0 : cmp1 T F F1 n0 W env op b (some (.ok x, ν)) = (cmp2 op x (evE T F F1 n0 W env b ν)) := rfl
@[simp] theorem cmp1_1 : cmp1 T F F1 n0 W env op b (some (.ex q, ν)) = (some (.ex q, ν)) := rfl
@[simp] theorem cmp1_2 : cmp1 T F F1 n0 W env op b (none) = (none) := rfl
@[simp] theorem chn3_0 : chn3 T F F1 n0 W ν env o2 y c (some true) = (cmp2 o2 y (evE T F F1 n0 W env c ν)) := rfl
@[simp] theorem chn3_1 : chn3 T F F1 n0 W ν env o2 y c (some false) = (some (.ok (.bl false), ν)) := rfl
@[simp] theorem chn3_2 : chn3 T F F1 n0 W ν env o2 y c (none) = (none) := rfl
@[simp] theorem chn2_0 : chn2 T F F1 n0 W env o1 o2 x c (some (.ok y, ν)) = (chn3 T F F1 n0 W ν env o2 y c (cmpD ν o1 x y)) := rfl
@[simp] theorem chn2_1 : chn2 T F F1 n0 W env o1 o2 x c (some (.ex q, ν)) = (some (.ex q, ν)) := rfl
@[simp] theorem chn2_2 : chn2 T F F1 n0 W env o1 o2 x c (none) = (none) := rfl
@[simp] theorem chn1_0 : chn1 T F F1 n0 W env o1 o2 b c (some (.ok x, ν)) = (chn2 T F F1 n0 W env o1 o2 x c (evE T F F1 n0 W env b ν)) := rfl
@[simp] theorem chn1_1 : chn1 T F F1 n0 W env o1 o2 b c (some (.ex q, ν)) = (some (.ex q, ν)) := rfl
@[simp] theorem chn1_2 : chn1 T F F1 n0 W env o1 o2 b c (none) = (none) := rfl
@[simp] theorem k_not1_0 : k_not1   (some (.ok x, ν)) = (retB ν ((tru (un ν x)).map (!·))) := rfl
@[simp] theorem k_not1_1 : k_not1   (some (.ex q, ν)) = (some (.ex q, ν)) := rfl
@[simp] theorem k_not1_2 : k_not1   (none) = (none) := rfl
@[simp] theorem k_neg1_0 : k_neg1   (some (.ok x, ν)) = (retO ν (match x with | .int i => some (.int (-i)) | _ => none)) := rfl
@[simp] theorem k_neg1_1 : k_neg1   (some (.ex q, ν)) = (some (.ex q, ν)) := rfl
@[simp] theorem k_neg1_2 : k_neg1   (none) = (none) := rfl
@[simp] theorem k_and2_0 : k_and2 T F F1 n0 W env x b ν (some true) = (evE T F F1 n0 W env b ν) := rfl
@[simp] theorem k_and2_1 : k_and2 T F F1 n0 W env x b ν (some false) = (some (.ok x, ν)) := rfl
@[simp] theorem k_and2_2 : k_and2 T F F1 n0 W env x b ν (none) = (none) := rfl
@[simp] theorem k_and1_0 : k_and1 T F F1 n0 W env b (some (.ok x, ν)) = (k_and2 T F F1 n0 W env x b ν (tru (un ν x))) := rfl
@[simp] theorem k_and1_1 : k_and1 T F F1 n0 W env b (some (.ex q, ν)) = (some (.ex q, ν)) := rfl
@[simp] theorem k_and1_2 : k_and1 T F F1 n0 W env b (none) = (none) := rfl
@[simp] theorem k_or2_0 : k_or2 T F F1 n0 W env x b ν (some false) = (evE T F F1 n0 W env b ν) := rfl
@[simp] theorem k_or2_1 : k_or2 T F F1 n0 W env x b ν (some true) = (some (.ok x, ν)) := rfl
@[simp] theorem k_or2_2 : k_or2 T F F1 n0 W env x b ν (none) = (none) := rfl
@[simp] theorem k_or1_0 : k_or1 T F F1 n0 W env b (some (.ok x, ν)) = (k_or2 T F F1 n0 W env x b ν (tru (un ν x))) := rfl
@[simp] theorem k_or1_1 : k_or1 T F F1 n0 W env b (some (.ex q, ν)) = (some (.ex q, ν)) := rfl
@[simp] theorem k_or1_2 : k_or1 T F F1 n0 W env b (none) = (none) := rfl
@[simp] theorem k_ife2_0 : k_ife2 T F F1 n0 W env a b ν (some true) = (evE T F F1 n0 W env a ν) := rfl
@[simp] theorem k_ife2_1 : k_ife2 T F F1 n0 W env a b ν (some false) = (evE T F F1 n0 W env b ν) := rfl
@[simp] theorem k_ife2_2 : k_ife2 T F F1 n0 W env a b ν (none) = (none) := rfl
@[simp] theorem k_ife1_0 : k_ife1 T F F1 n0 W env a b (some (.ok x, ν)) = (k_ife2 T F F1 n0 W env a b ν (tru (un ν x))) := rfl
@[simp] theorem k_ife1_1 : k_ife1 T F F1 n0 W env a b (some (.ex q, ν)) = (some (.ex q, ν)) := rfl
@[simp] theorem k_ife1_2 : k_ife1 T F F1 n0 W env a b (none) = (none) := rfl
@[simp] theorem tup1_0 : tup1   (some (.ok ds, ν)) = (if ds.length ≤ sizeLine then some (.ok (.tup ds), ν) else none) := rfl
@[simp] theorem tup1_1 : tup1   (some (.ex q, ν)) = (some (.ex q, ν)) := rfl
@[simp] theorem tup1_2 : tup1   (none) = (none) := rfl
@[simp] theorem lst1_0 : lst1  nw (some (.ok ds, ν)) = (layL nw ds ν) := rfl
@[simp] theorem lst1_1 : lst1  nw (some (.ex q, ν)) = (some (.ex q, ν)) := rfl
@[simp] theorem lst1_2 : lst1  nw (none) = (none) := rfl
@[simp] theorem dsp1_0 : dsp1  nw ks (some (.ok ds, ν)) = (if ds.length = ks.length ∧ ks.length ≤ 15 then mkNew nw (.dct ks ds) ν else none) := rfl
@[simp] theorem dsp1_1 : dsp1  nw ks (some (.ex q, ν)) = (some (.ex q, ν)) := rfl
@[simp] theorem dsp1_2 : dsp1  nw ks (none) = (none) := rfl
@[simp] theorem call1_0 : call1 F f (some (.ok ds, ν)) = (F f ds ν) := rfl
@[simp] theorem call1_1 : call1 F f (some (.ex q, ν)) = (some (.ex q, ν)) := rfl
@[simp] theorem call1_2 : call1 F f (none) = (none) := rfl
@[simp] theorem kw3_0 : kw3 F f ν (some as) = (F f as ν) := rfl
@[simp] theorem kw3_1 : kw3 F f ν (none) = (none) := rfl
@[simp] theorem kw2_0 : kw2 T F f j ds (some (.ok zs, ν)) = (kw3 F f ν ((T.kw j).bind fun p => permD p (ds ++ zs))) := rfl
@[simp] theorem kw2_1 : kw2 T F f j ds (some (.ex q, ν)) = (some (.ex q, ν)) := rfl
@[simp] theorem kw2_2 : kw2 T F f j ds (none) = (none) := rfl
@[simp] theorem kw1_0 : kw1 T F F1 n0 W env f j ks (some (.ok ds, ν)) = (kw2 T F f j ds (evEs T F F1 n0 W env ks ν)) := rfl
@[simp] theorem kw1_1 : kw1 T F F1 n0 W env f j ks (some (.ex q, ν)) = (some (.ex q, ν)) := rfl
@[simp] theorem kw1_2 : kw1 T F F1 n0 W env f j ks (none) = (none) := rfl
@[simp] theorem star1_0 : star1 F f (some (.ok x, ν)) = (kw3 F f ν (starD ν x)) := rfl
@[simp] theorem star1_1 : star1 F f (some (.ex q, ν)) = (some (.ex q, ν)) := rfl
@[simp] theorem star1_2 : star1 F f (none) = (none) := rfl
@[simp] theorem new1_0 : new1  nw ν (some d) = (mkNew nw d ν) := rfl
@[simp] theorem new1_1 : new1  nw ν (none) = (none) := rfl
@[simp] theorem bi1_0 : bi1  nw b (some (.ok ds, ν)) = (new1 nw ν (biD ν b ds)) := rfl
@[simp] theorem bi1_1 : bi1  nw b (some (.ex q, ν)) = (some (.ex q, ν)) := rfl
@[simp] theorem bi1_2 : bi1  nw b (none) = (none) := rfl
@[simp] theorem mt2_0 : mt2 n0 nw m x (some (.ok ds, ν)) = (mtE n0 nw m x ds ν) := rfl
@[simp] theorem mt2_1 : mt2 n0 nw m x (some (.ex q, ν)) = (some (.ex q, ν)) := rfl
@[simp] theorem mt2_2 : mt2 n0 nw m x (none) = (none) := rfl
@[simp] theorem mt1_0 : mt1 T F F1 n0 W env nw m es (some (.ok x, ν)) = ((match mtTy m (un ν x) with
    | some _ => mt2 n0 nw m x (evEs T F F1 n0 W env es ν)
    | none => none)) := rfl
@[simp] theorem mt1_1 : mt1 T F F1 n0 W env nw m es (some (.ex q, ν)) = (some (.ex q, ν)) := rfl
@[simp] theorem mt1_2 : mt1 T F F1 n0 W env nw m es (none) = (none) := rfl
@[simp] theorem attr1_0 : attr1  f (some (.ok x, ν)) = (retO ν (attrD ν x f)) := rfl
@[simp] theorem attr1_1 : attr1  f (some (.ex q, ν)) = (some (.ex q, ν)) := rfl
@[simp] theorem attr1_2 : attr1  f (none) = (none) := rfl
@[simp] theorem idx2_0 : idx2  x (some (.ok y, ν)) = (retO ν (idxD ν x y)) := rfl
@[simp] theorem idx2_1 : idx2  x (some (.ex q, ν)) = (some (.ex q, ν)) := rfl
@[simp] theorem idx2_2 : idx2  x (none) = (none) := rfl
@[simp] theorem idx1_0 : idx1 T F F1 n0 W env i (some (.ok x, ν)) = (idx2 x (evE T F F1 n0 W env i ν)) := rfl
@[simp] theorem idx1_1 : idx1 T F F1 n0 W env i (some (.ex q, ν)) = (some (.ex q, ν)) := rfl
@[simp] theorem idx1_2 : idx1 T F F1 n0 W env i (none) = (none) := rfl
@[simp] theorem sli3_0 : sli3  nw x l (some (.ok h, ν)) = (new1 nw ν (sliD nw ν x l h)) := rfl
@[simp] theorem sli3_1 : sli3  nw x l (some (.ex q, ν)) = (some (.ex q, ν)) := rfl
@[simp] theorem sli3_2 : sli3  nw x l (none) = (none) := rfl
@[simp] theorem sli2_0 : sli2 T F F1 n0 W env nw x hi (some (.ok l, ν)) = (sli3 nw x l (evO T F F1 n0 W env hi ν)) := rfl
@[simp] theorem sli2_1 : sli2 T F F1 n0 W env nw x hi (some (.ex q, ν)) = (some (.ex q, ν)) := rfl
@[simp] theorem sli2_2 : sli2 T F F1 n0 W env nw x hi (none) = (none) := rfl
@[simp] theorem sli1_0 : sli1 T F F1 n0 W env nw lo hi (some (.ok x, ν)) = (sli2 T F F1 n0 W env nw x hi (evO T F F1 n0 W env lo ν)) := rfl
@[simp] theorem sli1_1 : sli1 T F F1 n0 W env nw lo hi (some (.ex q, ν)) = (some (.ex q, ν)) := rfl
@[simp] theorem sli1_2 : sli1 T F F1 n0 W env nw lo hi (none) = (none) := rfl
@[simp] theorem rev1_0 : rev1   (some (.ok x, ν)) = (retO ν (revD ν x)) := rfl
@[simp] theorem rev1_1 : rev1   (some (.ex q, ν)) = (some (.ex q, ν)) := rfl
@[simp] theorem rev1_2 : rev1   (none) = (none) := rfl
@[simp] theorem isi1'_0 : isi1'  cs (some (.ok x, ν)) = (retB ν (isiD (un ν x) cs)) := rfl
@[simp] theorem isi1'_1 : isi1'  cs (some (.ex q, ν)) = (some (.ex q, ν)) := rfl
@[simp] theorem isi1'_2 : isi1'  cs (none) = (none) := rfl
@[simp] theorem mk1_0 : mk1 T F1 C (some (.ok ds, ν)) = (makeD T F1 C ds ν) := rfl
@[simp] theorem mk1_1 : mk1 T F1 C (some (.ex q, ν)) = (some (.ex q, ν)) := rfl
@[simp] theorem mk1_2 : mk1 T F1 C (none) = (none) := rfl
@[simp] theorem cons2_0 : cons2  d (some (.ok ds, ν)) = (some (.ok (d :: ds), ν)) := rfl
@[simp] theorem cons2_1 : cons2  d (some (.ex q, ν)) = (some (.ex q, ν)) := rfl
@[simp] theorem cons2_2 : cons2  d (none) = (none) := rfl
@[simp] theorem cons1_0 : cons1 T F F1 n0 W env r (some (.ok d, ν)) = (cons2 d (evEs T F F1 n0 W env r ν)) := rfl
@[simp] theorem cons1_1 : cons1 T F F1 n0 W env r (some (.ex q, ν)) = (some (.ex q, ν)) := rfl
@[simp] theorem cons1_2 : cons1 T F F1 n0 W env r (none) = (none) := rfl
@[simp] theorem k_o1_0 : k_o1   (some (.ok d, ν)) = ((match oInt d with
    | some i => some (.ok (some i), ν)
    | none => none)) := rfl
@[simp] theorem k_o1_1 : k_o1   (some (.ex q, ν)) = (some (.ex q, ν)) := rfl
@[simp] theorem k_o1_2 : k_o1   (none) = (none) := rfl
@[simp] theorem fst1_0 : fst1   (some (.ok d, ν)) = (some (.ok (.str d), ν)) := rfl
@[simp] theorem fst1_1 : fst1   (some (.ex q, ν)) = (some (.ex q, ν)) := rfl
@[simp] theorem fst1_2 : fst1   (none) = (none) := rfl
@[simp] theorem j2_0 : j2 T F F1 n0 W env r ν (some acc) = (evJ T F F1 n0 W env r acc ν) := rfl
@[simp] theorem j2_1 : j2 T F F1 n0 W env r ν (none) = (none) := rfl
@[simp] theorem j1_0 : j1 T F F1 n0 W env r acc (some (.ok d, ν)) = (j2 T F F1 n0 W env r ν (txtD acc d)) := rfl
@[simp] theorem j1_1 : j1 T F F1 n0 W env r acc (some (.ex q, ν)) = (some (.ex q, ν)) := rfl
@[simp] theorem j1_2 : j1 T F F1 n0 W env r acc (none) = (none) := rfl
@[simp] theorem comp2_0 : comp2  nw (some (.ok xs, ν)) = (mkNew nw (.lst xs) ν) := rfl
@[simp] theorem comp2_1 : comp2  nw (some (.ex q, ν)) = (some (.ex q, ν)) := rfl
@[simp] theorem comp2_2 : comp2  nw (none) = (none) := rfl
@[simp] theorem comp1_0 : comp1 T F F1 n0 W env nw el tg cd own (some (.ok src, ν)) = (comp2 nw (loopC src (turnE T F F1 n0 W env el tg cd own) W 0 [] ν)) := rfl
@[simp] theorem comp1_1 : comp1 T F F1 n0 W env nw el tg cd own (some (.ex q, ν)) = (some (.ex q, ν)) := rfl
@[simp] theorem comp1_2 : comp1 T F F1 n0 W env nw el tg cd own (none) = (none) := rfl
@[simp] theorem it1_0 : it1   (some (.ok d, ν)) = ((match srcOf ν d with
    | some s => some (.ok s, ν)
    | none => none)) := rfl
@[simp] theorem it1_1 : it1   (some (.ex q, ν)) = (some (.ex q, ν)) := rfl
@[simp] theorem it1_2 : it1   (none) = (none) := rfl
@[simp] theorem rng1_0 : rng1   (some (.ok ds, ν)) = ((match rngD ds with
    | some s => some (.ok s, ν)
    | none => none)) := rfl
@[simp] theorem rng1_1 : rng1   (some (.ex q, ν)) = (some (.ex q, ν)) := rfl
@[simp] theorem rng1_2 : rng1   (none) = (none) := rfl
@[simp] theorem asg1_0 : asg1  env t (some (.ok d, ν)) = (asgK (bindT ν t d env) ν) := rfl
@[simp] theorem asg1_1 : asg1  env t (some (.ex q, ν)) = (some (.ex q env, ν)) := rfl
@[simp] theorem asg1_2 : asg1  env t (none) = (none) := rfl
@[simp] theorem par1_0 : par1  env is (some (.ok ds, ν)) = (asgK (setAll env is ds) ν) := rfl
@[simp] theorem par1_1 : par1  env is (some (.ex q, ν)) = (some (.ex q env, ν)) := rfl
@[simp] theorem par1_2 : par1  env is (none) = (none) := rfl
@[simp] theorem expr1_0 : expr1  env (some (.ok u_0, ν)) = (some (.nx env, ν)) := rfl
@[simp] theorem expr1_1 : expr1  env (some (.ex q, ν)) = (some (.ex q env, ν)) := rfl
@[simp] theorem expr1_2 : expr1  env (none) = (none) := rfl
@[simp] theorem ret1_0 : ret1  env (some (.ok d, ν)) = (some (.rt d, ν)) := rfl
@[simp] theorem ret1_1 : ret1  env (some (.ex q, ν)) = (some (.ex q env, ν)) := rfl
@[simp] theorem ret1_2 : ret1  env (none) = (none) := rfl
@[simp] theorem if2_0 : if2 T F F1 n0 W env a b ν (some true) = (evSs T F F1 n0 W env a ν) := rfl
@[simp] theorem if2_1 : if2 T F F1 n0 W env a b ν (some false) = (evSs T F F1 n0 W env b ν) := rfl
@[simp] theorem if2_2 : if2 T F F1 n0 W env a b ν (none) = (none) := rfl
@[simp] theorem if1_0 : if1 T F F1 n0 W env a b (some (.ok d, ν)) = (if2 T F F1 n0 W env a b ν (tru (un ν d))) := rfl
@[simp] theorem if1_1 : if1 T F F1 n0 W env a b (some (.ex q, ν)) = (some (.ex q env, ν)) := rfl
@[simp] theorem if1_2 : if1 T F F1 n0 W env a b (none) = (none) := rfl
@[simp] theorem loop1_0 : loop1 T F F1 n0 W env t b (some (.ok src, ν)) = (loopT T F F1 n0 W t b src W 0 env ν) := rfl
@[simp] theorem loop1_1 : loop1 T F F1 n0 W env t b (some (.ex q, ν)) = (some (.ex q env, ν)) := rfl
@[simp] theorem loop1_2 : loop1 T F F1 n0 W env t b (none) = (none) := rfl
@[simp] theorem raise2_0 : raise2  env ν (some x) = (some (.ex x env, ν)) := rfl
@[simp] theorem raise2_1 : raise2  env ν (none) = (none) := rfl
@[simp] theorem raise1_0 : raise1 T env C (some (.ok ds, ν)) = (raise2 env ν (T.err C ds)) := rfl
@[simp] theorem raise1_1 : raise1 T env C (some (.ex q, ν)) = (some (.ex q env, ν)) := rfl
@[simp] theorem raise1_2 : raise1 T env C (none) = (none) := rfl
@[simp] theorem tri1_0 : tri1 T hs (some (.ex q env', ν')) = (handle T q env' hs ν') := rfl
@[simp] theorem tri1_1 : tri1 T hs (some (.nx e, ν)) = (some (.nx e, ν)) := rfl
@[simp] theorem tri1_2 : tri1 T hs (some (.rt e, ν)) = (some (.rt e, ν)) := rfl
@[simp] theorem tri1_3 : tri1 T hs (some (.bk e, ν)) = (some (.bk e, ν)) := rfl
@[simp] theorem tri1_4 : tri1 T hs (some (.ct e, ν)) = (some (.ct e, ν)) := rfl
@[simp] theorem tri1_5 : tri1 T hs (none) = (none) := rfl
@[simp] theorem setI3_0 : setI3 n0 env v x (some (.ok y, ν)) = (stoK env (setX n0 ν x y v)) := rfl
@[simp] theorem setI3_1 : setI3 n0 env v x (some (.ex q, ν)) = (some (.ex q env, ν)) := rfl
@[simp] theorem setI3_2 : setI3 n0 env v x (none) = (none) := rfl
@[simp] theorem setI2_0 : setI2 T F F1 n0 W env v i (some (.ok x, ν)) = (setI3 n0 env v x (evE T F F1 n0 W env i ν)) := rfl
@[simp] theorem setI2_1 : setI2 T F F1 n0 W env v i (some (.ex q, ν)) = (some (.ex q env, ν)) := rfl
@[simp] theorem setI2_2 : setI2 T F F1 n0 W env v i (none) = (none) := rfl
@[simp] theorem setI1_0 : setI1 T F F1 n0 W env o i (some (.ok v, ν)) = (setI2 T F F1 n0 W env v i (evE T F F1 n0 W env o ν)) := rfl
@[simp] theorem setI1_1 : setI1 T F F1 n0 W env o i (some (.ex q, ν)) = (some (.ex q env, ν)) := rfl
@[simp] theorem setI1_2 : setI1 T F F1 n0 W env o i (none) = (none) := rfl
@[simp] theorem setF1_0 : setF1 n0 env i f (some (.ok v, ν)) = (stoK env (setY n0 ν (env[i]?.bind id) f v)) := rfl
@[simp] theorem setF1_1 : setF1 n0 env i f (some (.ex q, ν)) = (some (.ex q env, ν)) := rfl
@[simp] theorem setF1_2 : setF1 n0 env i f (none) = (none) := rfl
@[simp] theorem seqS_0 : seqS T F F1 n0 W r (some (.nx env', ν')) = (evSs T F F1 n0 W env' r ν') := rfl
@[simp] theorem seqS_1 : seqS T F F1 n0 W r (some (.ex q e, ν)) = (some (.ex q e, ν)) := rfl
@[simp] theorem seqS_2 : seqS T F F1 n0 W r (some (.rt e, ν)) = (some (.rt e, ν)) := rfl
@[simp] theorem seqS_3 : seqS T F F1 n0 W r (some (.bk e, ν)) = (some (.bk e, ν)) := rfl
@[simp] theorem seqS_4 : seqS T F F1 n0 W r (some (.ct e, ν)) = (some (.ct e, ν)) := rfl
@[simp] theorem seqS_5 : seqS T F F1 n0 W r (none) = (none) := rfl
end
section
variable {T : Tab} {F F1 : Nat → List D → M D} {n0 W : Nat} {env : Env} {ν : Sto}
theorem bind_ap {α β : Type} {m : M α} {f : α → M β} : (m.bind f) ν = (match m ν with
    | some (.ok a, ν') => f a ν'
    | some (.ex x, ν') => some (.ex x, ν')
    | none => none) := by
  unfold M.bind
  cases m ν with
  | none => rfl
  | some r => obtain ⟨r, ν'⟩ := r; cases r <;> rfl
local macro_rules | `(tactic| trivial) => `(tactic| (unfold M.bind; generalize evE _ _ _ _ _ _ _ _ = r; rcases r with _ | ⟨r | r, ν'⟩ <;> rfl))
@[simp] theorem m_var {i : Nat} : evE T F F1 n0 W env (.var i) ν = retO ν (env[i]?.bind id) := by
  show M.lift (env[i]?.bind id) ν = _
  unfold M.lift M.look
  cases env[i]?.bind id <;> rfl
@[simp] theorem m_lit {d : D} : evE T F F1 n0 W env (.lit d) ν = some (.ok d, ν) := rfl
@[simp] theorem m_glb {k : Nat} : evE T F F1 n0 W env (.glb k) ν = retO ν (T.glb k) := by
  show M.lift (T.glb k) ν = _
  unfold M.lift M.look
  cases T.glb k <;> rfl
theorem look_eq {f : Sto → Option D} : M.look f ν = retO ν (f ν) := by
  unfold M.look
  cases f ν <;> rfl
theorem look_ap {α : Type} {f : Sto → Option α} : M.look f ν = (match f ν with
    | some a => some (Res.ok a, ν)
    | none => none) := rfl
theorem lookB_eq {f : Sto → Option Bool} : M.look (fun ν => (f ν).map D.bl) ν = retB ν (f ν) := by
  simp only [look_ap]
  cases f ν <;> rfl
@[simp] theorem m_bin {op : Bop} {a b : E} : evE T F F1 n0 W env (.bin op a b) ν = bin1 T F F1 n0 W env op b (evE T F F1 n0 W env a ν) := by
  show ((evE T F F1 n0 W env a).bind fun x => (evE T F F1 n0 W env b).bind fun y => M.look fun ν => binD op (un ν x) (un ν y)) ν = _
  rw [bind_ap]
  rcases evE T F F1 n0 W env a ν with _ | ⟨x | x, ν1⟩
  · rfl
  · simp only [bin1]
    rw [bind_ap]
    rcases evE T F F1 n0 W env b ν1 with _ | ⟨y | y, ν2⟩
    · rfl
    · exact look_eq
    · rfl
  · rfl
@[simp] theorem m_cmp {op : Cop} {a b : E} : evE T F F1 n0 W env (.cmp op a b) ν = cmp1 T F F1 n0 W env op b (evE T F F1 n0 W env a ν) := by
  show ((evE T F F1 n0 W env a).bind fun x => (evE T F F1 n0 W env b).bind fun y => M.look fun ν => (cmpD ν op x y).map D.bl) ν = _
  rw [bind_ap]
  rcases evE T F F1 n0 W env a ν with _ | ⟨x | x, ν1⟩
  · rfl
  · simp only [cmp1]
    rw [bind_ap]
    rcases evE T F F1 n0 W env b ν1 with _ | ⟨y | y, ν2⟩
    · rfl
    · exact lookB_eq (f := fun ν => cmpD ν op x y)
    · rfl
  · rfl
@[simp] theorem m_chn {p q : Cop} {a b c : E} : evE T F F1 n0 W env (.chn p q a b c) ν = chn1 T F F1 n0 W env p q b c (evE T F F1 n0 W env a ν) := by
  show ((evE T F F1 n0 W env a).bind fun x => (evE T F F1 n0 W env b).bind fun y => (M.look fun ν => cmpD ν p x y).bind fun k => (match k with
      | true => (evE T F F1 n0 W env c).bind fun z => M.look fun ν => (cmpD ν q y z).map .bl
      | false => M.pure (.bl false) : M D)) ν = _
  rw [bind_ap]
  rcases evE T F F1 n0 W env a ν with _ | ⟨x | x, ν1⟩
  · rfl
  · simp only [chn1]
    rw [bind_ap]
    rcases evE T F F1 n0 W env b ν1 with _ | ⟨y | y, ν2⟩
    · rfl
    · simp only [chn2]
      rw [bind_ap, look_ap]
      rcases cmpD ν2 p x y with _ | (_ | _)
      · rfl
      · rfl
      · simp only [chn3]
        rw [bind_ap]
        rcases evE T F F1 n0 W env c ν2 with _ | ⟨z | z, ν3⟩
        · rfl
        · exact lookB_eq (f := fun ν => cmpD ν q y z)
        · rfl
    · rfl
  · rfl
@[simp] theorem m_not {a : E} : evE T F F1 n0 W env (.not a) ν = k_not1 (evE T F F1 n0 W env a ν) := by
  show ((evE T F F1 n0 W env a).bind fun x => M.look fun ν => (tru (un ν x)).map fun b => D.bl (!b)) ν = _
  rw [bind_ap]
  rcases evE T F F1 n0 W env a ν with _ | ⟨x | x, ν1⟩
  · rfl
  · simp only [k_not1]
    rw [look_ap]
    cases tru (un ν1 x) <;> rfl
  · rfl
@[simp] theorem m_neg {a : E} : evE T F F1 n0 W env (.neg a) ν = k_neg1 (evE T F F1 n0 W env a ν) := by
  show ((evE T F F1 n0 W env a).bind fun x => M.lift (match x with | .int i => some (D.int (-i)) | _ => none)) ν = _
  rw [bind_ap]
  rcases evE T F F1 n0 W env a ν with _ | ⟨x | x, ν1⟩
  · rfl
  · cases x <;> rfl
  · rfl
@[simp] theorem m_and {a b : E} : evE T F F1 n0 W env (.and a b) ν = k_and1 T F F1 n0 W env b (evE T F F1 n0 W env a ν) := by
  show ((evE T F F1 n0 W env a).bind fun x => (M.look fun ν => tru (un ν x)).bind fun k => (match k with
      | true => evE T F F1 n0 W env b
      | false => M.pure x : M D)) ν = _
  rw [bind_ap]
  rcases evE T F F1 n0 W env a ν with _ | ⟨x | x, ν1⟩
  · rfl
  · simp only [k_and1]
    rw [bind_ap, look_ap]
    rcases tru (un ν1 x) with _ | (_ | _) <;> rfl
  · rfl
@[simp] theorem m_or {a b : E} : evE T F F1 n0 W env (.or a b) ν = k_or1 T F F1 n0 W env b (evE T F F1 n0 W env a ν) := by
  show ((evE T F F1 n0 W env a).bind fun x => (M.look fun ν => tru (un ν x)).bind fun k => (match k with
      | true => M.pure x
      | false => evE T F F1 n0 W env b : M D)) ν = _
  rw [bind_ap]
  rcases evE T F F1 n0 W env a ν with _ | ⟨x | x, ν1⟩
  · rfl
  · simp only [k_or1]
    rw [bind_ap, look_ap]
    rcases tru (un ν1 x) with _ | (_ | _) <;> rfl
  · rfl
@[simp] theorem m_ife {c a b : E} : evE T F F1 n0 W env (.ife c a b) ν = k_ife1 T F F1 n0 W env a b (evE T F F1 n0 W env c ν) := by
  show ((evE T F F1 n0 W env c).bind fun x => (M.look fun ν => tru (un ν x)).bind fun k => (match k with
      | true => evE T F F1 n0 W env a
      | false => evE T F F1 n0 W env b : M D)) ν = _
  rw [bind_ap]
  rcases evE T F F1 n0 W env c ν with _ | ⟨x | x, ν1⟩
  · rfl
  · simp only [k_ife1]
    rw [bind_ap, look_ap]
    rcases tru (un ν1 x) with _ | (_ | _) <;> rfl
  · rfl
@[simp] theorem m_tup {es : Es} : evE T F F1 n0 W env (.tup es) ν = tup1 (evEs T F F1 n0 W env es ν) := by
  show ((evEs T F F1 n0 W env es).bind fun ds => (if ds.length ≤ sizeLine then M.pure (.tup ds) else M.fail : M D)) ν = _
  rw [bind_ap]
  rcases evEs T F F1 n0 W env es ν with _ | ⟨x | x, ν1⟩
  · rfl
  · simp only [tup1]
    by_cases c : x.length ≤ sizeLine
    · simp only [if_pos c]; rfl
    · simp only [if_neg c]; rfl
  · rfl
@[simp] theorem m_lst {nw : Bool} {es : Es} : evE T F F1 n0 W env (.lst nw es) ν = lst1 nw (evEs T F F1 n0 W env es ν) := by
  show ((evEs T F F1 n0 W env es).bind fun ds => layL nw ds) ν = _
  rw [bind_ap]
  rcases evEs T F F1 n0 W env es ν with _ | ⟨x | x, ν1⟩ <;> rfl
@[simp] theorem m_dsp {nw : Bool} {ks : List DK} {es : Es} : evE T F F1 n0 W env (.dsp nw ks es) ν = dsp1 nw ks (evEs T F F1 n0 W env es ν) := by
  show ((evEs T F F1 n0 W env es).bind fun ds => (if ds.length = ks.length ∧ ks.length ≤ 15 then mkNew nw (.dct ks ds) else M.fail : M D)) ν = _
  rw [bind_ap]
  rcases evEs T F F1 n0 W env es ν with _ | ⟨x | x, ν1⟩
  · rfl
  · simp only [dsp1]
    by_cases c : x.length = ks.length ∧ ks.length ≤ 15
    · simp only [if_pos c]
    · simp only [if_neg c]; rfl
  · rfl
@[simp] theorem m_call {f : Nat} {es : Es} : evE T F F1 n0 W env (.call f es) ν = call1 F f (evEs T F F1 n0 W env es ν) := by
  show ((evEs T F F1 n0 W env es).bind fun ds => F f ds) ν = _
  rw [bind_ap]
  rcases evEs T F F1 n0 W env es ν with _ | ⟨x | x, ν1⟩ <;> rfl
@[simp] theorem m_callk {f j : Nat} {es ks : Es} : evE T F F1 n0 W env (.callk f j es ks) ν = kw1 T F F1 n0 W env f j ks (evEs T F F1 n0 W env es ν) := by
  show ((evEs T F F1 n0 W env es).bind fun ds => (evEs T F F1 n0 W env ks).bind fun zs => (match T.kw j with
      | some p => (match permD p (ds ++ zs) with
        | some as => F f as
        | none => M.fail)
      | none => M.fail : M D)) ν = _
  rw [bind_ap]
  rcases evEs T F F1 n0 W env es ν with _ | ⟨x | x, ν1⟩
  · rfl
  · simp only [kw1]
    rw [bind_ap]
    rcases evEs T F F1 n0 W env ks ν1 with _ | ⟨z | z, ν2⟩
    · rfl
    · simp only [kw2]
      cases T.kw j with
      | none => rfl
      | some p =>
        simp only [Option.bind_some]
        cases permD p (x ++ z) <;> rfl
    · rfl
  · rfl
@[simp] theorem m_star {f : Nat} {a : E} : evE T F F1 n0 W env (.star f a) ν = star1 F f (evE T F F1 n0 W env a ν) := by
  show ((evE T F F1 n0 W env a).bind fun x => (M.look fun ν => match un ν x with | .tup xs => some xs | .lst xs => some xs | _ => none).bind fun ds => F f ds) ν = _
  rw [bind_ap]
  rcases evE T F F1 n0 W env a ν with _ | ⟨x | x, ν1⟩
  · rfl
  · simp only [star1, starD]
    rw [bind_ap, look_ap]
    cases un ν1 x <;> rfl
  · rfl
@[simp] theorem m_bi {nw : Bool} {b : Bi} {es : Es} : evE T F F1 n0 W env (.bi nw b es) ν = bi1 nw b (evEs T F F1 n0 W env es ν) := by
  show ((evEs T F F1 n0 W env es).bind fun ds => (M.look fun ν => biD ν b ds).bind fun d => mkNew nw d) ν = _
  rw [bind_ap]
  rcases evEs T F F1 n0 W env es ν with _ | ⟨x | x, ν1⟩
  · rfl
  · simp only [bi1]
    rw [bind_ap, look_ap]
    cases biD ν1 b x <;> rfl
  · rfl
@[simp] theorem m_mt {nw : Bool} {m : Mt} {o : E} {es : Es} : evE T F F1 n0 W env (.mt nw m o es) ν = mt1 T F F1 n0 W env nw m es (evE T F F1 n0 W env o ν) := by
  show ((evE T F F1 n0 W env o).bind fun x => (M.look fun ν => mtTy m (un ν x)).bind fun _ => (evEs T F F1 n0 W env es).bind fun ds => mtE n0 nw m x ds) ν = _
  rw [bind_ap]
  rcases evE T F F1 n0 W env o ν with _ | ⟨x | x, ν1⟩
  · rfl
  · simp only [mt1]
    rw [bind_ap, look_ap]
    cases mtTy m (un ν1 x) with
    | none => rfl
    | some u =>
      simp only
      rw [bind_ap]
      rcases evEs T F F1 n0 W env es ν1 with _ | ⟨y | y, ν2⟩ <;> rfl
  · rfl
@[simp] theorem m_attr {o : E} {f : Nat} : evE T F F1 n0 W env (.attr o f) ν = attr1 f (evE T F F1 n0 W env o ν) := by
  show ((evE T F F1 n0 W env o).bind fun x => M.look fun ν => attrD ν x f) ν = _
  rw [bind_ap]
  rcases evE T F F1 n0 W env o ν with _ | ⟨x | x, ν1⟩
  · rfl
  · exact look_eq
  · rfl
@[simp] theorem m_idx {a i : E} : evE T F F1 n0 W env (.idx a i) ν = idx1 T F F1 n0 W env i (evE T F F1 n0 W env a ν) := by
  show ((evE T F F1 n0 W env a).bind fun x => (evE T F F1 n0 W env i).bind fun y => M.look fun ν => idxD ν x y) ν = _
  rw [bind_ap]
  rcases evE T F F1 n0 W env a ν with _ | ⟨x | x, ν1⟩
  · rfl
  · simp only [idx1]
    rw [bind_ap]
    rcases evE T F F1 n0 W env i ν1 with _ | ⟨y | y, ν2⟩
    · rfl
    · exact look_eq
    · rfl
  · rfl
@[simp] theorem m_sli {nw : Bool} {a : E} {lo hi : Oe} : evE T F F1 n0 W env (.sli nw a lo hi) ν = sli1 T F F1 n0 W env nw lo hi (evE T F F1 n0 W env a ν) := by
  show ((evE T F F1 n0 W env a).bind fun x => (evO T F F1 n0 W env lo).bind fun l => (evO T F F1 n0 W env hi).bind fun h => (M.look fun ν => sliD nw ν x l h).bind fun d => mkNew nw d) ν = _
  rw [bind_ap]
  rcases evE T F F1 n0 W env a ν with _ | ⟨x | x, ν1⟩
  · rfl
  · simp only [sli1]
    rw [bind_ap]
    rcases evO T F F1 n0 W env lo ν1 with _ | ⟨y | y, ν2⟩
    · rfl
    · simp only [sli2]
      rw [bind_ap]
      rcases evO T F F1 n0 W env hi ν2 with _ | ⟨z | z, ν3⟩
      · rfl
      · simp only [sli3]
        rw [bind_ap, look_ap]
        cases sliD nw ν3 x y z <;> rfl
      · rfl
    · rfl
  · rfl
@[simp] theorem m_rev {a : E} : evE T F F1 n0 W env (.rev a) ν = rev1 (evE T F F1 n0 W env a ν) := by
  show ((evE T F F1 n0 W env a).bind fun x => M.look fun ν => revD ν x) ν = _
  rw [bind_ap]
  rcases evE T F F1 n0 W env a ν with _ | ⟨x | x, ν1⟩
  · rfl
  · exact look_eq
  · rfl
@[simp] theorem m_isi {a : E} {cs : List Cl} : evE T F F1 n0 W env (.isi a cs) ν = isi1' cs (evE T F F1 n0 W env a ν) := by
  show ((evE T F F1 n0 W env a).bind fun x => M.look fun ν => (isiD (un ν x) cs).map D.bl) ν = _
  rw [bind_ap]
  rcases evE T F F1 n0 W env a ν with _ | ⟨x | x, ν1⟩
  · rfl
  · exact lookB_eq (f := fun ν => isiD (un ν x) cs)
  · rfl
@[simp] theorem m_mk {C : Nat} {es : Es} : evE T F F1 n0 W env (.mk C es) ν = mk1 T F1 C (evEs T F F1 n0 W env es ν) := by
  show ((evEs T F F1 n0 W env es).bind fun ds => makeD T F1 C ds) ν = _
  rw [bind_ap]
  rcases evEs T F F1 n0 W env es ν with _ | ⟨x | x, ν1⟩ <;> rfl
@[simp] theorem m_comp {nw : Bool} {el : E} {tg : Tg} {it : It} {cd : Oe} {own : List Nat} : evE T F F1 n0 W env (.comp nw el tg it cd own) ν = comp1 T F F1 n0 W env nw el tg cd own (evI T F F1 n0 W env it ν) := by
  show ((evI T F F1 n0 W env it).bind fun src => (loopC src (turnE T F F1 n0 W env el tg cd own) W 0 []).bind fun xs => mkNew nw (.lst xs)) ν = _
  rw [bind_ap]
  rcases evI T F F1 n0 W env it ν with _ | ⟨x | x, ν1⟩
  · rfl
  · simp only [comp1]
    rw [bind_ap]
    rcases loopC x (turnE T F F1 n0 W env el tg cd own) W 0 [] ν1 with _ | ⟨y | y, ν2⟩ <;> rfl
  · rfl
@[simp] theorem m_fst {es : Es} : evE T F F1 n0 W env (.fst es) ν = fst1 (evJ T F F1 n0 W env es Str.empty ν) := by
  show ((evJ T F F1 n0 W env es Str.empty).bind fun x => M.pure (D.str x)) ν = _
  rw [bind_ap]
  rcases evJ T F F1 n0 W env es Str.empty ν with _ | ⟨x | x, ν1⟩ <;> rfl
@[simp] theorem m_lck {i : Nat} {a : E} : evE T F F1 n0 W env (.lck i a) ν = lckM (env[i]?.bind id) (evE T F F1 n0 W env a) ν := rfl
@[simp] theorem m_nil : evEs T F F1 n0 W env .nil ν = some (.ok [], ν) := rfl
@[simp] theorem m_cons {e : E} {r : Es} : evEs T F F1 n0 W env (.cons e r) ν = cons1 T F F1 n0 W env r (evE T F F1 n0 W env e ν) := by
  show ((evE T F F1 n0 W env e).bind fun d => (evEs T F F1 n0 W env r).bind fun ds => M.pure (d :: ds)) ν = _
  rw [bind_ap]
  rcases evE T F F1 n0 W env e ν with _ | ⟨x | x, ν1⟩
  · rfl
  · simp only [cons1]
    rw [bind_ap]
    rcases evEs T F F1 n0 W env r ν1 with _ | ⟨y | y, ν2⟩ <;> rfl
  · rfl
@[simp] theorem m_oN : evO T F F1 n0 W env .none ν = some (.ok none, ν) := rfl
@[simp] theorem m_oS {e : E} : evO T F F1 n0 W env (.some e) ν = k_o1 (evE T F F1 n0 W env e ν) := by
  show ((evE T F F1 n0 W env e).bind fun d => M.lift ((oInt d).map some)) ν = _
  rw [bind_ap]
  rcases evE T F F1 n0 W env e ν with _ | ⟨x | x, ν1⟩
  · rfl
  · simp only [k_o1]
    unfold M.lift M.look
    cases oInt x <;> rfl
  · rfl
@[simp] theorem m_iV {e : E} : evI T F F1 n0 W env (.val e) ν = it1 (evE T F F1 n0 W env e ν) := by
  show ((evE T F F1 n0 W env e).bind fun d => M.look fun ν => srcOf ν d) ν = _
  rw [bind_ap]
  rcases evE T F F1 n0 W env e ν with _ | ⟨x | x, ν1⟩
  · rfl
  · simp only [it1]
    rw [look_ap]
    cases srcOf ν1 x <;> rfl
  · rfl
@[simp] theorem m_iR {es : Es} : evI T F F1 n0 W env (.rng es) ν = rng1 (evEs T F F1 n0 W env es ν) := by
  show ((evEs T F F1 n0 W env es).bind fun ds => M.lift (rngD ds)) ν = _
  rw [bind_ap]
  rcases evEs T F F1 n0 W env es ν with _ | ⟨x | x, ν1⟩
  · rfl
  · simp only [rng1]
    unfold M.lift M.look
    cases rngD x <;> rfl
  · rfl
@[simp] theorem m_jN {acc : Str} : evJ T F F1 n0 W env .nil acc ν = some (.ok acc, ν) := rfl
@[simp] theorem m_jC {e : E} {r : Es} {acc : Str} : evJ T F F1 n0 W env (.cons e r) acc ν = j1 T F F1 n0 W env r acc (evE T F F1 n0 W env e ν) := by
  show ((evE T F F1 n0 W env e).bind fun d => (M.lift (txtD acc d)).bind fun acc' => evJ T F F1 n0 W env r acc') ν = _
  rw [bind_ap]
  rcases evE T F F1 n0 W env e ν with _ | ⟨x | x, ν1⟩
  · rfl
  · simp only [j1]
    rw [bind_ap]
    unfold M.lift M.look
    cases txtD acc x <;> rfl
  · rfl
/-! ### statements -/
theorem then_ap {α : Type} {m : M α} {k : α → MF} : thenM env m k ν = (match m ν with
    | some (.ok a, ν') => k a ν'
    | some (.ex x, ν') => some (.ex x env, ν')
    | none => none) := by
  unfold thenM
  rcases m ν with _ | ⟨x | x, ν1⟩ <;> rfl
@[simp] theorem m_asg {t : Tg} {e : E} : evS T F F1 n0 W env (.asg t e) ν = asg1 env t (evE T F F1 n0 W env e ν) := by
  refine (then_ap (m := evE T F F1 n0 W env e) (k := fun d => fun ν => asgK (bindT ν t d env) ν)).trans ?_
  rcases evE T F F1 n0 W env e ν with _ | ⟨x | x, ν1⟩ <;> rfl
@[simp] theorem m_par {is : List Nat} {es : Es} : evS T F F1 n0 W env (.par is es) ν = par1 env is (evEs T F F1 n0 W env es ν) := by
  refine (then_ap (m := evEs T F F1 n0 W env es) (k := fun ds => fun ν => asgK (setAll env is ds) ν)).trans ?_
  rcases evEs T F F1 n0 W env es ν with _ | ⟨x | x, ν1⟩ <;> rfl
@[simp] theorem m_expr {e : E} : evS T F F1 n0 W env (.expr e) ν = expr1 env (evE T F F1 n0 W env e ν) := by
  show thenM env (evE T F F1 n0 W env e) (fun _ => MF.pure (Flow.nx env)) ν = _
  rw [then_ap]
  rcases evE T F F1 n0 W env e ν with _ | ⟨x | x, ν1⟩ <;> rfl
@[simp] theorem m_ret {e : E} : evS T F F1 n0 W env (.ret e) ν = ret1 env (evE T F F1 n0 W env e ν) := by
  show thenM env (evE T F F1 n0 W env e) (fun d => MF.pure (Flow.rt d)) ν = _
  rw [then_ap]
  rcases evE T F F1 n0 W env e ν with _ | ⟨x | x, ν1⟩ <;> rfl
@[simp] theorem m_retN : evS T F F1 n0 W env .retN ν = some (.rt .non, ν) := rfl
@[simp] theorem m_ifs {c : E} {a b : Ss} : evS T F F1 n0 W env (.ifs c a b) ν = if1 T F F1 n0 W env a b (evE T F F1 n0 W env c ν) := by
  show thenM env ((evE T F F1 n0 W env c).bind fun x => M.look fun ν => tru (un ν x)) (fun k => (match k with
      | true => evSs T F F1 n0 W env a
      | false => evSs T F F1 n0 W env b : MF)) ν = _
  rw [then_ap, bind_ap]
  rcases evE T F F1 n0 W env c ν with _ | ⟨x | x, ν1⟩
  · rfl
  · simp only [if1]
    rw [look_ap]
    rcases tru (un ν1 x) with _ | (_ | _) <;> rfl
  · rfl
@[simp] theorem m_loop {t : Tg} {it : It} {b : Ss} : evS T F F1 n0 W env (.loop t it b) ν = loop1 T F F1 n0 W env t b (evI T F F1 n0 W env it ν) := by
  show thenM env (evI T F F1 n0 W env it) (fun src => turns src t (fun env' => evSs T F F1 n0 W env' b) W 0 env) ν = _
  rw [then_ap]
  rcases evI T F F1 n0 W env it ν with _ | ⟨x | x, ν1⟩ <;> rfl
@[simp] theorem m_whl {c : E} {b : Ss} : evS T F F1 n0 W env (.whl c b) ν = whlT T F F1 n0 W c b W env ν := rfl
@[simp] theorem m_raise {C : Nat} {es : Es} : evS T F F1 n0 W env (.raise C es) ν = raise1 T env C (evEs T F F1 n0 W env es ν) := by
  show thenM env (evEs T F F1 n0 W env es) (fun ds => (match T.err C ds with
      | some x => MF.pure (.ex x env)
      | none => MF.fail : MF)) ν = _
  rw [then_ap]
  rcases evEs T F F1 n0 W env es ν with _ | ⟨x | x, ν1⟩
  · rfl
  · simp only [raise1]
    cases T.err C x <;> rfl
  · rfl
@[simp] theorem m_tri {b : Ss} {hs : Hs} : evS T F F1 n0 W env (.tri b hs) ν = tri1 T hs (evSs T F F1 n0 W env b ν) := by
  show triK (fun x env' => handle T x env' hs) (evSs T F F1 n0 W env b ν) = _
  rcases evSs T F F1 n0 W env b ν with _ | ⟨f, ν1⟩
  · rfl
  · cases f <;> rfl
@[simp] theorem m_setI {o i e : E} : evS T F F1 n0 W env (.setI o i e) ν = setI1 T F F1 n0 W env o i (evE T F F1 n0 W env e ν) := by
  refine (then_ap (m := evE T F F1 n0 W env e) (k := fun v => thenM env (evE T F F1 n0 W env o) fun x => thenM env (evE T F F1 n0 W env i) fun y => fun ν => stoK env (setX n0 ν x y v))).trans ?_
  rcases evE T F F1 n0 W env e ν with _ | ⟨x | x, ν1⟩
  · rfl
  · simp only [setI1]
    refine (then_ap (m := evE T F F1 n0 W env o) (k := fun x_1 => thenM env (evE T F F1 n0 W env i) fun y => fun ν => stoK env (setX n0 ν x_1 y x))).trans ?_
    rcases evE T F F1 n0 W env o ν1 with _ | ⟨y | y, ν2⟩
    · rfl
    · simp only [setI2]
      refine (then_ap (m := evE T F F1 n0 W env i) (k := fun y_1 => fun ν => stoK env (setX n0 ν y y_1 x))).trans ?_
      rcases evE T F F1 n0 W env i ν2 with _ | ⟨z | z, ν3⟩ <;> rfl
    · rfl
  · rfl
@[simp] theorem m_setF {i f : Nat} {e : E} : evS T F F1 n0 W env (.setF i f e) ν = setF1 n0 env i f (evE T F F1 n0 W env e ν) := by
  refine (then_ap (m := evE T F F1 n0 W env e) (k := fun v => fun ν => stoK env (setY n0 ν (env[i]?.bind id) f v))).trans ?_
  rcases evE T F F1 n0 W env e ν with _ | ⟨x | x, ν1⟩ <;> rfl
@[simp] theorem m_pass : evS T F F1 n0 W env .pass ν = some (.nx env, ν) := rfl
@[simp] theorem m_brk : evS T F F1 n0 W env .brk ν = some (.bk env, ν) := rfl
@[simp] theorem m_cont : evS T F F1 n0 W env .cont ν = some (.ct env, ν) := rfl
@[simp] theorem m_snil : evSs T F F1 n0 W env .nil ν = some (.nx env, ν) := rfl
@[simp] theorem m_scons {s : S} {r : Ss} : evSs T F F1 n0 W env (.cons s r) ν = seqS T F F1 n0 W r (evS T F F1 n0 W env s ν) := by
  show seqK (fun env' => evSs T F F1 n0 W env' r) (evS T F F1 n0 W env s ν) = _
  rcases evS T F F1 n0 W env s ν with _ | ⟨f, ν1⟩
  · rfl
  · cases f <;> rfl
end
end EF

/-! FN: values, calls, loops: for simp and by hand. -/
namespace EF
open PySem
section
variable {ν : Sto}
@[simp] theorem line_is : sizeLine = 16777216 := sizeLine_eq
@[simp] theorem un_non' : un ν .non = .non := rfl
@[simp] theorem un_bl' {b} : un ν (.bl b) = .bl b := rfl
@[simp] theorem un_int' {b} : un ν (.int b) = .int b := rfl
@[simp] theorem un_str' {b} : un ν (.str b) = .str b := rfl
@[simp] theorem un_tup' {b} : un ν (.tup b) = .tup b := rfl
@[simp] theorem un_lst' {b} : un ν (.lst b) = .lst b := rfl
@[simp] theorem un_frz' {b} : un ν (.frz b) = .frz b := rfl
@[simp] theorem un_dct' {a b} : un ν (.dct a b) = .dct a b := rfl
@[simp] theorem un_obj' {a b c} : un ν (.obj a b c) = .obj a b c := rfl
@[simp] theorem tru_non : tru .non = some false := rfl
@[simp] theorem tru_bl {b} : tru (.bl b) = some b := rfl
@[simp] theorem tru_int {i} : tru (.int i) = some (i != 0) := rfl
@[simp] theorem binD_addI {i j} : binD .add (.int i) (.int j) = some (.int (i + j)) := rfl
@[simp] theorem binD_subI {i j} : binD .sub (.int i) (.int j) = some (.int (i - j)) := rfl
theorem binD_mulI {i j} (h : wideOk i j) : binD .mul (.int i) (.int j) = some (.int (i * j)) := if_pos h
theorem binD_fdv {i j : Int} (h : j ≠ 0 ∧ j.natAbs.log2 < 9000) : binD .fdv (.int i) (.int j) = some (.int (i.fdiv j)) := if_pos h
theorem binD_mod {i j : Int} (h : j ≠ 0) : binD .mod (.int i) (.int j) = some (.int (i.fmod j)) := if_pos h
theorem binD_pow {i j : Int} (h : 0 ≤ j ∧ j ≤ 1000000 ∧ i.natAbs < 2 ^ 64) : binD .pow (.int i) (.int j) = some (.int (i ^ j.toNat)) := if_pos h
theorem binD_addS {x y : Str} (h : x.length + y.length ≤ sizeLine) : binD .add (.str x) (.str y) = some (.str (x ++ y)) := if_pos h
theorem binD_addL {x y : List D} (h : x.length + y.length ≤ sizeLine) : binD .add (.lst x) (.lst y) = some (.lst (x ++ y)) := if_pos h
@[simp] theorem cmp_eq {x y} : cmpD ν .eq x y = eqD (un ν x) (un ν y) := rfl
@[simp] theorem cmp_ne {x y} : cmpD ν .ne x y = (eqD (un ν x) (un ν y)).map (!·) := rfl
@[simp] theorem cmp_lt {i j} : cmpD ν .lt (.int i) (.int j) = some (decide (i < j)) := rfl
@[simp] theorem cmp_le {i j} : cmpD ν .le (.int i) (.int j) = some (decide (i ≤ j)) := rfl
@[simp] theorem cmp_gt {i j} : cmpD ν .gt (.int i) (.int j) = some (decide (j < i)) := rfl
@[simp] theorem cmp_ge {i j} : cmpD ν .ge (.int i) (.int j) = some (decide (j ≤ i)) := rfl
@[simp] theorem cmp_isN {x} : cmpD ν .is x .non = some (isNonD x) := rfl
@[simp] theorem cmp_isB {x b} : cmpD ν .is x (.bl b) = some (isBlD b x) := rfl
@[simp] theorem cmp_notN {x} : cmpD ν .isnot x .non = some (!isNonD x) := rfl
@[simp] theorem cmp_notB {x b} : cmpD ν .isnot x (.bl b) = some (!isBlD b x) := rfl
@[simp] theorem eqD_int {i j} : eqD (.int i) (.int j) = some (i == j) := rfl
@[simp] theorem eqD_str {i j} : eqD (.str i) (.str j) = some (i == j) := rfl
@[simp] theorem eqD_bl {i j} : eqD (.bl i) (.bl j) = some (i == j) := rfl
@[simp] theorem eqD_nn : eqD .non .non = some true := rfl
@[simp] theorem bindT_nm {i d env} : bindT ν (.nm i) d env = some (env.set i (some d)) := rfl
@[simp] theorem bindT_tp {is xs env} : bindT ν (.tp is) (.tup xs) env = setAll env is xs := rfl
@[simp] theorem asgK_some {e} : asgK (some e) ν = some (.nx e, ν) := rfl
@[simp] theorem stoK_some {e ν'} : stoK e (some ν') = some (.nx e, ν') := rfl
@[simp] theorem new_f {d} : mkNew false d ν = some (.ok d, ν) := rfl
@[simp] theorem new_t {d} : mkNew true d ν = some (.ok (.tok ν.length), ν ++ [d]) := rfl
theorem layL_ap {nw ds} : layL nw ds ν = if ds.length ≤ sizeLine then mkNew nw (.lst ds) ν else none := by
  unfold layL
  by_cases h : ds.length ≤ sizeLine
  · rw [if_pos h, if_pos h]
  · rw [if_neg h, if_neg h]; rfl
theorem line_le {n : Nat} (h : n ≤ 16777216) : n ≤ sizeLine := by rw [sizeLine_eq]; exact h
theorem lay_ok {nw ds} (h : ds.length ≤ 16777216) : layL nw ds ν = mkNew nw (.lst ds) ν := by rw [layL_ap, if_pos (line_le h)]
theorem tup_ok {ds} (h : ds.length ≤ 16777216) : tup1 (some (.ok ds, ν)) = some (.ok (.tup ds), ν) := by
  show (if ds.length ≤ sizeLine then _ else _) = _
  rw [if_pos (line_le h)]
@[simp] theorem oInt_int {i} : oInt (.int i) = some i := rfl
@[simp] theorem bi_abs {i} : biD ν .abs [.int i] = some (.int (if i < 0 then -i else i)) := rfl
@[simp] theorem bi_gcd {i j} : biD ν .gcd [.int i, .int j] = some (.int (Nat.gcd i.natAbs j.natAbs : Nat)) := rfl
@[simp] theorem bi_intI {i} : biD ν .int [.int i] = some (.int i) := rfl
@[simp] theorem bi_intB {i} : biD ν .int [.bl i] = some (.int (if i then 1 else 0)) := rfl
@[simp] theorem bi_len {x : D} : biD ν .len [x] = (lenD (un ν x)).map fun n => D.int n := by unfold biD; rfl
@[simp] theorem bi_min {i j} : biD ν .min2 [.int i, .int j] = some (.int (if j < i then j else i)) := rfl
@[simp] theorem bi_max {i j} : biD ν .max2 [.int i, .int j] = some (.int (if j > i then j else i)) := rfl
@[simp] theorem len_lst {x} : lenD (.lst x) = some x.length := rfl
@[simp] theorem len_tup {x} : lenD (.tup x) = some x.length := rfl
@[simp] theorem len_frz {x} : lenD (.frz x) = some x.length := rfl
@[simp] theorem len_dct {x y} : lenD (.dct x y) = some x.length := rfl
theorem len_str {x : Str} (h : x.length ≤ 16777216) : lenD (.str x) = some x.length := if_pos (line_le h)
theorem tru_str {x : Str} (h : x.length ≤ 16777216) : tru (.str x) = some (x.length != 0) := if_pos (line_le h)
@[simp] theorem attr_obj {C ns vs f} : attrD ν (.obj C ns vs) f = fldAt f ns vs := rfl
theorem idx_lst {xs : List D} {i : Int} : idxD ν (.lst xs) (.int i) = (L2.ixN xs.length i).bind fun j => xs[j]? := rfl
theorem idx_tup {xs : List D} {i : Int} : idxD ν (.tup xs) (.int i) = (L2.ixN xs.length i).bind fun j => xs[j]? := rfl
theorem idx_frz {xs : List D} {i : Int} : idxD ν (.frz xs) (.int i) = (L2.ixN xs.length i).bind fun j => xs[j]? := rfl
theorem idx_tokL {xs : List D} {i : Int} {n : Nat} (h : ν[n]? = some (.lst xs)) : idxD ν (.tok n) (.int i) = (L2.ixN xs.length i).bind fun j => xs[j]? := by
  unfold idxD
  rw [un_tok h]
  rfl
theorem un_tokL {xs : List D} {n : Nat} (h : ν[n]? = some (.lst xs)) : un ν (.tok n) = .lst xs := un_tok h
theorem un_tokK {ks vs} {n : Nat} (h : ν[n]? = some (.dct ks vs)) : un ν (.tok n) = .dct ks vs := un_tok h
theorem ixN_nat {n j : Nat} (h : j < n) : L2.ixN n (j : Int) = some j := by
  unfold L2.ixN
  rw [if_pos (by omega), if_pos (by omega)]
  rfl
theorem at_end {α : Type} {l : List α} {a : α} : (l ++ [a])[l.length]? = some a := by simp
theorem set_end {α : Type} {l : List α} {a b : α} : (l ++ [a]).set l.length b = l ++ [b] := by simp
theorem take_end {α : Type} {l : List α} {a : α} : (l ++ [a]).take l.length = l := by simp
theorem log2_of {n k : Nat} (h : n < 2 ^ k) (hk : 0 < k) : n.log2 < k := by
  by_cases z : n = 0
  · subst z; simpa using hk
  · exact (Nat.log2_lt z).mpr h
end
/-! ### calls -/
section
variable {T : Tab} {tb : Nat → Option Fn} {W k f : Nat} {fn : Fn} {ds : List D} {ν : Sto}
theorem run_call (h : tb f = some fn) (hl : ds.length = fn.np) : (callP T tb W (k + 1)).1 f ds ν = fin ν.length fn.kp (evSs T (callP T tb W k).1 (callP T tb W k).2 ν.length W (startE fn ds) fn.body ν) := by
  rw [callP_succ h]
  exact congrFun (if_pos hl) ν
@[simp] theorem snd_call : (callP T tb W (k + 1)).2 = (callP T tb W k).1 := rfl
@[simp] theorem fin_rt {n : Nat} {kp : Bool} {d : D} {ν' : Sto} (h : ν'.length ≤ n) : fin n kp (some (.rt d, ν')) = some (.ok d, ν') := by
  show leave n kp d ν' = _
  unfold leave
  rw [if_pos h]
@[simp] theorem fin_nx {n : Nat} {kp : Bool} {e : Env} {ν' : Sto} (h : ν'.length ≤ n) : fin n kp (some (.nx e, ν')) = some (.ok .non, ν') := by
  show leave n kp .non ν' = _
  unfold leave
  rw [if_pos h]
@[simp] theorem fin_ex {n : Nat} {kp : Bool} {e : Env} {x : Exn} {ν' : Sto} (h : ν'.length ≤ n) : fin n kp (some (.ex x e, ν')) = some (.ex x, ν') := by
  show leaveX n x ν' = _
  unfold leaveX
  rw [if_pos h]
end
/-! ### loops -/
section
variable {T : Tab} {F F1 : Nat → List D → M D} {n0 W : Nat} {env : Env} {ν : Sto}
theorem loop_stop {t : Tg} {b : Ss} {src : Src} {w i : Nat} (h : srcN ν src i = some none) : loopT T F F1 n0 W t b src (w + 1) i env ν = some (.nx env, ν) := by
  show turns _ _ _ (w + 1) i env ν = _
  rw [turns_succ, h]
theorem loop_go {t : Tg} {b : Ss} {src : Src} {w i : Nat} {d : D} {env1 env2 : Env} {ν2 : Sto} (h : srcN ν src i = some (some d)) (hb : bindT ν t d env = some env1) (hr : evSs T F F1 n0 W env1 b ν = some (.nx env2, ν2)) :
    loopT T F F1 n0 W t b src (w + 1) i env ν = loopT T F F1 n0 W t b src w (i + 1) env2 ν2 := by
  show turns _ _ _ (w + 1) i env ν = _
  rw [turns_succ, h]
  simp only [hb, hr]
  rfl
/-- a loop of n turns that keeps P -/
theorem loop_inv {t : Tg} {b : Ss} {src : Src} {n : Nat} (P : Nat → Env → Sto → Prop) (hs : ∀ i, i < n → ∀ env ν, P i env ν → ∃ d env1 env2 ν2, srcN ν src i = some (some d) ∧ bindT ν t d env = some env1 ∧ evSs T F F1 n0 W env1 b ν = some (.nx env2, ν2) ∧ P (i + 1) env2 ν2)
    (he : ∀ env ν, P n env ν → srcN ν src n = some none) : ∀ (m i w : Nat) (env : Env) (ν : Sto), i + m = n → m < w → P i env ν → ∃ env' ν', loopT T F F1 n0 W t b src w i env ν = some (.nx env', ν') ∧ P n env' ν'
  | 0, i, w + 1, env, ν, hi, hw, p => by
    have : i = n := by omega
    subst this
    exact ⟨env, ν, loop_stop (he env ν p), p⟩
  | m + 1, i, w + 1, env, ν, hi, hw, p => by
    obtain ⟨d, env1, env2, ν2, h1, h2, h3, h4⟩ := hs i (by omega) env ν p
    rw [loop_go h1 h2 h3]
    exact loop_inv P hs he m (i + 1) w env2 ν2 (by omega) (by omega) h4
  | _, _, 0, _, _, _, hw, _ => absurd hw (by omega)
theorem whl_stop {c : E} {b : Ss} {w : Nat} {d : D} {ν' : Sto} (h : evE T F F1 n0 W env c ν = some (.ok d, ν')) (ht : tru (un ν' d) = some false) : whlT T F F1 n0 W c b (w + 1) env ν = some (.nx env, ν') := by
  show whileM _ _ (w + 1) env ν = _
  rw [while_succ, then_ap, bind_ap, h]
  simp only [look_ap, ht]
  rfl
theorem whl_go {c : E} {b : Ss} {w : Nat} {d : D} {ν' : Sto} {env2 : Env} {ν2 : Sto} (h : evE T F F1 n0 W env c ν = some (.ok d, ν')) (ht : tru (un ν' d) = some true) (hr : evSs T F F1 n0 W env b ν' = some (.nx env2, ν2)) :
    whlT T F F1 n0 W c b (w + 1) env ν = whlT T F F1 n0 W c b w env2 ν2 := by
  show whileM _ _ (w + 1) env ν = _
  rw [while_succ, then_ap, bind_ap, h]
  simp only [look_ap, ht]
  show (match evSs T F F1 n0 W env b ν' with
      | some (.nx env', ν') => _
      | some (.ct env', ν') => _
      | some (.bk env', ν') => _
      | some (.rt d, ν') => _
      | some (.ex x env', ν') => _
      | none => _) = _
  rw [hr]
  rfl
/-! ### comprehensions -/
theorem loopC_stop {src : Src} {f : D → M (Option D)} {w i : Nat} {acc : List D} (h : srcN ν src i = some none) : loopC src f (w + 1) i acc ν = some (.ok acc, ν) := by
  show ((M.look fun ν => srcN ν src i).bind fun o => (match o with
    | none => M.pure acc
    | some v => (calm (f v)).bind fun r => (match r with
      | none => loopC src f w (i + 1) acc
      | some x => fun ν => if acc.length < sizeLine then loopC src f w (i + 1) (acc ++ [x]) ν else none : M (List D)) : M (List D))) ν = _
  rw [bind_ap, look_ap]
  simp only [h]
  rfl
theorem loopC_go {src : Src} {f : D → M (Option D)} {w i : Nat} {acc : List D} {d : D} {r : Option D} {ν' : Sto} (h : srcN ν src i = some (some d)) (hf : f d ν = some (.ok r, ν')) (ha : acc.length < sizeLine) : loopC src f (w + 1) i acc ν = loopC src f w (i + 1) (acc ++ r.toList) ν' := by
  show ((M.look fun ν => srcN ν src i).bind fun o => (match o with
    | none => M.pure acc
    | some v => (calm (f v)).bind fun r => (match r with
      | none => loopC src f w (i + 1) acc
      | some x => fun ν => if acc.length < sizeLine then loopC src f w (i + 1) (acc ++ [x]) ν else none : M (List D)) : M (List D))) ν = _
  rw [bind_ap, look_ap]
  simp only [h]
  rw [bind_ap]
  have hc : calm (f d) ν = some (.ok r, ν') := by unfold calm; rw [hf]
  rw [hc]
  cases r with
  | none => simp
  | some x =>
    show (if acc.length < sizeLine then _ else _) = _
    rw [if_pos ha]
    rfl
/-- every turn keeps the store -/
theorem loopC_map {src : Src} {f : D → M (Option D)} {n : Nat} (g : Nat → Option D) (hs : ∀ i, i < n → ∃ d, srcN ν src i = some (some d) ∧ f d ν = some (.ok (g i), ν)) (he : srcN ν src n = some none) : ∀ (m i w : Nat) (acc : List D), i + m = n → m < w → acc.length + m ≤ sizeLine →
    loopC src f w i acc ν = some (.ok (acc ++ (List.range' i m).filterMap g), ν)
  | 0, i, w + 1, acc, hi, hw, hl => by
    have : i = n := by omega
    subst this
    rw [loopC_stop he]
    simp
  | m + 1, i, w + 1, acc, hi, hw, hl => by
    obtain ⟨d, h1, h2⟩ := hs i (by omega)
    rw [loopC_go h1 h2 (by omega), loopC_map g hs he m (i + 1) w _ (by omega) (by omega) (by
      rw [List.length_append]
      have : (g i).toList.length ≤ 1 := by cases g i <;> simp
      omega)]
    rw [List.range'_succ, List.filterMap_cons]
    cases g i <;> simp
  | _, _, 0, _, _, hw, _ => absurd hw (by omega)
def k_t2 : RS D → RS (Option D)
  | some (.ok x, ν) => some (.ok (some x), ν)
  | some (.ex x, ν) => some (.ex x, ν)
  | none => none
set_option autoImplicit true in
@[simp] theorem k_t2_0 : k_t2  (some (.ok x, ν)) = (some (.ok (some x), ν)) := rfl
set_option autoImplicit true in
@[simp] theorem k_t2_1 : k_t2  (some (.ex q, ν)) = (some (.ex q, ν)) := rfl
set_option autoImplicit true in
@[simp] theorem k_t2_2 : k_t2  (none) = (none) := rfl
def k_t1 (T : Tab) (F F1 : Nat → List D → M D) (n0 W : Nat) (env : Env) (el : E) : RS Bool → RS (Option D)
  | some (.ok true, ν) => k_t2 (evE T F F1 n0 W env el ν)
  | some (.ok false, ν) => some (.ok none, ν)
  | some (.ex x, ν) => some (.ex x, ν)
  | none => none
set_option autoImplicit true in
@[simp] theorem k_t1_0 : k_t1 T F F1 n0 W env el (some (.ok true, ν)) = (k_t2 (evE T F F1 n0 W env el ν)) := rfl
set_option autoImplicit true in
@[simp] theorem k_t1_1 : k_t1 T F F1 n0 W env el (some (.ok false, ν)) = (some (.ok none, ν)) := rfl
set_option autoImplicit true in
@[simp] theorem k_t1_2 : k_t1 T F F1 n0 W env el (some (.ex q, ν)) = (some (.ex q, ν)) := rfl
set_option autoImplicit true in
@[simp] theorem k_t1_3 : k_t1 T F F1 n0 W env el (none) = (none) := rfl
theorem turnE_ap {el : E} {tg : Tg} {cd : Oe} {own : List Nat} {d : D} {env1 : Env} (hb : bindT ν tg d (env.wipe own) = some env1) : turnE T F F1 n0 W env el tg cd own d ν = k_t1 T F F1 n0 W env1 el (evC T F F1 n0 W env1 cd ν) := by
  unfold turnE
  rw [bind_ap, look_ap]
  simp only [hb]
  rw [bind_ap]
  rcases evC T F F1 n0 W env1 cd ν with _ | ⟨(_ | _) | x, ν1⟩
  · rfl
  · rfl
  · show ((evE T F F1 n0 W env1 el).bind fun x => M.pure (some x)) ν1 = k_t2 (evE T F F1 n0 W env1 el ν1)
    rw [bind_ap]
    rcases evE T F F1 n0 W env1 el ν1 with _ | ⟨y | y, ν2⟩ <;> rfl
  · rfl
def k_c1 : RS D → RS Bool
  | some (.ok d, ν) => (match tru (un ν d) with
    | some b => some (.ok b, ν)
    | none => none)
  | some (.ex x, ν) => some (.ex x, ν)
  | none => none
set_option autoImplicit true in
@[simp] theorem k_c1_0 : k_c1  (some (.ok d, ν)) = ((match tru (un ν d) with
    | some b => some (.ok b, ν)
    | none => none)) := rfl
set_option autoImplicit true in
@[simp] theorem k_c1_1 : k_c1  (some (.ex q, ν)) = (some (.ex q, ν)) := rfl
set_option autoImplicit true in
@[simp] theorem k_c1_2 : k_c1  (none) = (none) := rfl
theorem loopC_list {xs : List D} {src : Src} {f : D → M (Option D)} {g : D → Option D} (hs : ∀ i, srcN ν src i = some xs[i]?) (hf : ∀ d ∈ xs, f d ν = some (.ok (g d), ν)) {w : Nat} (hw : xs.length < w) (hl : xs.length ≤ sizeLine) : loopC src f w 0 [] ν = some (.ok (xs.filterMap g), ν) := by
  have key : ∀ (m i w : Nat) (acc : List D), i + m = xs.length → m < w → acc.length + m ≤ sizeLine → loopC src f w i acc ν = some (.ok (acc ++ (xs.drop i).filterMap g), ν) := by
    intro m
    induction m with
    | zero =>
      intro i w acc hi hw hl
      obtain ⟨w, rfl⟩ : ∃ u, w = u + 1 := ⟨w - 1, by omega⟩
      rw [loopC_stop (by rw [hs, List.getElem?_eq_none (by omega)]), List.drop_eq_nil_of_le (by omega)]
      simp
    | succ m ih =>
      intro i w acc hi hw hl
      obtain ⟨w, rfl⟩ : ∃ u, w = u + 1 := ⟨w - 1, by omega⟩
      have hlt : i < xs.length := by omega
      rw [loopC_go (d := xs[i]) (by rw [hs, List.getElem?_eq_getElem hlt]) (hf _ (List.getElem_mem hlt)) (by omega), ih (i + 1) w _ (by omega) (by omega) (by
        rw [List.length_append]
        have : (g xs[i]).toList.length ≤ 1 := by cases g xs[i] <;> simp
        omega), List.drop_eq_getElem_cons hlt, List.filterMap_cons]
      cases g xs[i] <;> simp
  have := key xs.length 0 w [] (by omega) hw (by simpa using hl)
  simpa using this
@[simp] theorem m_cN : evC T F F1 n0 W env .none ν = some (.ok true, ν) := rfl
@[simp] theorem m_cS {e : E} : evC T F F1 n0 W env (.some e) ν = k_c1 (evE T F F1 n0 W env e ν) := by
  show ((evE T F F1 n0 W env e).bind fun d => M.look fun ν => tru (un ν d)) ν = _
  rw [bind_ap]
  rcases evE T F F1 n0 W env e ν with _ | ⟨x | x, ν1⟩
  · rfl
  · simp only [k_c1]
    rw [look_ap]
    cases tru (un ν1 x) <;> rfl
  · rfl
end
end EF

/-! the text of law_k02 in the small language; printed by gen.py -/
namespace K02
open PySem PySem.Spec PyProof.Rows L2 EF
def top (i : Nat) : Stmt := PySem.Challenge.pw_everyfreedom_k02_texts_of_numbers.main.body.getD i (.Pass ⟨0, 0, 0, 0⟩)
def clsBody : Stmt → List Stmt
  | .ClassDef _ _ _ b .. => b
  | _ => []
def cb (i j : Nat) : Stmt := (clsBody (top i)).getD j (.Pass ⟨0, 0, 0, 0⟩)
/-- is_whole -/
def b0 : Ss := (.cons (.ret (.and (.isi (.var 0) [.ty 0]) (.not (.isi (.var 0) [.ty 1]))))
  .nil)
def f0 : Fn := ⟨1, 1, false, b0⟩
def d0 : DefE := ⟨⟨("is_whole", none), "is_whole", "is_whole", defArgs (top 9), defBody (top 9), defScope (top 9), [], []⟩, ["value"], f0⟩
/-- is_number -/
def b1 : Ss := (.cons (.ret (.or (.call 0 (.cons (.var 0) .nil)) (.isi (.var 0) [.own 0])))
  .nil)
def f1 : Fn := ⟨1, 1, false, b1⟩
def d1 : DefE := ⟨⟨("is_number", none), "is_number", "is_number", defArgs (top 11), defBody (top 11), defScope (top 11), [], []⟩, ["value"], f1⟩
/-- pair_of -/
def b2 : Ss := (.cons (.ret (.ife (.isi (.var 0) [.own 0]) (.tup (.cons (.attr (.var 0) 1) (.cons (.attr (.var 0) 2) .nil))) (.tup (.cons (.var 0) (.cons (.lit (.int 1)) .nil)))))
  .nil)
def f2 : Fn := ⟨1, 1, false, b2⟩
def d2 : DefE := ⟨⟨("pair_of", none), "pair_of", "pair_of", defArgs (top 12), defBody (top 12), defScope (top 12), [], []⟩, ["number"], f2⟩
/-- quotient -/
def b3 : Ss := (.cons (.asg (.nm 2) (.ife (.cmp .gt (.var 1) (.lit (.int 0))) (.bi false .gcd (.cons (.var 0) (.cons (.var 1) .nil))) (.neg (.bi false .gcd (.cons (.var 0) (.cons (.var 1) .nil))))))
  (.cons (.ret (.ife (.cmp .eq (.var 1) (.var 2)) (.bin .fdv (.var 0) (.var 2)) (.mk 0 (.cons (.var 0) (.cons (.var 1) .nil)))))
  .nil))
def f3 : Fn := ⟨2, 3, false, b3⟩
def d3 : DefE := ⟨⟨("quotient", none), "quotient", "quotient", defArgs (top 13), defBody (top 13), defScope (top 13), [], []⟩, ["top", "bottom", "part"], f3⟩
/-- sign_of -/
def b4 : Ss := (.cons (.asg (.tp [1, 2]) (.call 2 (.cons (.var 0) .nil)))
  (.cons (.ret (.bin .sub (.bi false .int (.cons (.cmp .gt (.var 1) (.lit (.int 0))) .nil)) (.bi false .int (.cons (.cmp .lt (.var 1) (.lit (.int 0))) .nil))))
  .nil))
def f4 : Fn := ⟨1, 3, false, b4⟩
def d4 : DefE := ⟨⟨("sign_of", none), "sign_of", "sign_of", defArgs (top 14), defBody (top 14), defScope (top 14), [], []⟩, ["number", "top", "_"], f4⟩
/-- check_number -/
def b5 : Ss := (.cons (.ifs (.not (.call 1 (.cons (.var 0) .nil))) (.cons (.raise 4 (.cons (.var 0) .nil))
  .nil) .nil)
  .nil)
def f5 : Fn := ⟨1, 1, false, b5⟩
def d5 : DefE := ⟨⟨("check_number", none), "check_number", "check_number", defArgs (top 15), defBody (top 15), defScope (top 15), [], []⟩, ["number"], f5⟩
/-- power_of -/
def b6 : Ss := (.cons (.asg (.tp [3, 4]) (.call 2 (.cons (.var 0) .nil)))
  (.cons (.ifs (.cmp .lt (.var 1) (.lit (.int 0))) (.cons (.par [3, 4, 1] (.cons (.var 4) (.cons (.var 3) (.cons (.neg (.var 1)) .nil))))
  .nil) .nil)
  (.cons (.asg (.tp [5, 6]) (.tup (.cons (.lit (.int 1)) (.cons (.lit (.int 1)) .nil))))
  (.cons (.loop (.nm 2) (.rng (.cons (.var 1) .nil)) (.cons (.par [5, 6] (.cons (.bin .mul (.var 5) (.var 3)) (.cons (.bin .mul (.var 6) (.var 4)) .nil)))
  .nil))
  (.cons (.ret (.call 3 (.cons (.var 5) (.cons (.var 6) .nil))))
  .nil)))))
def f6 : Fn := ⟨2, 7, false, b6⟩
def d6 : DefE := ⟨⟨("power_of", none), "power_of", "power_of", defArgs (top 16), defBody (top 16), defScope (top 16), [], []⟩, ["number", "count", "_", "top", "bottom", "above", "below"], f6⟩
/-- raised -/
def b7 : Ss := (.cons (.expr (.call 5 (.cons (.var 0) .nil)))
  (.cons (.ifs (.or (.not (.call 0 (.cons (.var 1) .nil))) (.cmp .gt (.bi false .abs (.cons (.var 1) .nil)) (.glb 0))) (.cons (.raise 3 (.cons (.var 1) .nil))
  .nil) .nil)
  (.cons (.ifs (.and (.cmp .lt (.var 1) (.lit (.int 0))) (.cmp .eq (.call 4 (.cons (.var 0) .nil)) (.lit (.int 0)))) (.cons (.raise 2 .nil)
  .nil) .nil)
  (.cons (.ret (.call 6 (.cons (.var 0) (.cons (.var 1) .nil))))
  .nil))))
def f7 : Fn := ⟨2, 2, false, b7⟩
def d7 : DefE := ⟨⟨("raised", none), "raised", "raised", defArgs (top 17), defBody (top 17), defScope (top 17), [], []⟩, ["number", "count"], f7⟩
/-- number_text -/
def b8 : Ss := (.cons (.expr (.call 5 (.cons (.var 0) .nil)))
  (.cons (.asg (.tp [1, 2]) (.call 2 (.cons (.var 0) .nil)))
  (.cons (.ret (.ife (.cmp .eq (.var 2) (.lit (.int 1))) (.bi false .str (.cons (.var 1) .nil)) (.fst (.cons (.var 1) (.cons (.lit (.str "/")) (.cons (.var 2) .nil))))))
  .nil)))
def f8 : Fn := ⟨1, 3, false, b8⟩
def d8 : DefE := ⟨⟨("number_text", none), "number_text", "number_text", defArgs (top 21), defBody (top 21), defScope (top 21), [], []⟩, ["number", "top", "bottom"], f8⟩
/-- whole_in -/
def b9 : Ss := (.cons (.asg (.nm 1) (.ife (.cmp .eq (.sli false (.var 0) .none (.some (.lit (.int 1)))) (.lit (.str "-"))) (.sli false (.var 0) (.some (.lit (.int 1))) .none) (.var 0)))
  (.cons (.ifs (.or (.not (.chn .le .le (.lit (.int 1)) (.bi false .len (.cons (.var 1) .nil)) (.glb 1))) (.not (.bi false .all (.cons (.comp false (.cmp .inn (.var 2) (.glb 2)) (.nm 2) (.val (.var 1)) .none [2]) .nil)))) (.cons (.ret (.lit .non))
  .nil) .nil)
  (.cons (.ret (.bi false .int (.cons (.var 0) .nil)))
  .nil)))
def f9 : Fn := ⟨1, 3, false, b9⟩
def d9 : DefE := ⟨⟨("whole_in", none), "whole_in", "whole_in", defArgs (top 22), defBody (top 22), defScope (top 22), [], []⟩, ["word", "digits", "sign"], f9⟩
/-- number_in -/
def b10 : Ss := (.cons (.asg (.tp [2, 3, 4]) (.mt false .partition (.var 0) (.cons (.lit (.str "/")) .nil)))
  (.cons (.asg (.nm 1) (.tup (.cons (.call 9 (.cons (.var 2) .nil)) (.cons (.ife (.cmp .ne (.var 3) (.lit (.str ""))) (.call 9 (.cons (.var 4) .nil)) (.lit (.int 1))) .nil))))
  (.cons (.ret (.ife (.or (.cmp .inn (.lit .non) (.var 1)) (.cmp .eq (.idx (.var 1) (.lit (.int 1))) (.lit (.int 0)))) (.lit .non) (.star 3 (.var 1))))
  .nil)))
def f10 : Fn := ⟨1, 5, false, b10⟩
def d10 : DefE := ⟨⟨("number_in", none), "number_in", "number_in", defArgs (top 23), defBody (top 23), defScope (top 23), [], []⟩, ["text", "parts", "top", "mark", "bottom"], f10⟩
/-- read_number -/
def b11 : Ss := (.cons (.asg (.nm 1) (.ife (.isi (.var 0) [.ty 2]) (.call 10 (.cons (.var 0) .nil)) (.lit .non)))
  (.cons (.ifs (.or (.cmp .is (.var 1) (.lit .non)) (.cmp .ne (.call 8 (.cons (.var 1) .nil)) (.var 0))) (.cons (.raise 5 (.cons (.var 0) .nil))
  .nil) .nil)
  (.cons (.ret (.var 1))
  .nil)))
def f11 : Fn := ⟨1, 2, false, b11⟩
def d11 : DefE := ⟨⟨("read_number", none), "read_number", "read_number", defArgs (top 24), defBody (top 24), defScope (top 24), [], []⟩, ["text", "number"], f11⟩
/-- _law_cell -/
def b12 : Ss := (.cons (.ret (.ife (.cmp .lt (.var 1) (.bi false .len (.cons (.var 0) .nil))) (.idx (.var 0) (.var 1)) (.bin .add (.bin .mul (.lit (.int 7523)) (.var 1)) (.bin .mod (.bi false .int (.cons (.bi false .sum (.cons (.sli false (.var 0) .none (.some (.lit (.int 1)))) .nil)) .nil)) (.lit (.int 1000211))))))
  .nil)
def f12 : Fn := ⟨2, 2, false, b12⟩
def d12 : DefE := ⟨⟨("_law_cell", none), "_law_cell", "_law_cell", defArgs (top 26), defBody (top 26), defScope (top 26), [], []⟩, ["script", "k"], f12⟩
/-- _law_box -/
def b13 : Ss := (.cons (.ret (.lst true (.cons (.bi false .abs (.cons (.var 0) .nil)) (.cons (.cmp .ge (.bi false .abs (.cons (.var 0) .nil)) (.bin .pow (.lit (.int 10)) (.lit (.int 18)))) (.cons (.bin .mod (.bi false .int (.cons (.bi false .abs (.cons (.var 0) .nil)) .nil)) (.lit (.int 2147483629))) (.cons (.lit (.int 0)) .nil))))))
  .nil)
def f13 : Fn := ⟨1, 1, true, b13⟩
def d13 : DefE := ⟨⟨("_law_box", none), "_law_box", "_law_box", defArgs (top 27), defBody (top 27), defScope (top 27), [], []⟩, ["great"], f13⟩
/-- _law_take -/
def b14 : Ss := (.cons (.ifs (.and (.idx (.var 0) (.lit (.int 1))) (.cmp .gt (.idx (.var 0) (.lit (.int 0))) (.lit (.int 0)))) (.cons (.asg (.nm 3) (.bin .mod (.bi false .int (.cons (.idx (.var 0) (.lit (.int 0))) .nil)) (.var 1)))
  (.cons (.setI (.var 0) (.lit (.int 0)) (.bin .fdv (.idx (.var 0) (.lit (.int 0))) (.var 1)))
  (.cons (.ret (.var 3))
  .nil))) .nil)
  (.cons (.setI (.var 0) (.lit (.int 3)) (.bin .add (.idx (.var 0) (.lit (.int 3))) (.lit (.int 1))))
  (.cons (.asg (.nm 2) (.bin .mod (.bi false .int (.cons (.bin .pow (.bin .add (.bin .add (.idx (.var 0) (.lit (.int 2))) (.bin .mul (.lit (.int 15489031)) (.idx (.var 0) (.lit (.int 3))))) (.lit (.int 179431097))) (.lit (.int 5))) .nil)) (.lit (.int 2147483647))))
  (.cons (.ret (.bin .mod (.bi false .int (.cons (.bin .fdv (.bin .mod (.bi false .int (.cons (.bin .pow (.bin .add (.bin .mul (.var 2) (.lit (.int 48271))) (.bin .mul (.lit (.int 9323)) (.idx (.var 0) (.lit (.int 3))))) (.lit (.int 3))) .nil)) (.lit (.int 2147483587))) (.lit (.int 64))) .nil)) (.var 1)))
  .nil))))
def f14 : Fn := ⟨2, 4, false, b14⟩
def d14 : DefE := ⟨⟨("_law_take", none), "_law_take", "_law_take", defArgs (top 28), defBody (top 28), defScope (top 28), [], []⟩, ["box", "many", "drawn", "digit"], f14⟩
/-- _law_pick -/
def b15 : Ss := (.cons (.ret (.idx (.var 1) (.call 14 (.cons (.var 0) (.cons (.bi false .len (.cons (.var 1) .nil)) .nil)))))
  .nil)
def f15 : Fn := ⟨2, 2, false, b15⟩
def d15 : DefE := ⟨⟨("_law_pick", none), "_law_pick", "_law_pick", defArgs (top 29), defBody (top 29), defScope (top 29), [], []⟩, ["box", "items"], f15⟩
/-- _law_low -/
def b16 : Ss := (.cons (.par [2, 3] (.cons (.bi false .abs (.cons (.var 0) .nil)) (.cons (.bi false .abs (.cons (.var 1) .nil)) .nil)))
  (.cons (.whl (.cmp .ne (.var 3) (.lit (.int 0))) (.cons (.par [2, 3] (.cons (.var 3) (.cons (.bin .mod (.bi false .int (.cons (.var 2) .nil)) (.var 3)) .nil)))
  .nil))
  (.cons (.ret (.ife (.cmp .gt (.var 1) (.lit (.int 0))) (.tup (.cons (.bin .fdv (.var 0) (.var 2)) (.cons (.bin .fdv (.var 1) (.var 2)) .nil))) (.tup (.cons (.bin .sub (.lit (.int 0)) (.bin .fdv (.var 0) (.var 2))) (.cons (.bin .sub (.lit (.int 0)) (.bin .fdv (.var 1) (.var 2))) .nil)))))
  .nil)))
def f16 : Fn := ⟨2, 4, false, b16⟩
def d16 : DefE := ⟨⟨("_law_low", none), "_law_low", "_law_low", defArgs (top 30), defBody (top 30), defScope (top 30), [], []⟩, ["top", "bottom", "a", "b"], f16⟩
/-- _law_number -/
def b17 : Ss := (.cons (.asg (.nm 1) (.call 14 (.cons (.var 0) (.cons (.lit (.int 8)) .nil))))
  (.cons (.ifs (.cmp .lt (.var 1) (.lit (.int 4))) (.cons (.ret (.ife (.cmp .gt (.var 1) (.lit (.int 0))) (.tup (.cons (.bin .sub (.call 14 (.cons (.var 0) (.cons (.lit (.int 9)) .nil))) (.lit (.int 4))) (.cons (.lit (.int 1)) .nil))) (.tup (.cons (.lit (.int 0)) (.cons (.lit (.int 1)) .nil)))))
  .nil) .nil)
  (.cons (.ret (.call 16 (.cons (.bin .sub (.call 14 (.cons (.var 0) (.cons (.lit (.int 13)) .nil))) (.lit (.int 6))) (.cons (.bin .add (.lit (.int 1)) (.call 14 (.cons (.var 0) (.cons (.lit (.int 5)) .nil)))) .nil))))
  .nil)))
def f17 : Fn := ⟨1, 2, false, b17⟩
def d17 : DefE := ⟨⟨("_law_number", none), "_law_number", "_law_number", defArgs (top 31), defBody (top 31), defScope (top 31), [], []⟩, ["box", "way"], f17⟩
/-- _law_pass -/
def b18 : Ss := (.cons (.asg (.nm 2) (.ife (.cmp .lt (.bin .add (.bi false .abs (.cons (.idx (.var 1) (.lit (.int 0))) .nil)) (.idx (.var 1) (.lit (.int 1)))) (.bin .pow (.lit (.int 10)) (.lit (.int 18)))) (.bin .add (.lit (.int 1)) (.call 14 (.cons (.var 0) (.cons (.lit (.int 3)) .nil)))) (.lit (.int 1))))
  (.cons (.ifs (.and (.cmp .eq (.idx (.var 1) (.lit (.int 1))) (.lit (.int 1))) (.cmp .gt (.call 14 (.cons (.var 0) (.cons (.lit (.int 4)) .nil))) (.lit (.int 0)))) (.cons (.ret (.idx (.var 1) (.lit (.int 0))))
  .nil) .nil)
  (.cons (.ret (.ife (.cmp .gt (.call 14 (.cons (.var 0) (.cons (.lit (.int 3)) .nil))) (.lit (.int 0))) (.mk 0 (.cons (.bin .mul (.idx (.var 1) (.lit (.int 0))) (.var 2)) (.cons (.bin .mul (.idx (.var 1) (.lit (.int 1))) (.var 2)) .nil))) (.mk 0 (.cons (.bin .sub (.lit (.int 0)) (.bin .mul (.idx (.var 1) (.lit (.int 0))) (.var 2))) (.cons (.bin .sub (.lit (.int 0)) (.bin .mul (.idx (.var 1) (.lit (.int 1))) (.var 2))) .nil)))))
  .nil)))
def f18 : Fn := ⟨2, 3, false, b18⟩
def d18 : DefE := ⟨⟨("_law_pass", none), "_law_pass", "_law_pass", defArgs (top 32), defBody (top 32), defScope (top 32), [], []⟩, ["box", "pair", "by"], f18⟩
/-- _law_due -/
def b19 : Ss := (.cons (.ret (.ife (.cmp .eq (.idx (.var 0) (.lit (.int 1))) (.lit (.int 1))) (.idx (.var 0) (.lit (.int 0))) (.tup (.cons (.lit (.str "/")) (.cons (.idx (.var 0) (.lit (.int 0))) (.cons (.idx (.var 0) (.lit (.int 1))) .nil))))))
  .nil)
def f19 : Fn := ⟨1, 1, false, b19⟩
def d19 : DefE := ⟨⟨("_law_due", none), "_law_due", "_law_due", defArgs (top 33), defBody (top 33), defScope (top 33), [], []⟩, ["pair"], f19⟩
/-- _law_is -/
def b20 : Ss := (.cons (.ret (.and (.isi (.var 0) [.ty 0]) (.and (.not (.isi (.var 0) [.ty 1])) (.cmp .eq (.bin .sub (.bi false .int (.cons (.var 0) .nil)) (.var 1)) (.lit (.int 0))))))
  .nil)
def f20 : Fn := ⟨2, 2, false, b20⟩
def d20 : DefE := ⟨⟨("_law_is", none), "_law_is", "_law_is", defArgs (top 34), defBody (top 34), defScope (top 34), [], []⟩, ["told", "number"], f20⟩
/-- _law_like -/
def b21 : Ss := (.cons (.ifs (.or (.cmp .is (.var 1) (.lit .non)) (.isi (.var 1) [.ty 1])) (.cons (.ret (.ife (.cmp .is (.var 1) (.lit .non)) (.cmp .is (.var 0) (.lit .non)) (.and (.isi (.var 0) [.ty 1]) (.cmp .eq (.cmp .is (.var 0) (.lit (.bl true))) (.cmp .is (.var 1) (.lit (.bl true)))))))
  .nil) .nil)
  (.cons (.ifs (.isi (.var 1) [.ty 0]) (.cons (.ret (.call 20 (.cons (.var 0) (.cons (.var 1) .nil))))
  .nil) .nil)
  (.cons (.ifs (.isi (.var 1) [.ty 2]) (.cons (.ret (.and (.isi (.var 0) [.ty 2]) (.and (.cmp .eq (.bi false .len (.cons (.var 0) .nil)) (.bi false .len (.cons (.var 1) .nil))) (.cmp .eq (.comp false (.var 2) (.nm 2) (.rng (.cons (.bi false .len (.cons (.var 1) .nil)) .nil)) (.some (.cmp .ne (.sli false (.var 0) (.some (.var 2)) (.some (.bin .add (.var 2) (.lit (.int 1))))) (.idx (.var 1) (.var 2)))) [2]) (.lst false .nil)))))
  .nil) .nil)
  (.cons (.ifs (.isi (.var 1) [.own 0]) (.cons (.ret (.and (.isi (.var 0) [.own 0]) (.and (.call 20 (.cons (.attr (.var 0) 1) (.cons (.attr (.var 1) 1) .nil))) (.call 20 (.cons (.attr (.var 0) 2) (.cons (.attr (.var 1) 2) .nil))))))
  .nil) .nil)
  (.cons (.ifs (.and (.isi (.var 1) [.ty 4]) (.and (.cmp .eq (.bi false .len (.cons (.var 1) .nil)) (.lit (.int 3))) (.and (.isi (.idx (.var 1) (.lit (.int 0))) [.ty 2]) (.cmp .eq (.idx (.var 1) (.lit (.int 0))) (.lit (.str "/")))))) (.cons (.ret (.and (.isi (.var 0) [.own 0]) (.and (.call 20 (.cons (.attr (.var 0) 1) (.cons (.idx (.var 1) (.lit (.int 1))) .nil))) (.call 20 (.cons (.attr (.var 0) 2) (.cons (.idx (.var 1) (.lit (.int 2))) .nil))))))
  .nil) .nil)
  (.cons (.ifs (.isi (.var 1) [.ty 5]) (.cons (.ret (.and (.isi (.var 0) [.ty 5]) (.and (.cmp .eq (.bi false .len (.cons (.var 0) .nil)) (.bi false .len (.cons (.var 1) .nil))) (.cmp .eq (.lck 1 (.comp false (.var 3) (.nm 3) (.val (.var 1)) (.some (.or (.cmp .notin (.var 3) (.var 0)) (.not (.call 21 (.cons (.idx (.var 0) (.var 3)) (.cons (.idx (.var 1) (.var 3)) .nil)))))) [3])) (.lst false .nil)))))
  .nil) .nil)
  (.cons (.ifs (.or (.not (.isi (.var 1) [.ty 3, .ty 4])) (.or (.cmp .ne (.isi (.var 0) [.ty 3]) (.isi (.var 1) [.ty 3])) (.cmp .ne (.isi (.var 0) [.ty 4]) (.isi (.var 1) [.ty 4])))) (.cons (.ret (.lit (.bl false)))
  .nil) .nil)
  (.cons (.ret (.and (.cmp .eq (.bi false .len (.cons (.var 0) .nil)) (.bi false .len (.cons (.var 1) .nil))) (.cmp .eq (.comp false (.var 2) (.nm 2) (.rng (.cons (.bi false .len (.cons (.var 1) .nil)) .nil)) (.some (.not (.call 21 (.cons (.idx (.var 0) (.var 2)) (.cons (.idx (.var 1) (.var 2)) .nil))))) [2]) (.lst false .nil))))
  .nil))))))))
def f21 : Fn := ⟨2, 4, false, b21⟩
def d21 : DefE := ⟨⟨("_law_like", none), "_law_like", "_law_like", defArgs (top 35), defBody (top 35), defScope (top 35), [], []⟩, ["told", "due", "k", "key"], f21⟩
/-- _law_keeps -/
def b22 : Ss := (.cons (.ifs (.not (.call 21 (.cons (.var 0) (.cons (.var 1) .nil)))) (.cons (.ret (.lit (.bl false)))
  .nil) .nil)
  (.cons (.ifs (.isi (.var 1) [.ty 3]) (.cons (.expr (.mt false .append (.var 1) (.cons (.lit (.int 7)) .nil)))
  .nil) .nil)
  (.cons (.ifs (.isi (.var 1) [.ty 5]) (.cons (.setI (.var 1) (.lit (.str "more")) (.lit (.int 7)))
  .nil) .nil)
  (.cons (.ret (.call 21 (.cons (.var 0) (.cons (.var 1) .nil))))
  .nil))))
def f22 : Fn := ⟨2, 2, false, b22⟩
def d22 : DefE := ⟨⟨("_law_keeps", none), "_law_keeps", "_law_keeps", defArgs (top 36), defBody (top 36), defScope (top 36), [], []⟩, ["told", "value"], f22⟩
/-- _law_copy -/
def b23 : Ss := (.cons (.ifs (.isi (.var 0) [.ty 3]) (.cons (.ret (.comp true (.call 23 (.cons (.var 1) .nil)) (.nm 1) (.val (.var 0)) .none [1]))
  .nil) .nil)
  (.cons (.ifs (.isi (.var 0) [.ty 5]) (.cons (.ret (.bi true .dict (.cons (.comp false (.tup (.cons (.var 2) (.cons (.call 23 (.cons (.idx (.var 0) (.var 2)) .nil)) .nil))) (.nm 2) (.val (.var 0)) .none [2]) .nil)))
  .nil) .nil)
  (.cons (.ret (.ife (.isi (.var 0) [.ty 4]) (.bi false .tuple (.cons (.comp false (.call 23 (.cons (.var 1) .nil)) (.nm 1) (.val (.var 0)) .none [1]) .nil)) (.var 0)))
  .nil)))
def f23 : Fn := ⟨1, 3, true, b23⟩
def d23 : DefE := ⟨⟨("_law_copy", none), "_law_copy", "_law_copy", defArgs (top 37), defBody (top 37), defScope (top 37), [], []⟩, ["value", "item", "key"], f23⟩
/-- _law_great -/
def b24 : Ss := (.cons (.asg (.nm 1) (.bin .mul (.bin .add (.bin .add (.bin .pow (.lit (.int 10)) (.lit (.int 19))) (.bin .mul (.call 14 (.cons (.var 0) (.cons (.bin .pow (.lit (.int 10)) (.lit (.int 6))) .nil))) (.bin .pow (.lit (.int 10)) (.lit (.int 6))))) (.call 14 (.cons (.var 0) (.cons (.bin .pow (.lit (.int 10)) (.lit (.int 6))) .nil)))) (.bin .sub (.lit (.int 1)) (.bin .mul (.lit (.int 2)) (.call 14 (.cons (.var 0) (.cons (.lit (.int 2)) .nil)))))))
  (.cons (.ret (.call 16 (.cons (.var 1) (.cons (.idx (.lst false (.cons (.lit (.int 1)) (.cons (.bin .add (.bin .pow (.lit (.int 10)) (.lit (.int 19))) (.call 14 (.cons (.var 0) (.cons (.bin .pow (.lit (.int 10)) (.lit (.int 6))) .nil)))) (.cons (.lit (.int 2)) (.cons (.bin .add (.bin .pow (.lit (.int 10)) (.lit (.int 10))) (.lit (.int 1))) .nil))))) (.call 14 (.cons (.var 0) (.cons (.lit (.int 4)) .nil)))) .nil))))
  .nil))
def f24 : Fn := ⟨1, 2, false, b24⟩
def d24 : DefE := ⟨⟨("_law_great", none), "_law_great", "_law_great", defArgs (top 38), defBody (top 38), defScope (top 38), [], []⟩, ["box", "top"], f24⟩
/-- _law_digits -/
def b25 : Ss := (.cons (.par [1, 2] (.cons (.lit (.str "")) (.cons (.var 0) .nil)))
  (.cons (.whl (.cmp .gt (.var 2) (.lit (.int 0))) (.cons (.par [1, 2] (.cons (.bin .add (.idx (.lit (.str "0123456789")) (.bin .mod (.bi false .int (.cons (.var 2) .nil)) (.lit (.int 10)))) (.var 1)) (.cons (.bin .fdv (.var 2) (.lit (.int 10))) .nil)))
  .nil))
  (.cons (.ret (.ife (.cmp .ne (.var 1) (.lit (.str ""))) (.var 1) (.lit (.str "0"))))
  .nil)))
def f25 : Fn := ⟨1, 3, false, b25⟩
def d25 : DefE := ⟨⟨("_law_digits", none), "_law_digits", "_law_digits", defArgs (top 39), defBody (top 39), defScope (top 39), [], []⟩, ["number", "found", "left"], f25⟩
/-- _law_text -/
def b26 : Ss := (.cons (.asg (.nm 1) (.ife (.cmp .lt (.idx (.var 0) (.lit (.int 0))) (.lit (.int 0))) (.lit (.str "-")) (.lit (.str ""))))
  (.cons (.ret (.bin .add (.bin .add (.var 1) (.call 25 (.cons (.bi false .abs (.cons (.idx (.var 0) (.lit (.int 0))) .nil)) .nil))) (.ife (.cmp .gt (.idx (.var 0) (.lit (.int 1))) (.lit (.int 1))) (.bin .add (.lit (.str "/")) (.call 25 (.cons (.idx (.var 0) (.lit (.int 1))) .nil))) (.lit (.str "")))))
  .nil))
def f26 : Fn := ⟨1, 2, false, b26⟩
def d26 : DefE := ⟨⟨("_law_text", none), "_law_text", "_law_text", defArgs (top 40), defBody (top 40), defScope (top 40), [], []⟩, ["pair", "sign"], f26⟩
/-- _law_whole -/
def b27 : Ss := (.cons (.par [3, 4] (.cons (.ife (.and (.var 1) (.cmp .eq (.sli false (.var 0) .none (.some (.lit (.int 1)))) (.lit (.str "-")))) (.sli false (.var 0) (.some (.lit (.int 1))) .none) (.var 0)) (.cons (.lit (.int 0)) .nil)))
  (.cons (.ifs (.or (.cmp .eq (.var 3) (.lit (.str ""))) (.or (.cmp .gt (.bi false .len (.cons (.var 3) .nil)) (.lit (.int 20))) (.cmp .ne (.comp false (.var 2) (.nm 2) (.val (.var 3)) (.some (.cmp .notin (.var 2) (.lit (.str "0123456789")))) [2]) (.lst false .nil)))) (.cons (.ret (.lit .non))
  .nil) .nil)
  (.cons (.ifs (.and (.cmp .eq (.sli false (.var 3) .none (.some (.lit (.int 1)))) (.lit (.str "0"))) (.cmp .ne (.var 0) (.lit (.str "0")))) (.cons (.ret (.lit .non))
  .nil) .nil)
  (.cons (.loop (.nm 2) (.val (.var 3)) (.cons (.asg (.nm 4) (.bin .add (.bin .mul (.var 4) (.lit (.int 10))) (.mt false .index (.lit (.str "0123456789")) (.cons (.var 2) .nil))))
  .nil))
  (.cons (.ret (.ife (.cmp .ne (.var 3) (.var 0)) (.bin .sub (.lit (.int 0)) (.var 4)) (.var 4)))
  .nil)))))
def f27 : Fn := ⟨2, 5, false, b27⟩
def d27 : DefE := ⟨⟨("_law_whole", none), "_law_whole", "_law_whole", defArgs (top 41), defBody (top 41), defScope (top 41), [], []⟩, ["text", "signed", "sign", "body", "found"], f27⟩
/-- _law_read -/
def b28 : Ss := (.cons (.ifs (.not (.isi (.var 0) [.ty 2])) (.cons (.ret (.lit .non))
  .nil) .nil)
  (.cons (.asg (.nm 1) (.mt false .split (.var 0) (.cons (.lit (.str "/")) .nil)))
  (.cons (.asg (.nm 2) (.call 27 (.cons (.idx (.var 1) (.lit (.int 0))) (.cons (.lit (.bl true)) .nil))))
  (.cons (.ifs (.or (.cmp .is (.var 2) (.lit .non)) (.cmp .gt (.bi false .len (.cons (.var 1) .nil)) (.lit (.int 2)))) (.cons (.ret (.lit .non))
  .nil) .nil)
  (.cons (.ifs (.cmp .eq (.bi false .len (.cons (.var 1) .nil)) (.lit (.int 1))) (.cons (.ret (.tup (.cons (.var 2) (.cons (.lit (.int 1)) .nil))))
  .nil) .nil)
  (.cons (.asg (.nm 3) (.call 27 (.cons (.idx (.var 1) (.lit (.int 1))) (.cons (.lit (.bl false)) .nil))))
  (.cons (.ifs (.or (.cmp .is (.var 3) (.lit .non)) (.or (.cmp .lt (.var 3) (.lit (.int 2))) (.or (.cmp .eq (.var 2) (.lit (.int 0))) (.cmp .ne (.call 16 (.cons (.var 2) (.cons (.var 3) .nil))) (.tup (.cons (.var 2) (.cons (.var 3) .nil))))))) (.cons (.ret (.lit .non))
  .nil) .nil)
  (.cons (.ret (.tup (.cons (.var 2) (.cons (.var 3) .nil))))
  .nil))))))))
def f28 : Fn := ⟨1, 4, false, b28⟩
def d28 : DefE := ⟨⟨("_law_read", none), "_law_read", "_law_read", defArgs (top 42), defBody (top 42), defScope (top 42), [], []⟩, ["text", "parts", "top", "bottom"], f28⟩
/-- _law_asked -/
def b29 : Ss := (.cons (.tri (.cons (.ifs (.cmp .eq (.var 0) (.lit (.str "text"))) (.cons (.ret (.lst false (.cons (.lit (.str "told")) (.cons (.ife (.var 2) (.callk 8 1 .nil (.cons (.var 1) .nil)) (.call 8 (.cons (.var 1) .nil))) .nil))))
  .nil) .nil)
  (.cons (.ret (.lst false (.cons (.lit (.str "told")) (.cons (.ife (.var 2) (.callk 11 0 .nil (.cons (.var 1) .nil)) (.call 11 (.cons (.var 1) .nil))) .nil))))
  .nil)) (.cons 4 (some 3) (.lst (.cons (.lit (.str "number")) (.cons (.attr 0) (.cons (.isi 1) .nil)))) (.cons 5 (some 3) (.lst (.cons (.lit (.str "no text")) (.cons (.attr 0) (.cons (.isi 1) .nil)))) .nil)))
  .nil)
def f29 : Fn := ⟨3, 4, false, b29⟩
def d29 : DefE := ⟨⟨("_law_asked", none), "_law_asked", "_law_asked", defArgs (top 43), defBody (top 43), defScope (top 43), [], []⟩, ["door", "value", "named", "e"], f29⟩
/-- _law_read_right -/
def b30 : Ss := (.cons (.asg (.nm 2) (.call 28 (.cons (.var 0) .nil)))
  (.cons (.loop (.nm 3) (.val (.tup (.cons (.var 1) (.cons (.not (.var 1)) .nil)))) (.cons (.asg (.nm 4) (.call 23 (.cons (.var 0) .nil)))
  (.cons (.asg (.nm 5) (.call 29 (.cons (.lit (.str "read")) (.cons (.var 4) (.cons (.var 3) .nil)))))
  (.cons (.ifs (.cmp .isnot (.var 2) (.lit .non)) (.cons (.ifs (.not (.call 21 (.cons (.var 5) (.cons (.lst false (.cons (.lit (.str "told")) (.cons (.call 19 (.cons (.var 2) .nil)) .nil))) .nil)))) (.cons (.ret (.lit (.bl false)))
  .nil) .nil)
  .nil) (.cons (.ifs (.or (.cmp .ne (.idx (.var 5) (.lit (.int 0))) (.lit (.str "no text"))) (.or (.cmp .isnot (.idx (.var 5) (.lit (.int 2))) (.lit (.bl true))) (.not (.call 22 (.cons (.idx (.var 5) (.lit (.int 1))) (.cons (.var 4) .nil)))))) (.cons (.ret (.lit (.bl false)))
  .nil) .nil)
  .nil))
  .nil))))
  (.cons (.ret (.lit (.bl true)))
  .nil)))
def f30 : Fn := ⟨2, 6, false, b30⟩
def d30 : DefE := ⟨⟨("_law_read_right", none), "_law_read_right", "_law_read_right", defArgs (top 44), defBody (top 44), defScope (top 44), [], []⟩, ["text", "named", "due", "by_name", "given", "told"], f30⟩
/-- _law_spoilt -/
def b31 : Ss := (.cons (.asg (.nm 2) (.call 14 (.cons (.var 0) (.cons (.bin .add (.bi false .len (.cons (.var 1) .nil)) (.lit (.int 1))) .nil))))
  (.cons (.asg (.nm 3) (.call 15 (.cons (.var 0) (.cons (.lst false (.cons (.lit (.str "0")) (.cons (.lit (.str "7")) (.cons (.lit (.str "-")) (.cons (.lit (.str "/")) (.cons (.lit (.str " ")) (.cons (.lit (.str "+")) (.cons (.lit (.str ".")) (.cons (.lit (.str "_")) (.cons (.lit (.str "e")) (.cons (.lit (.str "a")) .nil))))))))))) .nil))))
  (.cons (.asg (.nm 4) (.call 14 (.cons (.var 0) (.cons (.lit (.int 6)) .nil))))
  (.cons (.ifs (.cmp .eq (.var 4) (.lit (.int 0))) (.cons (.ret (.bin .add (.bin .add (.sli false (.var 1) .none (.some (.var 2))) (.var 3)) (.sli false (.var 1) (.some (.var 2)) .none)))
  .nil) .nil)
  (.cons (.ifs (.cmp .eq (.var 4) (.lit (.int 1))) (.cons (.ret (.bin .add (.sli false (.var 1) .none (.some (.var 2))) (.sli false (.var 1) (.some (.bin .add (.var 2) (.lit (.int 1)))) .none)))
  .nil) .nil)
  (.cons (.ifs (.cmp .eq (.var 4) (.lit (.int 2))) (.cons (.ret (.bin .add (.bin .add (.sli false (.var 1) .none (.some (.var 2))) (.var 3)) (.sli false (.var 1) (.some (.bin .add (.var 2) (.lit (.int 1)))) .none)))
  .nil) .nil)
  (.cons (.ifs (.cmp .eq (.var 4) (.lit (.int 3))) (.cons (.ret (.bin .add (.var 1) (.sli false (.var 1) (.some (.var 2)) .none)))
  .nil) .nil)
  (.cons (.ret (.call 15 (.cons (.var 0) (.cons (.lst false (.cons (.bin .add (.var 1) (.lit (.str " "))) (.cons (.bin .add (.lit (.str " ")) (.var 1)) (.cons (.bin .add (.var 1) (.lit (.str "\n"))) (.cons (.bin .add (.lit (.str "+")) (.var 1)) (.cons (.bin .add (.lit (.str "0")) (.var 1)) (.cons (.bin .add (.lit (.str "-")) (.var 1)) (.cons (.bin .add (.var 1) (.lit (.str "/1"))) (.cons (.bin .add (.var 1) (.lit (.str "/0"))) (.cons (.bin .add (.var 1) (.lit (.str "/"))) (.cons (.bin .add (.lit (.str "/")) (.var 1)) (.cons (.bin .add (.var 1) (.lit (.str "/2"))) (.cons (.rev (.var 1)) .nil))))))))))))) .nil))))
  .nil))))))))
def f31 : Fn := ⟨2, 5, false, b31⟩
def d31 : DefE := ⟨⟨("_law_spoilt", none), "_law_spoilt", "_law_spoilt", defArgs (top 45), defBody (top 45), defScope (top 45), [], []⟩, ["box", "text", "at", "sign", "way"], f31⟩
/-- _law_made -/
def b32 : Ss := (.cons (.par [2, 3] (.cons (.bin .add (.lit (.int 17)) (.call 14 (.cons (.var 0) (.cons (.lit (.int 5)) .nil)))) (.cons (.call 15 (.cons (.var 0) (.cons (.lst false (.cons (.lit (.str "1")) (.cons (.lit (.str "9")) (.cons (.lit (.str "3")) .nil)))) .nil))) .nil)))
  (.cons (.asg (.nm 1) (.lst false (.cons (.bin .mul (.var 3) (.var 2)) (.cons (.bin .add (.lit (.str "-")) (.bin .mul (.var 3) (.var 2))) (.cons (.bin .add (.lit (.str "1/")) (.bin .mul (.var 3) (.var 2))) (.cons (.bin .add (.bin .mul (.var 3) (.var 2)) (.lit (.str "/2"))) (.cons (.bin .add (.bin .add (.bin .mul (.var 3) (.var 2)) (.lit (.str "/"))) (.bin .mul (.lit (.str "7")) (.lit (.int 20)))) (.cons (.bin .add (.bin .add (.bin .mul (.var 3) (.var 2)) (.lit (.str "/"))) (.bin .mul (.lit (.str "7")) (.lit (.int 21)))) (.cons (.bin .mul (.lit (.str "0")) (.lit (.int 20))) (.cons (.bin .add (.lit (.str "1")) (.bin .mul (.lit (.str "0")) (.lit (.int 19)))) (.cons (.bin .add (.lit (.str "1")) (.bin .mul (.lit (.str "0")) (.lit (.int 20)))) .nil)))))))))))
  (.cons (.asg (.nm 1) (.bin .add (.var 1) (.lst false (.cons (.lit (.str "-0")) (.cons (.lit (.str "0/3")) (.cons (.lit (.str "2/4")) (.cons (.lit (.str "-2/4")) (.cons (.lit (.str "3/1")) (.cons (.lit (.str "1/-2")) (.cons (.lit (.str "--1")) (.cons (.lit (.str "-")) (.cons (.lit (.str "")) (.cons (.lit (.str "1/2/3")) (.cons (.lit (.str "1 / 2")) (.cons (.lit (.str "1/02")) (.cons (.lit (.str "01/2")) (.cons (.lit (.str "1.5")) (.cons (.lit (.str "1e3")) (.cons (.lit (.str "0x1")) (.cons (.lit (.str "1_0")) (.cons (.lit (.str "-1/2")) (.cons (.lit (.str "7/-1")) (.cons (.lit (.str "True")) (.cons (.lit (.str "1/0")) (.cons (.lit (.str "0/0")) .nil)))))))))))))))))))))))))
  (.cons (.ret (.call 15 (.cons (.var 0) (.cons (.var 1) .nil))))
  .nil))))
def f32 : Fn := ⟨1, 4, false, b32⟩
def d32 : DefE := ⟨⟨("_law_made", none), "_law_made", "_law_made", defArgs (top 46), defBody (top 46), defScope (top 46), [], []⟩, ["box", "found", "many", "digit"], f32⟩
/-- _law_power -/
def b33 : Ss := (.cons (.asg (.nm 2) (.lit (.int 1)))
  (.cons (.loop (.nm 3) (.rng (.cons (.var 1) .nil)) (.cons (.asg (.nm 2) (.bin .mul (.var 2) (.var 0)))
  .nil))
  (.cons (.ret (.var 2))
  .nil)))
def f33 : Fn := ⟨2, 4, false, b33⟩
def d33 : DefE := ⟨⟨("_law_power", none), "_law_power", "_law_power", defArgs (top 47), defBody (top 47), defScope (top 47), [], []⟩, ["base", "count", "found", "turn"], f33⟩
/-- law -/
def b34 : Ss := (.cons (.loop (.nm 1) (.rng (.cons (.bi false .max2 (.cons (.lit (.int 2)) (.cons (.bi false .min2 (.cons (.lit (.int 3)) (.cons (.bi false .len (.cons (.var 0) .nil)) .nil))) .nil))) .nil)) (.cons (.asg (.nm 2) (.call 13 (.cons (.call 12 (.cons (.var 0) (.cons (.var 1) .nil))) .nil)))
  (.cons (.asg (.tp [7, 8]) (.tup (.cons (.cmp .eq (.call 14 (.cons (.var 2) (.cons (.lit (.int 2)) .nil))) (.lit (.int 0))) (.cons (.cmp .eq (.call 14 (.cons (.var 2) (.cons (.lit (.int 8)) .nil))) (.lit (.int 0))) .nil))))
  (.cons (.asg (.nm 3) (.comp false (.ife (.and (.var 8) (.cmp .eq (.call 14 (.cons (.var 2) (.cons (.lit (.int 2)) .nil))) (.lit (.int 0)))) (.call 24 (.cons (.var 2) .nil)) (.call 17 (.cons (.var 2) .nil))) (.nm 5) (.rng (.cons (.lit (.int 6)) .nil)) .none [5]))
  (.cons (.loop (.nm 4) (.val (.var 3)) (.cons (.asg (.nm 9) (.call 26 (.cons (.var 4) .nil)))
  (.cons (.asg (.nm 10) (.lst false (.cons (.call 29 (.cons (.lit (.str "text")) (.cons (.call 18 (.cons (.var 2) (.cons (.var 4) .nil))) (.cons (.var 7) .nil)))) (.cons (.call 29 (.cons (.lit (.str "text")) (.cons (.call 18 (.cons (.var 2) (.cons (.var 4) .nil))) (.cons (.not (.var 7)) .nil)))) .nil))))
  (.cons (.ifs (.or (.not (.call 21 (.cons (.var 10) (.cons (.bin .mul (.lst false (.cons (.lst false (.cons (.lit (.str "told")) (.cons (.var 9) .nil))) .nil)) (.lit (.int 2))) .nil)))) (.not (.call 30 (.cons (.var 9) (.cons (.var 7) .nil))))) (.cons (.ret (.lit (.bl false)))
  .nil) .nil)
  (.cons (.loop (.nm 5) (.rng (.cons (.lit (.int 4)) .nil)) (.cons (.ifs (.not (.call 30 (.cons (.call 31 (.cons (.var 2) (.cons (.var 9) .nil))) (.cons (.not (.var 7)) .nil)))) (.cons (.ret (.lit (.bl false)))
  .nil) .nil)
  .nil))
  (.cons (.asg (.nm 7) (.not (.var 7)))
  .nil))))))
  (.cons (.par [11, 12] (.cons (.bin .add (.lit (.int 2)) (.call 14 (.cons (.var 2) (.cons (.lit (.int 8)) .nil)))) (.cons (.bin .add (.lit (.int 30)) (.call 14 (.cons (.var 2) (.cons (.lit (.int 60)) .nil)))) .nil)))
  (.cons (.ifs (.not (.call 21 (.cons (.call 29 (.cons (.lit (.str "text")) (.cons (.call 7 (.cons (.var 11) (.cons (.var 12) .nil))) (.cons (.var 7) .nil)))) (.cons (.lst false (.cons (.lit (.str "told")) (.cons (.call 25 (.cons (.call 33 (.cons (.var 11) (.cons (.var 12) .nil))) .nil)) .nil))) .nil)))) (.cons (.ret (.lit (.bl false)))
  .nil) .nil)
  (.cons (.ifs (.not (.call 21 (.cons (.call 29 (.cons (.lit (.str "text")) (.cons (.call 7 (.cons (.bin .sub (.lit (.int 0)) (.var 11)) (.cons (.bin .sub (.lit (.int 0)) (.var 12)) .nil))) (.cons (.var 7) .nil)))) (.cons (.lst false (.cons (.lit (.str "told")) (.cons (.call 26 (.cons (.call 16 (.cons (.lit (.int 1)) (.cons (.call 33 (.cons (.bin .sub (.lit (.int 0)) (.var 11)) (.cons (.var 12) .nil))) .nil))) .nil)) .nil))) .nil)))) (.cons (.ret (.lit (.bl false)))
  .nil) .nil)
  (.cons (.loop (.nm 5) (.rng (.cons (.lit (.int 8)) .nil)) (.cons (.ifs (.not (.call 30 (.cons (.call 32 (.cons (.var 2) .nil)) (.cons (.var 7) .nil)))) (.cons (.ret (.lit (.bl false)))
  .nil) .nil)
  (.cons (.asg (.nm 7) (.not (.var 7)))
  .nil)))
  (.cons (.loop (.nm 6) (.val (.lst false (.cons (.lit .non) (.cons (.lit (.int 5)) (.cons (.lit (.bl true)) (.cons (.lst false (.cons (.lit (.str "1")) .nil)) (.cons (.tup (.cons (.lit (.str "1")) .nil)) (.cons (.dsp false [] .nil) (.cons (.mk 0 (.cons (.lit (.int 1)) (.cons (.lit (.int 2)) .nil))) (.cons (.dsp false [.one (.inr "1")] (.cons (.lit (.int 1)) .nil)) (.cons (.lit (.int 0)) (.cons (.tup .nil) .nil)))))))))))) (.cons (.ifs (.not (.call 30 (.cons (.var 6) (.cons (.var 7) .nil)))) (.cons (.ret (.lit (.bl false)))
  .nil) .nil)
  .nil))
  (.cons (.loop (.nm 6) (.val (.lst false (.cons (.lit .non) (.cons (.lit (.bl true)) (.cons (.lit (.bl false)) (.cons (.lit (.str "1")) (.cons (.lit (.str "1/2")) (.cons (.lst false (.cons (.lit (.int 1)) .nil)) (.cons (.tup (.cons (.lit (.int 1)) (.cons (.lit (.int 2)) .nil))) (.cons (.dsp false [] .nil) .nil)))))))))) (.cons (.asg (.nm 13) (.call 23 (.cons (.var 6) .nil)))
  (.cons (.asg (.nm 10) (.call 29 (.cons (.lit (.str "text")) (.cons (.var 13) (.cons (.var 7) .nil)))))
  (.cons (.ifs (.or (.cmp .ne (.idx (.var 10) (.lit (.int 0))) (.lit (.str "number"))) (.or (.cmp .isnot (.idx (.var 10) (.lit (.int 2))) (.lit (.bl true))) (.not (.call 22 (.cons (.idx (.var 10) (.lit (.int 1))) (.cons (.var 13) .nil)))))) (.cons (.ret (.lit (.bl false)))
  .nil) .nil)
  (.cons (.asg (.nm 7) (.not (.var 7)))
  .nil)))))
  .nil)))))))))))
  (.cons (.ret (.lit (.bl true)))
  .nil))
def f34 : Fn := ⟨1, 14, false, b34⟩
def d34 : DefE := ⟨⟨("law", none), "law", "law", defArgs (top 48), defBody (top 48), defScope (top 48), [], []⟩, ["script", "k", "box", "pairs", "pair", "turn", "value", "named", "great", "text", "told", "base", "count", "given"], f34⟩
/-- Ratio.__init__ -/
def b35 : Ss := (.cons (.ifs (.not (.call 0 (.cons (.var 1) .nil))) (.cons (.raise 4 (.cons (.var 1) .nil))
  .nil) .nil)
  (.cons (.ifs (.not (.call 0 (.cons (.var 2) .nil))) (.cons (.raise 4 (.cons (.var 2) .nil))
  .nil) .nil)
  (.cons (.ifs (.cmp .eq (.var 2) (.lit (.int 0))) (.cons (.raise 2 .nil)
  .nil) .nil)
  (.cons (.asg (.nm 3) (.ife (.cmp .gt (.var 2) (.lit (.int 0))) (.bi false .gcd (.cons (.var 1) (.cons (.var 2) .nil))) (.neg (.bi false .gcd (.cons (.var 1) (.cons (.var 2) .nil))))))
  (.cons (.setF 0 1 (.bin .fdv (.var 1) (.var 3)))
  (.cons (.setF 0 2 (.bin .fdv (.var 2) (.var 3)))
  .nil))))))
def f35 : Fn := ⟨3, 4, false, b35⟩
def d35 : DefE := ⟨⟨("Ratio", some "__init__"), "__init__", "Ratio.__init__", defArgs (cb 10 0), defBody (cb 10 0), defScope (cb 10 0), [], []⟩, ["self", "top", "bottom", "part"], f35⟩
def defs : List DefE := [d0, d1, d2, d3, d4, d5, d6, d7, d8, d9, d10, d11, d12, d13, d14, d15, d16, d17, d18, d19, d20, d21, d22, d23, d24, d25, d26, d27, d28, d29, d30, d31, d32, d33, d34, d35]
def dat : Dat where
  cls := [("Ratio" : Str)]
  errs := [(("FreedomError" : Str), true), (("ByZero" : Str), false), (("InvalidCount" : Str), true), (("InvalidNumber" : Str), true), (("InvalidText" : Str), true)]
  flds := [("given" : Str), ("top" : Str), ("bottom" : Str)]
  gv := 0
  fns := [("is_whole" : Str), ("is_number" : Str), ("pair_of" : Str), ("quotient" : Str), ("sign_of" : Str), ("check_number" : Str), ("power_of" : Str), ("raised" : Str), ("number_text" : Str), ("whole_in" : Str), ("number_in" : Str), ("read_number" : Str), ("_law_cell" : Str), ("_law_box" : Str), ("_law_take" : Str), ("_law_pick" : Str), ("_law_low" : Str), ("_law_number" : Str), ("_law_pass" : Str), ("_law_due" : Str), ("_law_is" : Str), ("_law_like" : Str), ("_law_keeps" : Str), ("_law_copy" : Str), ("_law_great" : Str), ("_law_digits" : Str), ("_law_text" : Str), ("_law_whole" : Str), ("_law_read" : Str), ("_law_asked" : Str), ("_law_read_right" : Str), ("_law_spoilt" : Str), ("_law_made" : Str), ("_law_power" : Str), ("law" : Str)]
  glbs := [(("MOST_RAISED" : Str), (.int 400)), (("MOST_DIGITS" : Str), (.int 20)), (("DIGITS" : Str), (.str "0123456789"))]
  kws := [(11, 0, [("text" : Str)], [0]), (8, 0, [("number" : Str)], [0])]
  init := [35]
  gcd := true
abbrev tb : Nat → Option Fn := tbOf defs
abbrev T : Tab := dat.T
section
theorem ok0 : d0.okB dat.tp dat.nC = true := by decide +kernel
theorem bn0 : d0.Bn := fun _ _ _ _ _ _ us hl => match us, hl with | [_], _ => rfl
theorem ok1 : d1.okB dat.tp dat.nC = true := by decide +kernel
theorem bn1 : d1.Bn := fun _ _ _ _ _ _ us hl => match us, hl with | [_], _ => rfl
theorem ok2 : d2.okB dat.tp dat.nC = true := by decide +kernel
theorem bn2 : d2.Bn := fun _ _ _ _ _ _ us hl => match us, hl with | [_], _ => rfl
theorem ok3 : d3.okB dat.tp dat.nC = true := by decide +kernel
theorem bn3 : d3.Bn := fun _ _ _ _ _ _ us hl => match us, hl with | [_, _], _ => rfl
theorem ok4 : d4.okB dat.tp dat.nC = true := by decide +kernel
theorem bn4 : d4.Bn := fun _ _ _ _ _ _ us hl => match us, hl with | [_], _ => rfl
theorem ok5 : d5.okB dat.tp dat.nC = true := by decide +kernel
theorem bn5 : d5.Bn := fun _ _ _ _ _ _ us hl => match us, hl with | [_], _ => rfl
theorem ok6 : d6.okB dat.tp dat.nC = true := by decide +kernel
theorem bn6 : d6.Bn := fun _ _ _ _ _ _ us hl => match us, hl with | [_, _], _ => rfl
theorem ok7 : d7.okB dat.tp dat.nC = true := by decide +kernel
theorem bn7 : d7.Bn := fun _ _ _ _ _ _ us hl => match us, hl with | [_, _], _ => rfl
theorem ok8 : d8.okB dat.tp dat.nC = true := by decide +kernel
theorem bn8 : d8.Bn := fun _ _ _ _ _ _ us hl => match us, hl with | [_], _ => rfl
theorem ok9 : d9.okB dat.tp dat.nC = true := by decide +kernel
theorem bn9 : d9.Bn := fun _ _ _ _ _ _ us hl => match us, hl with | [_], _ => rfl
theorem ok10 : d10.okB dat.tp dat.nC = true := by decide +kernel
theorem bn10 : d10.Bn := fun _ _ _ _ _ _ us hl => match us, hl with | [_], _ => rfl
theorem ok11 : d11.okB dat.tp dat.nC = true := by decide +kernel
theorem bn11 : d11.Bn := fun _ _ _ _ _ _ us hl => match us, hl with | [_], _ => rfl
theorem ok12 : d12.okB dat.tp dat.nC = true := by decide +kernel
theorem bn12 : d12.Bn := fun _ _ _ _ _ _ us hl => match us, hl with | [_, _], _ => rfl
theorem ok13 : d13.okB dat.tp dat.nC = true := by decide +kernel
theorem bn13 : d13.Bn := fun _ _ _ _ _ _ us hl => match us, hl with | [_], _ => rfl
theorem ok14 : d14.okB dat.tp dat.nC = true := by decide +kernel
theorem bn14 : d14.Bn := fun _ _ _ _ _ _ us hl => match us, hl with | [_, _], _ => rfl
theorem ok15 : d15.okB dat.tp dat.nC = true := by decide +kernel
theorem bn15 : d15.Bn := fun _ _ _ _ _ _ us hl => match us, hl with | [_, _], _ => rfl
theorem ok16 : d16.okB dat.tp dat.nC = true := by decide +kernel
theorem bn16 : d16.Bn := fun _ _ _ _ _ _ us hl => match us, hl with | [_, _], _ => rfl
theorem ok17 : d17.okB dat.tp dat.nC = true := by decide +kernel
theorem bn17 : d17.Bn := fun _ _ _ _ _ _ us hl => match us, hl with | [_], _ => rfl
theorem ok18 : d18.okB dat.tp dat.nC = true := by decide +kernel
theorem bn18 : d18.Bn := fun _ _ _ _ _ _ us hl => match us, hl with | [_, _], _ => rfl
theorem ok19 : d19.okB dat.tp dat.nC = true := by decide +kernel
theorem bn19 : d19.Bn := fun _ _ _ _ _ _ us hl => match us, hl with | [_], _ => rfl
theorem ok20 : d20.okB dat.tp dat.nC = true := by decide +kernel
theorem bn20 : d20.Bn := fun _ _ _ _ _ _ us hl => match us, hl with | [_, _], _ => rfl
theorem ok21 : d21.okB dat.tp dat.nC = true := by decide +kernel
theorem bn21 : d21.Bn := fun _ _ _ _ _ _ us hl => match us, hl with | [_, _], _ => rfl
theorem ok22 : d22.okB dat.tp dat.nC = true := by decide +kernel
theorem bn22 : d22.Bn := fun _ _ _ _ _ _ us hl => match us, hl with | [_, _], _ => rfl
theorem ok23 : d23.okB dat.tp dat.nC = true := by decide +kernel
theorem bn23 : d23.Bn := fun _ _ _ _ _ _ us hl => match us, hl with | [_], _ => rfl
theorem ok24 : d24.okB dat.tp dat.nC = true := by decide +kernel
theorem bn24 : d24.Bn := fun _ _ _ _ _ _ us hl => match us, hl with | [_], _ => rfl
theorem ok25 : d25.okB dat.tp dat.nC = true := by decide +kernel
theorem bn25 : d25.Bn := fun _ _ _ _ _ _ us hl => match us, hl with | [_], _ => rfl
theorem ok26 : d26.okB dat.tp dat.nC = true := by decide +kernel
theorem bn26 : d26.Bn := fun _ _ _ _ _ _ us hl => match us, hl with | [_], _ => rfl
theorem ok27 : d27.okB dat.tp dat.nC = true := by decide +kernel
theorem bn27 : d27.Bn := fun _ _ _ _ _ _ us hl => match us, hl with | [_, _], _ => rfl
theorem ok28 : d28.okB dat.tp dat.nC = true := by decide +kernel
theorem bn28 : d28.Bn := fun _ _ _ _ _ _ us hl => match us, hl with | [_], _ => rfl
theorem ok29 : d29.okB dat.tp dat.nC = true := by decide +kernel
theorem bn29 : d29.Bn := fun _ _ _ _ _ _ us hl => match us, hl with | [_, _, _], _ => rfl
theorem ok30 : d30.okB dat.tp dat.nC = true := by decide +kernel
theorem bn30 : d30.Bn := fun _ _ _ _ _ _ us hl => match us, hl with | [_, _], _ => rfl
theorem ok31 : d31.okB dat.tp dat.nC = true := by decide +kernel
theorem bn31 : d31.Bn := fun _ _ _ _ _ _ us hl => match us, hl with | [_, _], _ => rfl
theorem ok32 : d32.okB dat.tp dat.nC = true := by decide +kernel
theorem bn32 : d32.Bn := fun _ _ _ _ _ _ us hl => match us, hl with | [_], _ => rfl
theorem ok33 : d33.okB dat.tp dat.nC = true := by decide +kernel
theorem bn33 : d33.Bn := fun _ _ _ _ _ _ us hl => match us, hl with | [_, _], _ => rfl
theorem ok34 : d34.okB dat.tp dat.nC = true := by decide +kernel
theorem bn34 : d34.Bn := fun _ _ _ _ _ _ us hl => match us, hl with | [_], _ => rfl
theorem ok35 : d35.okB dat.tp dat.nC = true := by decide +kernel
theorem bn35 : d35.Bn := fun _ _ _ _ _ _ us hl => match us, hl with | [_, _, _], _ => rfl
theorem kw0 : d11.Kw 0 ["text"] [0] := fun _ _ _ _ _ _ us ws h1 h2 => match us, ws, h1, h2 with | [], [_], _, _ => rfl
theorem kw1 : d8.Kw 0 ["number"] [0] := fun _ _ _ _ _ _ us ws h1 h2 => match us, ws, h1, h2 with | [], [_], _, _ => rfl
end
def feV : FnZ := some ("__init__", "FreedomError.__init__", defArgs (cb 2 0), .stmts (defBody (cb 2 0)), defScope (cb 2 0), mainGlobals, ["__class__"], builtinsNs)
theorem feSh : FeSh feV := ⟨_, _, _, _, _, _, _, _, _, _, _, _, _, rfl, rfl⟩
def bz0 : He.DefD := ⟨("ByZero", some "__init__"), "__init__", "ByZero.__init__", defArgs (cb 3 0), defBody (cb 3 0), defScope (cb 3 0), [], []⟩
theorem bzSh0 : BzSh bz0 := ⟨rfl, rfl, rfl, rfl, _, _, _, _, _, rfl, rfl⟩
def fnL : List He.DefD := defs.map (·.d) ++ [bz0]
def loose : List Str := ([("__name__" : Str), ("FreedomError" : Str), ("ByZero" : Str), ("InvalidCount" : Str), ("InvalidNumber" : Str), ("InvalidText" : Str), ("MOST_RAISED" : Str), ("is_whole" : Str), ("Ratio" : Str), ("is_number" : Str), ("pair_of" : Str), ("quotient" : Str), ("sign_of" : Str), ("check_number" : Str), ("power_of" : Str), ("raised" : Str), ("MOST_DIGITS" : Str), ("DIGITS" : Str), ("number_text" : Str), ("whole_in" : Str), ("number_in" : Str), ("read_number" : Str), ("_law_cell" : Str), ("_law_box" : Str), ("_law_take" : Str), ("_law_pick" : Str), ("_law_low" : Str), ("_law_number" : Str), ("_law_pass" : Str), ("_law_due" : Str)] : List Str) ++ ([("_law_is" : Str), ("_law_like" : Str), ("_law_keeps" : Str), ("_law_copy" : Str), ("_law_great" : Str), ("_law_digits" : Str), ("_law_text" : Str), ("_law_whole" : Str), ("_law_read" : Str), ("_law_asked" : Str), ("_law_read_right" : Str), ("_law_spoilt" : Str), ("_law_made" : Str), ("_law_power" : Str)] : List Str)
abbrev Rl : PySem.W.OpenLaw := PySem.Challenge.rw_everyfreedom_k02_texts_of_numbers
abbrev R : PySem.W.OpenRow := PySem.W.OpenLaw.row Rl
def bx (K : PySem.W.Frag) : Bool := dat.bxB Rl.prog.main.file K
def fz : List (Str × Option Str) := [dat.base]
def vz : List FnZ := [feV]
abbrev hk : PySem.W.Hook := hookF 5 bx fnL fz vz
def ob (s : PySem.W.SharedT) : AlF := obsFG 5 bx fnL fz (HandSHeadRun.getT s)
theorem ob_eq (s : PySem.W.SharedT) : ob s = hk.obs s.abs := obsFG_eq (HandSHeadRun.getT_eq s)
abbrev view : Program := PySem.W.view R.prog [0, 48]
end K02

set_option maxHeartbeats 0
/-! the head of law_k02; printed by gen.py -/
namespace K02
open PySem PySem.Spec PyProof.Rows L2 EF
theorem run (w : World) : HandSHeadRun.RunEqI R view hk ob 100000 loose w := by
  unfold HandSHeadRun.RunEqI
  kernel_rfl
end K02

/-! the end of law_k02; printed by gen.py -/
namespace K02
open PySem PySem.Spec PyProof.Rows L2 EF
theorem ezD : ∀ e ∈ defs, e.d.dfl = [] ∧ e.d.kwd = [] ∧ e.okB dat.tp dat.nC = true ∧ e.Bn := by
  intro e he
  simp only [defs, List.mem_cons, List.not_mem_nil, or_false] at he
  rcases he with rfl | rfl | rfl | rfl | rfl | rfl | rfl | rfl | rfl | rfl | rfl | rfl | rfl | rfl | rfl | rfl | rfl | rfl | rfl | rfl | rfl | rfl | rfl | rfl | rfl | rfl | rfl | rfl | rfl | rfl | rfl | rfl | rfl | rfl | rfl | rfl
  · exact ⟨rfl, rfl, ok0, bn0⟩
  · exact ⟨rfl, rfl, ok1, bn1⟩
  · exact ⟨rfl, rfl, ok2, bn2⟩
  · exact ⟨rfl, rfl, ok3, bn3⟩
  · exact ⟨rfl, rfl, ok4, bn4⟩
  · exact ⟨rfl, rfl, ok5, bn5⟩
  · exact ⟨rfl, rfl, ok6, bn6⟩
  · exact ⟨rfl, rfl, ok7, bn7⟩
  · exact ⟨rfl, rfl, ok8, bn8⟩
  · exact ⟨rfl, rfl, ok9, bn9⟩
  · exact ⟨rfl, rfl, ok10, bn10⟩
  · exact ⟨rfl, rfl, ok11, bn11⟩
  · exact ⟨rfl, rfl, ok12, bn12⟩
  · exact ⟨rfl, rfl, ok13, bn13⟩
  · exact ⟨rfl, rfl, ok14, bn14⟩
  · exact ⟨rfl, rfl, ok15, bn15⟩
  · exact ⟨rfl, rfl, ok16, bn16⟩
  · exact ⟨rfl, rfl, ok17, bn17⟩
  · exact ⟨rfl, rfl, ok18, bn18⟩
  · exact ⟨rfl, rfl, ok19, bn19⟩
  · exact ⟨rfl, rfl, ok20, bn20⟩
  · exact ⟨rfl, rfl, ok21, bn21⟩
  · exact ⟨rfl, rfl, ok22, bn22⟩
  · exact ⟨rfl, rfl, ok23, bn23⟩
  · exact ⟨rfl, rfl, ok24, bn24⟩
  · exact ⟨rfl, rfl, ok25, bn25⟩
  · exact ⟨rfl, rfl, ok26, bn26⟩
  · exact ⟨rfl, rfl, ok27, bn27⟩
  · exact ⟨rfl, rfl, ok28, bn28⟩
  · exact ⟨rfl, rfl, ok29, bn29⟩
  · exact ⟨rfl, rfl, ok30, bn30⟩
  · exact ⟨rfl, rfl, ok31, bn31⟩
  · exact ⟨rfl, rfl, ok32, bn32⟩
  · exact ⟨rfl, rfl, ok33, bn33⟩
  · exact ⟨rfl, rfl, ok34, bn34⟩
  · exact ⟨rfl, rfl, ok35, bn35⟩
theorem ezK : ∀ q ∈ dat.kws, ∃ e, defs[q.1]? = some e ∧ e.Kw q.2.1 q.2.2.1 q.2.2.2 := by
  intro q hq
  simp only [dat, List.mem_cons, List.not_mem_nil, or_false] at hq
  rcases hq with rfl | rfl
  · exact ⟨d11, rfl, kw0⟩
  · exact ⟨d8, rfl, kw1⟩
theorem fdOf {K : PySem.W.Frag} (c : SaysF bx fnL fz vz K) : ∀ e ∈ defs, ∃ fd, e.FD K fd := fun e he => by
  obtain ⟨h1, h2, _, _⟩ := ezD e he
  obtain ⟨fd, F⟩ := c.def_ (d := e.d) (List.mem_append_left _ (List.mem_map_of_mem he))
  refine ⟨fd, ?_⟩
  unfold He.DefD.dvs He.DefD.kws at F
  rw [h1, h2] at F
  exact F
theorem lwOf {w : World} {K : PySem.W.Frag} {mg : Str → Option Value} {base : Heap} (M : Mod K mg base) (c : SaysF bx fnL fz vz K) : Lw Rl.prog w K mg base (dat.G K) dat.T dat.tp defs := by
  have fd := fdOf c
  refine Dat.lw M c.bx (by decide +kernel) ?_ (fun i hi => ?_) (by decide +kernel) (by decide +kernel) ezK fun e he => ⟨fd e he, (ezD e he).2.2.1, (ezD e he).2.2.2⟩
  · have z := c.z
    have e1 : fnZ K dat.base = feV := by
      have z : [fnZ K dat.base] = [feV] := z
      exact (List.cons.inj z).1
    rw [e1]
    exact feSh
  · match i, hi with
    | 1, _ => exact ⟨bz0, rfl, bzSh0, c.def_ (by simp [fnL])⟩
    | 0, hi => exact absurd hi (by decide)
    | 2, hi => exact absurd hi (by decide)
    | 3, hi => exact absurd hi (by decide)
    | 4, hi => exact absurd hi (by decide)
    | i + 5, hi => exact absurd hi (by simp [dat])
/-- the law holds if the evaluator gives True -/
theorem holds_of (k Wn : Nat) (hk : k ≤ 200) (hev : ∀ ns : List Int, ns.length ≤ 63 → ∃ ν', (callP dat.T (tbOf defs) Wn k).1 34 [.frz (ns.map .int)] [] = some (.ok (.bl true), ν')) : PySem.Challenge.rw_everyfreedom_k02_texts_of_numbers.Holds := by
  open PySem.W in
  w_on; o_law
  refine HandSHeadRun.head_imp (r := R) (q := view) (H := K02.hk) (ob := ob) (M := 100000) (loose := loose) (d := HandSHeadRun.topDef R.prog 48) (kwd := []) ob_eq run (by kernel_rfl) (by kernel_rfl) (by kernel_rfl) (by rfl) (by first | assumption | decide +kernel) (by decide +kernel) ⟨rfl, rfl, rfl, rfl, rfl, by decide +kernel⟩ ?hw ?hc
  case hw => w_witness2
  case hc =>
    refine EF.walk_ofF (l := Rl) (n := 63) (k := k) (x := "script") rfl (by decide) (by kernel_rfl) ⟨rfl, Nat.lt_of_le_of_lt (by omega) (show callerA.depth + 605 < recursionLimit by decide), Nat.lt_of_le_of_lt (by omega) (show callerA.units + 3400 < cLine by decide)⟩ ?F
    case F =>
      intro w mg fa h Y G hmg0
      obtain ⟨K, KX, c⟩ := Y
      have hmg : mg ("law" : PySem.Str) = some (.ref fa) := by
        have e : (HandSHeadRun.topDef R.prog 48).name = ("law" : PySem.Str) := by kernel_rfl
        rw [← e]
        exact hmg0
      have hb : dat.bxB Rl.prog.main.file K = true := c.bx
      have hg : Dat.gloB K "law" = true := by
        unfold Dat.bxB at hb
        obtain ⟨hb, _⟩ := and2 hb
        obtain ⟨hb, _⟩ := and2 hb
        obtain ⟨hb, _⟩ := and2 hb
        exact List.all_eq_true.mp (and2 hb).2 _ (by decide +kernel)
      have e := hmg.symm.trans (PySem.W.mg_of KX G (He.eqO_ok hg))
      cases e
      have hm : d34 ∈ defs := by simp [defs]
      obtain ⟨fd, F⟩ := fdOf c d34 hm
      refine ⟨K, fd, spF (dat.G K) ((callP dat.T (tbOf defs) Wn k).1 34) 1, KX, fun s u => BindsTo.of_eq (F.pos bn34 [u] rfl), fun H a ns hl _ hS => law_sp rfl hev H a ns hl hS, fun vs H Q E z => spF_len z, fun base M => ?_⟩
      exact ((lwOf M c).all k 34 d34 fd rfl F).ok
end K02

/-! numbers: what the program's own functions give. -/
namespace K02
open PySem EF
section
variable {W k : Nat} {ν : Sto}
/-- what isinstance knows -/
def kn : D → Bool
  | .tok _ => false
  | .wlk _ _ => false
  | _ => true
def isWh : D → Bool
  | .int _ => true
  | _ => false
theorem c_is_whole {v : D} (h : kn (un ν v) = true) : (callP T tb W (k + 1)).1 0 [v] ν = some (.ok (.bl (isWh (un ν v))), ν) := by
  rw [run_call (fn := f0) rfl rfl]
  generalize hd : un ν v = d at h
  simp [f0, b0, startE, hd]
  cases d <;> first | (simp [kn] at h; done) | (simp [isiD, isi1, tyOf, isWh, hd])
@[simp] theorem c_is_wholeI {i : Int} : (callP T tb W (k + 1)).1 0 [.int i] ν = some (.ok (.bl true), ν) := c_is_whole rfl
def isRt : D → Bool
  | .obj c _ _ => c == 0
  | _ => false
theorem c_is_number {v : D} (h : kn (un ν v) = true) : (callP T tb W (k + 2)).1 1 [v] ν = some (.ok (.bl (isWh (un ν v) || isRt (un ν v))), ν) := by
  rw [run_call (fn := f1) rfl rfl]
  have h0 := c_is_whole (W := W) (k := k) h
  cases hd : un ν v <;> rw [hd] at h h0 <;> first | (simp [kn] at h; done) | (simp [isWh] at h0; simp [f1, b1, startE, h0, hd, isiD, isi1, tyOf, isWh, isRt])
abbrev ratD (t b : Int) : D := .obj 0 [1, 2] [.int t, .int b]
/-- a number as it is passed -/
inductive Num : D → Int → Int → Prop where
  | int (t : Int) : Num (.int t) t 1
  | rat (t b : Int) : Num (ratD t b) t b
theorem c_pair_of {v : D} {t b : Int} (h : Num v t b) : (callP T tb W (k + 1)).1 2 [v] ν = some (.ok (.tup [.int t, .int b]), ν) := by
  rw [run_call (fn := f2) rfl rfl]
  cases h with
  | int t => simp [f2, b2, startE, isiD, isi1, tyOf, sizeLine_eq]
  | rat t b => simp [f2, b2, startE, isiD, isi1, tyOf, sizeLine_eq, fldAt]
/-! ### lowest terms -/
def gc (t b : Int) : Int := (Nat.gcd t.natAbs b.natAbs : Nat)
def part (t b : Int) : Int := if 0 < b then gc t b else -gc t b
theorem gc_pos {t b : Int} (h : b ≠ 0) : 0 < gc t b := by
  unfold gc
  have := Nat.gcd_pos_of_pos_right t.natAbs (show 0 < b.natAbs by omega)
  omega
theorem part_ne {t b : Int} (h : b ≠ 0) : part t b ≠ 0 := by
  have := gc_pos (t := t) h
  unfold part
  split <;> omega
theorem part_abs {t b : Int} (h : b ≠ 0) : (part t b).natAbs ≤ b.natAbs := by
  have h1 : (gc t b).natAbs ≤ b.natAbs := Nat.le_of_dvd (by omega) (Nat.gcd_dvd_right _ _)
  unfold part
  split
  · exact h1
  · rw [Int.natAbs_neg]; exact h1
theorem part_small {t b : Int} (h : b ≠ 0) (hb : b.natAbs < 2 ^ 8000) : part t b ≠ 0 ∧ (part t b).natAbs.log2 < 9000 := by
  refine ⟨part_ne h, ?_⟩
  have := part_abs (t := t) h
  have : (part t b).natAbs.log2 < 8000 := log2_of (by omega) (by decide)
  omega
def lt (t b : Int) : Int := t.fdiv (part t b)
def lb (t b : Int) : Int := b.fdiv (part t b)
def numD (t b : Int) : D := if b = 1 then .int t else ratD t b
theorem num_numD (t b : Int) : Num (numD t b) t b := by
  unfold numD
  split
  · next h => subst h; exact .int t
  · exact .rat t b
theorem gc_dl (t b : Int) : gc t b ∣ t := by
  have := Nat.gcd_dvd_left t.natAbs b.natAbs
  exact Int.ofNat_dvd_left.mpr this
theorem gc_dr (t b : Int) : gc t b ∣ b := by
  have := Nat.gcd_dvd_right t.natAbs b.natAbs
  exact Int.ofNat_dvd_left.mpr this
theorem part_dl (t b : Int) : part t b ∣ t := by
  unfold part
  split
  · exact gc_dl t b
  · exact (Int.neg_dvd).mpr (gc_dl t b)
theorem part_dr (t b : Int) : part t b ∣ b := by
  unfold part
  split
  · exact gc_dr t b
  · exact (Int.neg_dvd).mpr (gc_dr t b)
theorem fdiv_mul {a c : Int} (h : c ∣ a) (hc : c ≠ 0) : a.fdiv c * c = a := by
  obtain ⟨q, rfl⟩ := h
  rw [Int.mul_comm c q, Int.mul_fdiv_cancel _ hc]
theorem lt_mul {t b : Int} (h : b ≠ 0) : lt t b * part t b = t := fdiv_mul (part_dl t b) (part_ne h)
theorem lb_mul {t b : Int} (h : b ≠ 0) : lb t b * part t b = b := fdiv_mul (part_dr t b) (part_ne h)
theorem lb_pos {t b : Int} (h : b ≠ 0) : 0 < lb t b := by
  have h1 := lb_mul (t := t) h
  have hg := gc_pos (t := t) h
  rcases Int.lt_trichotomy (lb t b) 0 with z | z | z
  · exfalso
    unfold part at h1
    split at h1
    · next hb =>
      have := Int.mul_neg_of_neg_of_pos z hg
      omega
    · next hb =>
      rw [Int.mul_neg] at h1
      have := Int.mul_neg_of_neg_of_pos z hg
      omega
  · rw [z] at h1; omega
  · exact z
theorem lb_one {t b : Int} (h : b ≠ 0) : lb t b = 1 ↔ b = part t b := by
  have h1 := lb_mul (t := t) h
  constructor
  · intro z; rw [z] at h1; omega
  · intro z
    have hp := part_ne (t := t) h
    have : lb t b * part t b = 1 * part t b := by omega
    exact Int.eq_of_mul_eq_mul_right hp this
theorem init_T : T.init 0 = some 35 := rfl
theorem r_init {t b : Int} (h : b ≠ 0) (hb : b.natAbs < 2 ^ 8000) : (callP T tb W (k + 2)).1 35 [.tok ν.length, .int t, .int b] (ν ++ [EF.newObj 0]) = some (.ok .non, ν ++ [ratD (lt t b) (lb t b)]) := by
  have hp := part_small (t := t) h hb
  have h' : (b == 0) = false := by simpa using h
  rw [run_call (fn := f35) rfl rfl]
  by_cases c : 0 < b
  · have e : part t b = gc t b := if_pos c
    rw [e] at hp
    have f1 := binD_fdv (i := t) hp
    have f2 := binD_fdv (i := b) hp
    unfold gc at f1 f2
    simp [f35, b35, startE, h', c, f1, f2, setY, setF, EF.newObj, D.low]
    simp [lt, lb, e, gc]
  · have e : part t b = -gc t b := if_neg c
    rw [e] at hp
    have f1 := binD_fdv (i := t) hp
    have f2 := binD_fdv (i := b) hp
    unfold gc at f1 f2
    simp [f35, b35, startE, h', c, f1, f2, setY, setF, EF.newObj, D.low]
    simp [lt, lb, e, gc]
theorem mk_ratio {t b : Int} (h : b ≠ 0) (hb : b.natAbs < 2 ^ 8000) : makeD T (callP T tb W (k + 2)).1 0 [.int t, .int b] ν = some (.ok (ratD (lt t b) (lb t b)), ν) := by
  unfold makeD
  rw [init_T]
  show mkK ν.length ((callP T tb W (k + 2)).1 35 [.tok ν.length, .int t, .int b] (ν ++ [EF.newObj 0])) = _
  rw [r_init h hb]
  simp [mkK, D.lows, D.low]
theorem c_quotient {t b : Int} (h : b ≠ 0) (hb : b.natAbs < 2 ^ 8000) : (callP T tb W (k + 4)).1 3 [.int t, .int b] ν = some (.ok (numD (lt t b) (lb t b)), ν) := by
  have hp := part_small (t := t) h hb
  have hm := mk_ratio (W := W) (k := k) (ν := ν) (t := t) h hb
  have h1 := lb_one (t := t) h
  rw [run_call (fn := f3) rfl rfl]
  have eg : part t b = if 0 < b then gc t b else -gc t b := rfl
  unfold gc at eg
  by_cases c : 0 < b
  · rw [if_pos c] at eg
    by_cases e : b = part t b
    · have f1 := binD_fdv (i := t) hp
      rw [eg] at f1 e
      simp [f3, b3, startE, c, ← e] at f1 ⊢
      rw [← e] at eg
      simp [f1, numD, h1.mpr eg.symm, lt, eg]
    · have e' := e
      rw [eg] at e
      have e2 : (b == ((Nat.gcd t.natAbs b.natAbs : Nat) : Int)) = false := by simpa using e
      simp [f3, b3, startE, c, e2, hm]
      have : ¬ lb t b = 1 := fun z => e' (h1.mp z)
      simp [numD, this]
  · rw [if_neg c] at eg
    by_cases e : b = part t b
    · have f1 := binD_fdv (i := t) hp
      rw [eg] at f1 e
      simp [f3, b3, startE, c, ← e] at f1 ⊢
      rw [← e] at eg
      simp [f1, numD, h1.mpr eg.symm, lt, eg]
    · have e' := e
      rw [eg] at e
      have e2 : (b == -((Nat.gcd t.natAbs b.natAbs : Nat) : Int)) = false := by simpa using e
      simp [f3, b3, startE, c, e2, hm]
      have : ¬ lb t b = 1 := fun z => e' (h1.mp z)
      simp [numD, this]
theorem c_checkI {i : Int} : (callP T tb W (k + 3)).1 5 [.int i] ν = some (.ok .non, ν) := by
  rw [run_call (fn := f5) rfl rfl]
  have h := c_is_number (W := W) (k := k) (ν := ν) (v := .int i) rfl
  simp [f5, b5, startE, h, isWh, isRt]
theorem c_check {v : D} {t b : Int} (h : Num v t b) : (callP T tb W (k + 3)).1 5 [v] ν = some (.ok .non, ν) := by
  rw [run_call (fn := f5) rfl rfl]
  cases h with
  | int =>
    have h := c_is_number (W := W) (k := k) (ν := ν) (v := .int t) rfl
    simp [f5, b5, startE, h, isWh, isRt]
  | rat =>
    have h := c_is_number (W := W) (k := k) (ν := ν) (v := ratD t b) rfl
    simp [f5, b5, startE, h, isWh, isRt]
/-- what is no number is refused -/
theorem c_check_bad {v : D} (h : kn (un ν v) = true) (h1 : isWh (un ν v) = false) (h2 : isRt (un ν v) = false) : (callP T tb W (k + 3)).1 5 [v] ν = some (.ex ⟨4, [0], [v]⟩, ν) := by
  rw [run_call (fn := f5) rfl rfl]
  have h := c_is_number (W := W) (k := k) (ν := ν) (v := v) h
  have e : T.err 4 [v] = some ⟨4, [0], [v]⟩ := rfl
  simp [f5, b5, startE, h, h1, h2, e]
theorem c_sign {v : D} {t b : Int} (h : Num v t b) : (callP T tb W (k + 2)).1 4 [v] ν = some (.ok (.int ((if 0 < t then 1 else 0) - (if t < 0 then 1 else 0))), ν) := by
  rw [run_call (fn := f4) rfl rfl]
  have h1 := c_pair_of (W := W) (k := k) (ν := ν) h
  simp [f4, b4, startE, h1, setAll]
end
end K02

/-! texts of numbers: what the program's own functions give. -/
namespace K02
open PySem EF
abbrev tl (x : Str) : List Nat := x.cps.toList
def mkS (l : List Nat) : Str := ⟨l.toArray⟩
@[simp] theorem tl_mkS (l : List Nat) : tl (mkS l) = l := by simp [mkS]
theorem mkS_tl (x : Str) : mkS (tl x) = x := by
  cases x
  simp [mkS]
theorem str_eq {x y : Str} : x = y ↔ tl x = tl y := by
  constructor
  · intro h; rw [h]
  · intro h; rw [← mkS_tl x, ← mkS_tl y, h]
theorem len_tl (x : Str) : x.length = (tl x).length := (Array.length_toList).symm
theorem tl_app (x y : Str) : tl (x ++ y) = tl x ++ tl y := by
  show (x.cps ++ y.cps).toList = _
  simp
theorem beq_str (x y : Str) : (x == y) = decide (tl x = tl y) := by
  by_cases h : x = y
  · subst h; simp
  · have h2 : ¬ tl x = tl y := fun z => h (str_eq.mpr z)
    simp [h, h2]
section
variable {W k : Nat} {ν : Sto}
theorem cut_to {α : Type} (l : List α) (n : Nat) : cutL l none (some (n : Int)) = l.take n := by
  unfold cutL
  rw [HT.sIx_nat, HT.sIx_none, List.drop_zero, Nat.sub_zero, ← List.take_take]
  simp
theorem cut_from {α : Type} (l : List α) (n : Nat) : cutL l (some (n : Int)) none = l.drop n := by
  unfold cutL
  rw [HT.sIx_nat, HT.sIx_none]
  by_cases h : n ≤ l.length
  · rw [Nat.min_eq_left h, List.take_of_length_le (by simp)]
  · rw [Nat.min_eq_right (by omega), List.drop_length, List.drop_eq_nil_of_le (by omega)]
    simp
theorem sli_to {x : Str} (h : x.length ≤ 16777216) (n : Nat) : sliD false ν (.str x) none (some (n : Int)) = some (.str (mkS ((tl x).take n))) := by
  unfold sliD
  simp only [un_str']
  rw [if_pos ⟨trivial, line_le h⟩, cut_to]
  rfl
theorem sli_from {x : Str} (h : x.length ≤ 16777216) (n : Nat) : sliD false ν (.str x) (some (n : Int)) none = some (.str (mkS ((tl x).drop n))) := by
  unfold sliD
  simp only [un_str']
  rw [if_pos ⟨trivial, line_le h⟩, cut_from]
  rfl
def strI (i : Int) : Str := Str.ofString (toString i)
theorem bi_str {i : Int} (h : i.natAbs.log2 < 1920) : biD ν .str [.int i] = some (.str (strI i)) := if_pos h
/-- the text of a number -/
def numT (t b : Int) : Str := if b = 1 then strI t else ((Str.empty ++ strI t) ++ "/") ++ strI b
theorem txt_int {acc : Str} {i : Int} (h : i.natAbs.log2 < 1920) (hl : (acc ++ strI i).length ≤ 16777216) : txtD acc (.int i) = some (acc ++ strI i) := if_pos ⟨h, line_le hl⟩
theorem txt_str {acc y : Str} (h : y.length ≤ 16777216) (hl : (acc ++ y).length ≤ 16777216) : txtD acc (.str y) = some (acc ++ y) := if_pos ⟨line_le h, line_le hl⟩
theorem len_app (x y : Str) : (x ++ y).length = x.length + y.length := by
  rw [len_tl, tl_app, List.length_append, ← len_tl, ← len_tl]
theorem c_number_text {v : D} {t b : Int} (h : Num v t b) (ht : t.natAbs.log2 < 1920) (hb : b.natAbs.log2 < 1920) (l1 : (strI t).length ≤ 1000) (l2 : (strI b).length ≤ 1000) : (callP T tb W (k + 4)).1 8 [v] ν = some (.ok (.str (numT t b)), ν) := by
  rw [run_call (fn := f8) rfl rfl]
  have h1 := c_check (W := W) (k := k) (ν := ν) h
  have h2 := c_pair_of (W := W) (k := k + 2) (ν := ν) h
  have s1 := bi_str (ν := ν) ht
  have e0 : Str.empty.length = 0 := rfl
  have e1 : ("/" : Str).length = 1 := rfl
  by_cases c : b = 1
  · subst c
    simp [f8, b8, startE, h1, h2, setAll, s1, numT]
  · have c' : (b == 1) = false := by simpa using c
    have t1 := txt_int (acc := Str.empty) ht (by rw [len_app, e0]; omega)
    have t2 := txt_str (acc := Str.empty ++ strI t) (y := "/") (by rw [e1]; omega) (by rw [len_app, len_app, e0, e1]; omega)
    have t3 := txt_int (acc := Str.empty ++ strI t ++ "/") hb (by rw [len_app, len_app, len_app, e0, e1]; omega)
    simp [f8, b8, startE, h1, h2, setAll, c', t1, t2, t3, numT, c]
/-! ### whole_in -/
def isDig (c : Nat) : Bool := decide (48 ≤ c) && decide (c ≤ 57)
theorem dig_in (c : Nat) : decide (c ∈ tl "0123456789") = isDig c := by
  have e : tl "0123456789" = [48, 49, 50, 51, 52, 53, 54, 55, 56, 57] := by decide +kernel
  rw [e]
  unfold isDig
  by_cases h : 48 ≤ c ∧ c ≤ 57
  · obtain ⟨h1, h2⟩ := h
    simp [h1, h2]
    omega
  · have : ¬ (c = 48 ∨ c = 49 ∨ c = 50 ∨ c = 51 ∨ c = 52 ∨ c = 53 ∨ c = 54 ∨ c = 55 ∨ c = 56 ∨ c = 57) := by omega
    simp only [List.mem_cons, List.not_mem_nil, or_false]
    rw [decide_eq_false this]
    symm
    simpa using h
theorem bools_map {α : Type} (f : α → Bool) : ∀ l : List α, bools (l.map fun a => D.bl (f a)) = some (l.map f)
  | [] => rfl
  | a :: l => by
    show (bools (l.map fun a => D.bl (f a))).map (f a :: ·) = _
    rw [bools_map f l]
    rfl
theorem glb2 : T.glb 2 = some (.str "0123456789") := rfl
theorem glb1 : T.glb 1 = some (.int 20) := rfl
theorem glb0 : T.glb 0 = some (.int 400) := rfl
theorem in_chr (c : Nat) (z : Str) : cmpD ν .inn (.str ⟨#[c]⟩) (.str z) = some (decide (c ∈ tl z)) := rfl
def optI : Option Int → D
  | some i => .int i
  | none => .non
/-- the digits of a word -/
def digs (w : List Nat) : List Nat := if w.take 1 = [45] then w.drop 1 else w
def wIn (w : List Nat) : Option Int := if (1 ≤ (digs w).length ∧ (digs w).length ≤ 20) ∧ (digs w).all isDig = true then some (if w.take 1 = [45] then -((NumText.digitsVal (digs w) : Nat) : Int) else ((NumText.digitsVal (digs w) : Nat) : Int)) else none
theorem allDig {l : List Nat} (h : l.all isDig = true) : NumText.AllDigits l := fun c hc => by
  have := List.all_eq_true.mp h c hc
  unfold isDig at this
  simpa using this
theorem int_word {x : Str} {i : Int} (h : wIn (tl x) = some i) : biD ν .int [.str x] = some (.int i) := by
  unfold wIn at h
  split at h
  · next hc =>
    cases h
    obtain ⟨⟨h1, h2⟩, h3⟩ := hc
    have hl : x.length ≤ 640 := by
      rw [len_tl]
      unfold digs at h2
      split at h2
      · rw [List.length_drop] at h2; omega
      · omega
    have e : biD ν .int [.str x] = (PySem.intText? x).map .int := if_pos hl
    rw [e]
    by_cases c : (tl x).take 1 = [45]
    · rw [if_pos c]
      have ed : digs (tl x) = (tl x).drop 1 := if_pos c
      have ex : x.cps.toList = 45 :: (tl x).drop 1 := by
        have := List.take_append_drop 1 (tl x)
        rw [c] at this
        exact this.symm
      rw [ed] at h1 h3 ⊢
      rw [intText_neg ex (allDig h3) (by intro z; rw [z] at h1; simp at h1) (by omega)]
      rfl
    · rw [if_neg c]
      have ed : digs (tl x) = tl x := if_neg c
      rw [ed] at h1 h3 ⊢
      rw [intText_digits (x := x) (allDig h3) (by intro z; rw [show tl x = x.cps.toList from rfl, z] at h1; simp at h1) (by omega)]
      rfl
  · cases h
theorem chrs_at {y : Str} (i : Nat) : srcN ν (.val (.str y)) i = some (chrs y)[i]? := rfl
theorem len_chrs (y : Str) : (chrs y).length = y.length := by
  unfold chrs
  rw [List.length_map, ← len_tl]
theorem c_whole_in {x : Str} (hl : x.length ≤ 1000) (hW : 2000 < W) : (callP T tb W (k + 1)).1 9 [.str x] ν = some (.ok (optI (wIn (tl x))), ν) := by
  rw [run_call (fn := f9) rfl rfl]
  have s1 : sliD false ν (.str x) none (some 1) = _ := sli_to (ν := ν) (x := x) (by omega) 1
  have s2 : sliD false ν (.str x) (some 1) none = _ := sli_from (ν := ν) (x := x) (by omega) 1
  have hminus : (mkS ((tl x).take 1) == ("-" : Str)) = decide ((tl x).take 1 = [45]) := by
    rw [beq_str, tl_mkS]
    rfl
  -- the digits
  have dg : ∀ y : Str, tl y = digs (tl x) → y.length ≤ 1000 → fin ν.length f9.kp (evSs T (callP T tb W k).1 (callP T tb W k).2 ν.length W [some (.str x), some (.str y), none] (match b9 with | .cons _ r => r | .nil => .nil) ν) = some (.ok (optI (wIn (tl x))), ν) := fun y hy hyl => by
    have ly := len_str (x := y) (by omega)
    have hb : loopC (.val (.str y)) (turnE T (callP T tb W k).1 (callP T tb W k).2 ν.length W [some (.str x), some (.str y), none] (.cmp .inn (.var 2) (.glb 2)) (.nm 2) .none [2]) W 0 [] ν = some (.ok ((tl y).map fun c => .bl (isDig c)), ν) := by
      rw [loopC_list (g := fun d => match d with | .str s => some (.bl (decide ((tl s).all fun c => isDig c = true))) | _ => none) chrs_at (fun d hd => ?_) (by rw [len_chrs]; omega) (line_le (by rw [len_chrs]; omega))]
      · congr 3
        unfold chrs
        rw [List.filterMap_map]
        show List.filterMap _ (tl y) = _
        rw [← List.filterMap_eq_map]
        congr 1
        funext c
        simp
      · unfold chrs at hd
        obtain ⟨c, _, rfl⟩ := List.mem_map.mp hd
        rw [turnE_ap (env1 := [some (.str x), some (.str y), some (.str ⟨#[c]⟩)]) rfl]
        have e2 : decide (c ∈ ("0123456789" : Str).cps) = isDig c := by rw [← dig_in c]; simp
        simp [glb2, in_chr, dig_in, e2]
    have so : srcOf ν (.str y) = some (.val (.str y)) := rfl
    have ba : biD ν .all [.lst ((tl y).map fun c => .bl (isDig c))] = some (.bl ((tl y).all isDig)) := by
      show (bools ((tl y).map fun c => .bl (isDig c))).map _ = _
      rw [bools_map isDig]
      simp
    have i1 : (1 : Int) ≤ y.length ↔ 1 ≤ (digs (tl x)).length := by rw [len_tl, hy]; omega
    have i2 : (y.length : Int) ≤ 20 ↔ (digs (tl x)).length ≤ 20 := by rw [len_tl, hy]; omega
    rw [hy] at ba hb
    by_cases c1 : 1 ≤ (digs (tl x)).length
    · by_cases c2 : (digs (tl x)).length ≤ 20
      · by_cases c3 : (digs (tl x)).all isDig = true
        · obtain ⟨i, hi⟩ : ∃ i, wIn (tl x) = some i := ⟨_, if_pos ⟨⟨c1, c2⟩, c3⟩⟩
          have iw := int_word (ν := ν) hi
          have d1 : decide ((1 : Int) ≤ y.length) = true := decide_eq_true (i1.mpr c1)
          have d2 : decide ((y.length : Int) ≤ 20) = true := decide_eq_true (i2.mpr c2)
          simp only [b9]
          simp [ly, glb1, d1, d2, so, hb, ba, c3, iw, hi, optI]
        · have hn : wIn (tl x) = none := if_neg fun z => c3 z.2
          have c3' : (digs (tl x)).all isDig = false := by simpa using c3
          have d1 : decide ((1 : Int) ≤ y.length) = true := decide_eq_true (i1.mpr c1)
          have d2 : decide ((y.length : Int) ≤ 20) = true := decide_eq_true (i2.mpr c2)
          simp only [b9]
          simp [ly, glb1, d1, d2, so, hb, ba, c3', hn, optI]
      · have hn : wIn (tl x) = none := if_neg fun z => c2 z.1.2
        have d1 : decide ((1 : Int) ≤ y.length) = true := decide_eq_true (i1.mpr c1)
        have d2 : decide ((y.length : Int) ≤ 20) = false := decide_eq_false fun z => c2 (i2.mp z)
        simp only [b9]
        simp [ly, glb1, d1, d2, hn, optI]
    · have hn : wIn (tl x) = none := if_neg fun z => c1 z.1.1
      have d1 : decide ((1 : Int) ≤ y.length) = false := decide_eq_false fun z => c1 (i1.mp z)
      simp only [b9]
      simp [ly, glb1, d1, hn, optI]
  simp only [b9] at dg
  by_cases c : (tl x).take 1 = [45]
  · have z := dg (mkS ((tl x).drop 1)) (by rw [tl_mkS]; exact (if_pos c).symm) (by rw [len_tl, tl_mkS, List.length_drop, ← len_tl]; omega)
    have hm : (mkS ((tl x).take 1) == ("-" : Str)) = true := hminus.trans (decide_eq_true c)
    simp [f9, b9, startE, s1, s2, hm] at z ⊢
    exact z
  · have z := dg x (if_neg c).symm hl
    have hm : (mkS ((tl x).take 1) == ("-" : Str)) = false := hminus.trans (decide_eq_false c)
    simp [f9, b9, startE, s1, s2, hm] at z ⊢
    exact z
end
end K02

/-! texts of numbers, on. -/
namespace K02
open PySem EF
section
variable {W k : Nat} {ν : Sto}
/-! ### the text of an integer -/
def numZ (i : Int) : List Nat := if i < 0 then 45 :: TL.numL i.natAbs else TL.numL i.natAbs
theorem tl_strI (i : Int) : tl (strI i) = numZ i := by
  unfold strI numZ
  by_cases h : i < 0
  · rw [if_pos h]
    obtain ⟨n, rfl⟩ : ∃ n : Nat, i = Int.negSucc n := by
      cases i with
      | ofNat n => exact absurd h (by simp)
      | negSucc n => exact ⟨n, rfl⟩
    have e : toString (Int.negSucc n) = "-" ++ toString (n + 1) := rfl
    have z := TL.tl_num (n + 1)
    rw [show tl (Str.ofString (toString (Int.negSucc n))) = (toString (Int.negSucc n)).toList.map Char.toNat from PyProof.Rows.signs_ofString _, e, String.toList_append, List.map_append]
    rw [show TL.tl (Str.ofString (toString ((n + 1 : Nat) : Int))) = (toString ((n + 1 : Nat) : Int)).toList.map Char.toNat from PyProof.Rows.signs_ofString _] at z
    have e2 : (toString ((n + 1 : Nat) : Int)) = toString (n + 1) := rfl
    rw [e2] at z
    rw [z]
    rfl
  · rw [if_neg h]
    obtain ⟨n, rfl⟩ := Int.eq_ofNat_of_zero_le (show 0 ≤ i by omega)
    exact TL.tl_num n
theorem numZ_len {i : Int} {m : Nat} (hm : 0 < m) (h : i.natAbs < 10 ^ m) : (numZ i).length ≤ m + 1 := by
  have := TL.numL_len hm h
  unfold numZ
  split
  · rw [List.length_cons]; omega
  · omega
theorem strI_len {i : Int} {m : Nat} (hm : 0 < m) (h : i.natAbs < 10 ^ m) : (strI i).length ≤ m + 1 := by
  rw [len_tl, tl_strI]
  exact numZ_len hm h
theorem log_ten {n m : Nat} (h : n < 10 ^ m) (hm : m ≤ 400) : n.log2 < 1920 := by
  refine log2_of (Nat.lt_of_lt_of_le h ?_) (by decide)
  have : (10 : Nat) ^ m ≤ 10 ^ 400 := Nat.pow_le_pow_right (by decide) hm
  exact Nat.le_trans this (by decide +kernel)
theorem val_lt' : ∀ (l : List Nat) (a : Nat), l.all isDig = true → l.foldl (fun acc c => acc * 10 + (c - 48)) a + 1 ≤ (a + 1) * 10 ^ l.length
  | [], a, _ => by simp
  | c :: l, a, h => by
    rw [List.all_cons] at h
    obtain ⟨h1, h2⟩ := Bool.and_eq_true_iff.mp h
    have hc : 48 ≤ c ∧ c ≤ 57 := by unfold isDig at h1; simpa using h1
    have := val_lt' l (a * 10 + (c - 48)) h2
    rw [List.foldl_cons, List.length_cons, Nat.pow_succ]
    refine Nat.le_trans this ?_
    rw [Nat.mul_comm (10 ^ l.length) 10, ← Nat.mul_assoc]
    exact Nat.mul_le_mul_right _ (by omega)
theorem val_lt (l : List Nat) (h : l.all isDig = true) : NumText.digitsVal l < 10 ^ l.length := by
  have := val_lt' l 0 h
  unfold NumText.digitsVal
  omega
theorem wIn_lt {w : List Nat} {i : Int} (h : wIn w = some i) : i.natAbs < 10 ^ 20 := by
  unfold wIn at h
  split at h
  · next hc =>
    obtain ⟨⟨h1, h2⟩, h3⟩ := hc
    have hv := val_lt _ h3
    have : (10 : Nat) ^ (digs w).length ≤ 10 ^ 20 := Nat.pow_le_pow_right (by decide) h2
    cases h
    split <;> omega
  · cases h
theorem low_small {t b : Int} {m : Nat} (hb : b ≠ 0) (h1 : t.natAbs < m) (h2 : b.natAbs < m) : (lt t b).natAbs < m ∧ (lb t b).natAbs < m := by
  have a1 := lt_mul (t := t) hb
  have a2 := lb_mul (t := t) hb
  have hp := part_ne (t := t) hb
  have p1 : 1 ≤ (part t b).natAbs := by omega
  have q1 := congrArg Int.natAbs a1
  have q2 := congrArg Int.natAbs a2
  rw [Int.natAbs_mul] at q1 q2
  have r1 : (lt t b).natAbs ≤ (lt t b).natAbs * (part t b).natAbs := Nat.le_mul_of_pos_right _ p1
  have r2 : (lb t b).natAbs ≤ (lb t b).natAbs * (part t b).natAbs := Nat.le_mul_of_pos_right _ p1
  omega
/-! ### number_in -/
/-- cut at the first stroke -/
def cutS : List Nat → List Nat × Option (List Nat)
  | [] => ([], none)
  | c :: r => if c = 47 then ([], some r) else (c :: (cutS r).1, (cutS r).2)
theorem cutS_none {w a : List Nat} (h : cutS w = (a, none)) : a = w ∧ 47 ∉ w := by
  induction w generalizing a with
  | nil => cases h; simp
  | cons c r ih =>
    unfold cutS at h
    by_cases hc : c = 47
    · rw [if_pos hc] at h; cases h
    · rw [if_neg hc] at h
      have h1 : c :: (cutS r).1 = a := congrArg Prod.fst h
      have h2 : (cutS r).2 = none := congrArg Prod.snd h
      obtain ⟨i1, i2⟩ := ih (a := (cutS r).1) (by rw [← h2])
      subst h1
      refine ⟨by rw [i1], ?_⟩
      simp only [List.mem_cons, not_or]
      exact ⟨fun z => hc z.symm, i2⟩
theorem cutS_some {w a b : List Nat} (h : cutS w = (a, some b)) : w = a ++ 47 :: b ∧ 47 ∉ a := by
  induction w generalizing a with
  | nil => cases h
  | cons c r ih =>
    unfold cutS at h
    by_cases hc : c = 47
    · rw [if_pos hc] at h
      cases h
      subst hc
      simp
    · rw [if_neg hc] at h
      have h1 : c :: (cutS r).1 = a := congrArg Prod.fst h
      have h2 : (cutS r).2 = some b := congrArg Prod.snd h
      obtain ⟨i1, i2⟩ := ih (a := (cutS r).1) (by rw [← h2])
      subst h1
      refine ⟨by rw [List.cons_append, ← i1], ?_⟩
      simp only [List.mem_cons, not_or]
      exact ⟨fun z => hc z.symm, i2⟩
theorem tl_slash : tl "/" = [47] := by decide +kernel
theorem part_none {x : Str} (h : 47 ∉ tl x) : Txt.partition x "/" = (x, Str.empty, Str.empty) := TL.partition_none (S := []) tl_slash h
theorem part_some {x : Str} {a b : List Nat} (e : tl x = a ++ 47 :: b) (h : 47 ∉ a) : Txt.partition x "/" = (mkS a, ("/" : Str), mkS b) := by
  have ex : x = mkS a ++ ("/" : Str) ++ mkS b := by
    rw [str_eq, tl_app, tl_app, tl_mkS, tl_mkS, tl_slash, e]
    simp
  rw [ex]
  exact TL.partition_app (S := []) tl_slash (by rw [show TL.tl (mkS a) = a from tl_mkS a]; exact h)
/-- what number_in gives, in lowest terms -/
def nIn (w : List Nat) : Option (Int × Int) := match cutS w with
  | (a, none) => (wIn a).map fun t => (t, 1)
  | (a, some b) => match wIn a, wIn b with
    | some t, some d => if d = 0 then none else some (lt t d, lb t d)
    | _, _ => none
def optN : Option (Int × Int) → D
  | some (t, b) => numD t b
  | none => .non
theorem low_one (t : Int) : lt t 1 = t ∧ lb t 1 = 1 := by
  have e : part t 1 = 1 := by
    unfold part gc
    simp
  unfold lt lb
  rw [e]
  simp
theorem nIn_lt {w : List Nat} {t b : Int} (h : nIn w = some (t, b)) : t.natAbs < 10 ^ 20 ∧ b.natAbs < 10 ^ 20 ∧ 0 < b := by
  unfold nIn at h
  split at h
  · next a _ =>
    cases e : wIn a with
    | none => rw [e] at h; cases h
    | some i =>
      rw [e] at h
      cases h
      exact ⟨wIn_lt e, by decide, by decide⟩
  · next a c _ =>
    split at h
    · next i d e1 e2 =>
      split at h
      · cases h
      · next hd =>
        cases h
        have := low_small (t := i) hd (wIn_lt e1) (wIn_lt e2)
        exact ⟨this.1, this.2, lb_pos hd⟩
    · cases h
theorem optI_flat (o : Option Int) : flat (optI o) = true := by cases o <;> rfl
theorem c_number_in {x : Str} (hl : x.length ≤ 1000) (hW : 2000 < W) : (callP T tb W (k + 5)).1 10 [.str x] ν = some (.ok (optN (nIn (tl x))), ν) := by
  rw [run_call (fn := f10) rfl rfl]
  have pt : ∀ p : Str × Str × Str, Txt.partition x "/" = p → mtE ν.length false .partition (.str x) [.str "/"] ν = some (.ok (.tup [.str p.1, .str p.2.1, .str p.2.2]), ν) := fun p hp => by
    have e : mtD ν .partition (.str x) [.str "/"] = some (.tup [.str p.1, .str p.2.1, .str p.2.2]) := by
      unfold mtD
      simp only
      rw [if_pos ⟨by decide +kernel, line_le (by omega)⟩, hp]
    show ((M.look fun ν => mtD ν .partition (.str x) [.str "/"]).bind fun d => mkNew false d) ν = _
    rw [bind_ap, look_ap, e]
    rfl
  have ty : mtTy .partition (.str x) = some () := rfl
  have ie : (Str.empty == ("" : Str)) = true := by decide +kernel
  have is : (("/" : Str) == ("" : Str)) = false := by decide +kernel
  have nn : ∀ i : Int, eqD (.int i) .non = some false := fun _ => rfl
  have ix : ∀ a b : D, idxD ν (.tup [a, b]) (.int 1) = some b := fun _ _ => rfl
  rcases hc : cutS (tl x) with ⟨a, _ | b⟩
  · obtain ⟨e1, e2⟩ := cutS_none hc
    subst e1
    have z : mtE ν.length false .partition (.str x) [.str "/"] ν = some (.ok (.tup [.str x, .str Str.empty, .str Str.empty]), ν) := pt _ (part_none e2)
    have w1 := c_whole_in (W := W) (k := k + 3) (ν := ν) hl hW
    have hn : nIn (tl x) = (wIn (tl x)).map fun t => (t, 1) := by unfold nIn; rw [hc]
    cases hw : wIn (tl x) with
    | none =>
      rw [hw] at hn w1
      simp [f10, b10, startE, z, ty, setAll, w1, ie, cmpD, inL, flat, optI, hn, optN]
    | some t =>
      rw [hw] at hn w1
      have q := c_quotient (W := W) (k := k) (ν := ν) (t := t) (b := 1) (by decide) (by decide +kernel)
      rw [(low_one t).1, (low_one t).2] at q
      simp [f10, b10, startE, z, ty, setAll, w1, ie, cmpD, inL, flat, optI, nn, hn, optN, ix, starD, q]
  · obtain ⟨e1, e2⟩ := cutS_some hc
    have z : mtE ν.length false .partition (.str x) [.str "/"] ν = some (.ok (.tup [.str (mkS a), .str "/", .str (mkS b)]), ν) := pt _ (part_some e1 e2)
    have la : (mkS a).length ≤ 1000 := by
      rw [len_tl, tl_mkS]
      rw [len_tl, e1, List.length_append] at hl
      omega
    have lb' : (mkS b).length ≤ 1000 := by
      rw [len_tl, tl_mkS]
      rw [len_tl, e1, List.length_append, List.length_cons] at hl
      omega
    have w1 := c_whole_in (W := W) (k := k + 3) (ν := ν) la hW
    have w2 := c_whole_in (W := W) (k := k + 3) (ν := ν) lb' hW
    rw [tl_mkS] at w1 w2
    have hn : nIn (tl x) = (match wIn a, wIn b with
      | some t, some d => if d = 0 then none else some (lt t d, lb t d)
      | _, _ => none) := by unfold nIn; rw [hc]
    cases hwa : wIn a with
    | none =>
      rw [hwa] at hn w1
      have hn : nIn (tl x) = none := hn
      cases hwb : wIn b with
      | none =>
        rw [hwb] at w2
        simp [f10, b10, startE, z, ty, setAll, w1, w2, is, cmpD, inL, flat, optI, hn, optN]
      | some d =>
        rw [hwb] at w2
        simp [f10, b10, startE, z, ty, setAll, w1, w2, is, cmpD, inL, flat, optI, hn, optN]
    | some t =>
      rw [hwa] at hn w1
      cases hwb : wIn b with
      | none =>
        rw [hwb] at w2 hn
        have hn : nIn (tl x) = none := hn
        simp [f10, b10, startE, z, ty, setAll, w1, w2, is, cmpD, inL, flat, optI, nn, hn, optN]
      | some d =>
        rw [hwb] at w2 hn
        have hn : nIn (tl x) = if d = 0 then none else some (lt t d, lb t d) := hn
        by_cases hd : d = 0
        · rw [if_pos hd] at hn
          subst hd
          simp [f10, b10, startE, z, ty, setAll, w1, w2, is, cmpD, inL, flat, optI, nn, hn, optN, ix]
        · rw [if_neg hd] at hn
          have hd' : (d == 0) = false := by simpa using hd
          have q := c_quotient (W := W) (k := k) (ν := ν) (t := t) (b := d) hd (Nat.lt_of_lt_of_le (wIn_lt hwb) (by decide +kernel))
          simp [f10, b10, startE, z, ty, setAll, w1, w2, is, cmpD, inL, flat, optI, nn, hn, optN, ix, starD, q, hd']
/-! ### read_number -/
def rd (w : List Nat) : Option (Int × Int) := match nIn w with
  | some (t, b) => if tl (numT t b) = w then some (t, b) else none
  | none => none
theorem isNon_num (t b : Int) : isNonD (numD t b) = false := by
  unfold numD
  split <;> rfl
theorem c_read_str {x : Str} (hl : x.length ≤ 1000) (hW : 2000 < W) : (callP T tb W (k + 6)).1 11 [.str x] ν = (match rd (tl x) with
    | some (t, b) => some (.ok (numD t b), ν)
    | none => some (.ex ⟨5, [0], [.str x]⟩, ν)) := by
  rw [run_call (fn := f11) rfl rfl]
  have n1 := c_number_in (W := W) (k := k) (ν := ν) hl hW
  have e : T.err 5 [.str x] = some ⟨5, [0], [.str x]⟩ := rfl
  have isi : isiD (.str x) [.ty 2] = some true := rfl
  cases hn : nIn (tl x) with
  | none =>
    rw [hn] at n1
    have hr : rd (tl x) = none := by unfold rd; rw [hn]
    simp [f11, b11, startE, isi, n1, optN, isNonD, hr, e]
  | some p =>
    obtain ⟨t, b⟩ := p
    rw [hn] at n1
    obtain ⟨h1, h2, h3⟩ := nIn_lt hn
    have nt := c_number_text (W := W) (k := k + 1) (ν := ν) (num_numD t b) (log_ten h1 (by decide)) (log_ten h2 (by decide)) (Nat.le_trans (strI_len (by decide) h1) (by decide)) (Nat.le_trans (strI_len (by decide) h2) (by decide))
    have hin := isNon_num t b
    by_cases c : tl (numT t b) = tl x
    · have hr : rd (tl x) = some (t, b) := by unfold rd; rw [hn]; exact if_pos c
      have hb : (numT t b == x) = true := by rw [beq_str]; exact decide_eq_true c
      simp [f11, b11, startE, isi, n1, optN, hin, hr, nt, hb]
    · have hr : rd (tl x) = none := by unfold rd; rw [hn]; exact if_neg c
      have hb : (numT t b == x) = false := by rw [beq_str]; exact decide_eq_false c
      simp [f11, b11, startE, isi, n1, optN, hin, hr, nt, hb, e]
/-- what is no text is refused -/
theorem c_read_bad {v : D} (h : isiD (un ν v) [.ty 2] = some false) : (callP T tb W (k + 1)).1 11 [v] ν = some (.ex ⟨5, [0], [v]⟩, ν) := by
  rw [run_call (fn := f11) rfl rfl]
  have e : T.err 5 [v] = some ⟨5, [0], [v]⟩ := rfl
  simp [f11, b11, startE, h, isNonD, e]
end
end K02

/-! powers; the law's own arithmetic and texts. -/
namespace K02
open PySem EF
section
variable {W k : Nat} {ν : Sto}
theorem rng0 {c : Nat} (h : c ≤ 1000) : rngD [.int (c : Int)] = some (.rng 0 c) := by
  unfold rngD
  have : small62 (c : Int) := by unfold small62; omega
  simp [this]
theorem srcN_rng {n i : Nat} (h : i < n) : srcN ν (.rng 0 n) i = some (some (.int (i : Nat))) := by
  show some (if i < n then some (D.int (0 + (i : Nat))) else none) = _
  rw [if_pos h]
  simp
theorem srcN_end {n : Nat} : srcN ν (.rng 0 n) n = some none := by
  show some (if n < n then _ else none) = _
  rw [if_neg (Nat.lt_irrefl _)]
theorem wide_pow {t s : Int} {i : Nat} (h : t.natAbs < 2 ^ 100) (hi : i ≤ 1000) (hs : s.natAbs < 2 ^ 100) : wideOk (t ^ i) s := by
  unfold wideOk
  have h1 : (t ^ i).natAbs ≤ (2 ^ 100) ^ i := by
    rw [Int.natAbs_pow]
    exact Nat.pow_le_pow_left (Nat.le_of_lt h) i
  rw [← Nat.pow_mul] at h1
  have h2 : (t ^ i).natAbs < 2 ^ (100 * i + 1) := Nat.lt_of_le_of_lt h1 (Nat.pow_lt_pow_right (by decide) (by omega))
  have h3 := log2_of h2 (by omega)
  have h4 := log2_of hs (by decide)
  omega
theorem pow_small {t : Int} {i : Nat} (h : t.natAbs < 2 ^ 8) (hi : i ≤ 400) : (t ^ i).natAbs < 2 ^ 8000 := by
  rw [Int.natAbs_pow]
  refine Nat.lt_of_le_of_lt (Nat.pow_le_pow_left (Nat.le_of_lt h) i) ?_
  rw [← Nat.pow_mul]
  exact Nat.pow_lt_pow_right (by decide) (by omega)
theorem one_pow' (n : Nat) : (1 : Int) ^ n = 1 := by
  induction n with
  | zero => rfl
  | succ n ih => rw [Int.pow_succ, ih]; rfl
theorem c_power_of {b : Int} {c : Int} (hc : c.natAbs ≤ 400) (hW : 2000 < W) (hb : b ≠ 0) (hs : b.natAbs < 2 ^ 8) : (callP T tb W (k + 5)).1 6 [.int b, .int c] ν = some (.ok (if c < 0 then numD (lt 1 (b ^ c.natAbs)) (lb 1 (b ^ c.natAbs)) else .int (b ^ c.natAbs)), ν) := by
  rw [run_call (fn := f6) rfl rfl]
  have h1 := c_pair_of (W := W) (k := k + 3) (ν := ν) (.int b)
  -- the turns
  have lp : ∀ (t s : Int) (n : Nat) (o : Option D), t.natAbs < 2 ^ 100 → s.natAbs < 2 ^ 100 → n ≤ 400 → ∃ o', loopT T (callP T tb W (k + 4)).1 (callP T tb W (k + 4)).2 ν.length W (.nm 2) (.cons (.par [5, 6] (.cons (.bin .mul (.var 5) (.var 3)) (.cons (.bin .mul (.var 6) (.var 4)) .nil))) .nil) (.rng 0 n) W 0 [some (.int b), some (.int (n : Int)), o, some (.int t), some (.int s), some (.int 1), some (.int 1)] ν =
      some (.nx [some (.int b), some (.int (n : Int)), o', some (.int t), some (.int s), some (.int (t ^ n)), some (.int (s ^ n))], ν) := fun t s n o ht hs' hn => by
    obtain ⟨env', ν', e, p⟩ := loop_inv (T := T) (F := (callP T tb W (k + 4)).1) (F1 := (callP T tb W (k + 4)).2) (n0 := ν.length) (W := W) (t := .nm 2) (b := .cons (.par [5, 6] (.cons (.bin .mul (.var 5) (.var 3)) (.cons (.bin .mul (.var 6) (.var 4)) .nil))) .nil) (src := .rng 0 n) (n := n)
      (fun i env ν' => ν' = ν ∧ ∃ o', env = [some (.int b), some (.int (n : Int)), o', some (.int t), some (.int s), some (.int (t ^ i)), some (.int (s ^ i))])
      (fun i hi env ν' p => by
        obtain ⟨rfl, o', rfl⟩ := p
        have w1 := binD_mulI (wide_pow (t := t) (s := t) (i := i) ht (by omega) ht)
        have w2 := binD_mulI (wide_pow (t := s) (s := s) (i := i) hs' (by omega) hs')
        refine ⟨_, _, _, _, srcN_rng hi, rfl, ?_, rfl, some (.int (i : Nat)), rfl⟩
        simp [w1, w2, setAll, Int.pow_succ]) (fun env ν' p => srcN_end) n 0 W [some (.int b), some (.int (n : Int)), o, some (.int t), some (.int s), some (.int 1), some (.int 1)] ν (by omega) (by omega) ⟨rfl, o, by simp⟩
    obtain ⟨rfl, o', rfl⟩ := p
    exact ⟨o', e⟩
  have hb100 : b.natAbs < 2 ^ 100 := Nat.lt_trans hs (by decide)
  by_cases h : c < 0
  · obtain ⟨o', l⟩ := lp 1 b c.natAbs none (by decide) hb100 hc
    have hn : ((c.natAbs : Nat) : Int) = -c := by omega
    rw [hn] at l
    have rg := rng0 (c := c.natAbs) (by omega)
    rw [hn] at rg
    have hp : b ^ c.natAbs ≠ 0 := Int.pow_ne_zero hb
    have q := c_quotient (W := W) (k := k) (ν := ν) (t := 1) (b := b ^ c.natAbs) hp (pow_small hs hc)
    simp at l
    simp [f6, b6, startE, h1, setAll, h, rg, l, q, one_pow']
  · obtain ⟨o', l⟩ := lp b 1 c.natAbs none hb100 (by decide) hc
    have hn : ((c.natAbs : Nat) : Int) = c := by omega
    rw [hn] at l
    have rg := rng0 (c := c.natAbs) (by omega)
    rw [hn] at rg
    have q := c_quotient (W := W) (k := k) (ν := ν) (t := b ^ c.natAbs) (b := 1) (by decide) (by decide +kernel)
    rw [(low_one _).1, (low_one _).2] at q
    have e1 : numD (b ^ c.natAbs) 1 = .int (b ^ c.natAbs) := if_pos rfl
    rw [e1] at q
    simp at l
    simp [f6, b6, startE, h1, setAll, h, rg, l, q, one_pow']
theorem c_raised {b : Int} {c : Int} (hc : c.natAbs ≤ 400) (hW : 2000 < W) (hb : b ≠ 0) (hs : b.natAbs < 2 ^ 8) : (callP T tb W (k + 6)).1 7 [.int b, .int c] ν = some (.ok (if c < 0 then numD (lt 1 (b ^ c.natAbs)) (lb 1 (b ^ c.natAbs)) else .int (b ^ c.natAbs)), ν) := by
  rw [run_call (fn := f7) rfl rfl]
  have h1 := c_checkI (W := W) (k := k + 2) (ν := ν) (i := b)
  have h2 := c_sign (W := W) (k := k + 3) (ν := ν) (.int b)
  have h3 := c_power_of (W := W) (k := k) (ν := ν) hc hW hb hs
  have ha : ¬ (400 : Int) < (if c < 0 then -c else c) := by split <;> omega
  have ha' : decide ((400 : Int) < (if c < 0 then -c else c)) = false := decide_eq_false ha
  by_cases h : c < 0
  · have hz : ((if 0 < b then (1 : Int) else 0) - (if b < 0 then 1 else 0) == 0) = false := by
      rcases Int.lt_trichotomy b 0 with z | z | z
      · simp [z, show ¬ 0 < b by omega]
      · exact absurd z hb
      · simp [z, show ¬ b < 0 by omega]
    simp [h] at h3
    have ha1 : cmpD ν .gt (.int (-c)) (.int 400) = some false := by rw [cmp_gt]; exact congrArg some (decide_eq_false (by omega))
    simp [-cmp_gt, f7, b7, startE, h1, h2, h3, glb0, h, ha1, hz]
  · simp [h] at h3
    have ha1 : cmpD ν .gt (.int c) (.int 400) = some false := by rw [cmp_gt]; exact congrArg some (decide_eq_false (by omega))
    simp [-cmp_gt, f7, b7, startE, h1, h3, glb0, h, ha1]
/-! ### the law's own lowest terms -/
theorem fmod_nat {a b : Nat} : (a : Int).fmod (b : Int) = ((a % b : Nat) : Int) := by
  rw [Int.fmod_eq_emod_of_nonneg _ (by omega)]
  exact (Int.natCast_emod a b).symm
theorem gcd_loop {F F1 : Nat → List D → M D} {n0 : Nat} {t s : Int} : ∀ (w a b : Nat), b < w → whlT T F F1 n0 W (.cmp .ne (.var 3) (.lit (.int 0))) (.cons (.par [2, 3] (.cons (.var 3) (.cons (.bin .mod (.bi false .int (.cons (.var 2) .nil)) (.var 3)) .nil))) .nil) w [some (.int t), some (.int s), some (.int (a : Int)), some (.int (b : Int))] ν =
    some (.nx [some (.int t), some (.int s), some (.int ((Nat.gcd a b : Nat) : Int)), some (.int 0)], ν)
  | 0, a, b, h => absurd h (by omega)
  | w + 1, a, 0, h => by
    rw [whl_stop (d := .bl false) (ν' := ν) (by simp) rfl]
    simp
  | w + 1, a, b + 1, h => by
    have hm : ((b + 1 : Nat) : Int) ≠ 0 := by omega
    have e := binD_mod (i := (a : Int)) hm
    rw [fmod_nat] at e
    have hlt : a % (b + 1) < b + 1 := Nat.mod_lt _ (by omega)
    have ih := gcd_loop (F := F) (F1 := F1) (n0 := n0) (t := t) (s := s) w (b + 1) (a % (b + 1)) (by omega)
    rw [Nat.gcd_comm (b + 1) (a % (b + 1)), ← Nat.gcd_rec, Nat.gcd_comm (b + 1) a] at ih
    generalize ((b + 1 : Nat) : Int) = j at hm e ih ⊢
    generalize ((a % (b + 1) : Nat) : Int) = m at e ih
    have hne : (j == 0) = false := by simpa using hm
    rw [whl_go (d := .bl true) (ν' := ν) (env2 := [some (.int t), some (.int s), some (.int j), some (.int m)]) (ν2 := ν) (by simp [hne]) rfl (by simp [e, setAll])]
    exact ih
theorem iabs (i : Int) : biD ν .abs [.int i] = some (.int (i.natAbs : Nat)) := by
  rw [bi_abs]
  congr 2
  split <;> omega
theorem gc_eq (t b : Int) : gc t b = ((Nat.gcd t.natAbs b.natAbs : Nat) : Int) := rfl
theorem fdiv_neg' {a c : Int} (h : c ∣ a) (hc : c ≠ 0) : a.fdiv (-c) = 0 - a.fdiv c := by
  obtain ⟨q, rfl⟩ := h
  rw [Int.mul_fdiv_cancel_left _ hc]
  have : c * q = -c * -q := by rw [Int.neg_mul_neg]
  rw [this, Int.mul_fdiv_cancel_left _ (by omega)]
  omega
theorem c_low {t b : Int} (h : b ≠ 0) (hb : b.natAbs < 2 ^ 8000) (hW : b.natAbs < W) : (callP T tb W (k + 1)).1 16 [.int t, .int b] ν = some (.ok (.tup [.int (lt t b), .int (lb t b)]), ν) := by
  rw [run_call (fn := f16) rfl rfl]
  have l := gcd_loop (W := W) (ν := ν) (F := (callP T tb W k).1) (F1 := (callP T tb W k).2) (n0 := ν.length) (t := t) (s := b) W t.natAbs b.natAbs hW
  have a1 := iabs (ν := ν) t
  have a2 := iabs (ν := ν) b
  have hg := gc_pos (t := t) h
  have hgl : (gc t b).natAbs.log2 < 9000 := by
    have h1 : (gc t b).natAbs ≤ b.natAbs := Nat.le_of_dvd (by omega) (Nat.gcd_dvd_right _ _)
    have : (gc t b).natAbs.log2 < 8000 := log2_of (by omega) (by decide)
    omega
  have d1 := binD_fdv (i := t) (j := gc t b) ⟨by omega, hgl⟩
  have d2 := binD_fdv (i := b) (j := gc t b) ⟨by omega, hgl⟩
  rw [← gc_eq] at l
  by_cases c : 0 < b
  · have e : part t b = gc t b := if_pos c
    simp [-bi_abs, f16, b16, startE, a1, a2, setAll, l, c, d1, d2, lt, lb, e]
  · have e : part t b = -gc t b := if_neg c
    have z1 := fdiv_neg' (gc_dl t b) (by omega)
    have z2 := fdiv_neg' (gc_dr t b) (by omega)
    have e1 : (0 : Int) - t.fdiv (gc t b) = lt t b := by unfold lt; rw [e, z1]
    have e2 : (0 : Int) - b.fdiv (gc t b) = lb t b := by unfold lb; rw [e, z2]
    simp [-bi_abs, -Int.zero_sub, f16, b16, startE, a1, a2, setAll, l, c, d1, d2, e1, e2]
/-! ### the law's own digits -/
theorem dig_at {i : Nat} (h : i < 10) : idxD ν (.str "0123456789") (.int (i : Int)) = some (.str ⟨#[48 + i]⟩) := by
  have e : tl "0123456789" = [48, 49, 50, 51, 52, 53, 54, 55, 56, 57] := by decide +kernel
  have el : ("0123456789" : Str).cps.toList = [48, 49, 50, 51, 52, 53, 54, 55, 56, 57] := e
  have hl : ("0123456789" : Str).length ≤ sizeLine := line_le (by decide +kernel)
  unfold idxD
  simp only [un_str']
  rw [if_pos hl, el]
  show Option.map _ ((L2.ixN 10 (i : Int)).bind _) = _
  rw [ixN_nat h]
  match i, h with
  | 0, _ => rfl
  | 1, _ => rfl
  | 2, _ => rfl
  | 3, _ => rfl
  | 4, _ => rfl
  | 5, _ => rfl
  | 6, _ => rfl
  | 7, _ => rfl
  | 8, _ => rfl
  | 9, _ => rfl
theorem fdiv_nat {a b : Nat} : (a : Int).fdiv (b : Int) = ((a / b : Nat) : Int) := by
  rw [Int.fdiv_eq_ediv_of_nonneg _ (by omega)]
  exact (Int.natCast_ediv a b).symm
/-- the digits of n put ahead of found; none for 0 -/
def numP (n : Nat) : List Nat := if n = 0 then [] else TL.numL n
theorem numP_step {n : Nat} (h : n ≠ 0) : numP n = numP (n / 10) ++ [48 + n % 10] := by
  unfold numP
  rw [if_neg h]
  by_cases c : n < 10
  · rw [if_pos (by omega), TL.numL_lt c, Nat.mod_eq_of_lt c]; rfl
  · rw [if_neg (by omega), TL.numL_step (by omega)]
theorem digit_loop {F F1 : Nat → List D → M D} {n0 : Nat} {v : D} : ∀ (w n : Nat) (f : Str), n < w → (numP n ++ tl f).length ≤ 16777216 → whlT T F F1 n0 W (.cmp .gt (.var 2) (.lit (.int 0))) (.cons (.par [1, 2] (.cons (.bin .add (.idx (.lit (.str "0123456789")) (.bin .mod (.bi false .int (.cons (.var 2) .nil)) (.lit (.int 10)))) (.var 1)) (.cons (.bin .fdv (.var 2) (.lit (.int 10))) .nil))) .nil) w [some v, some (.str f), some (.int (n : Int))] ν =
    some (.nx [some v, some (.str (mkS (numP n ++ tl f))), some (.int 0)], ν)
  | 0, n, f, h, _ => absurd h (by omega)
  | w + 1, n, f, h, hl => by
    by_cases c : n = 0
    · subst c
      rw [whl_stop (d := .bl false) (ν' := ν) (by simp) rfl]
      have e : mkS (numP 0 ++ tl f) = f := mkS_tl f
      rw [e]
      simp
    · have e1 := binD_mod (i := (n : Int)) (j := 10) (by decide)
      have e2 := binD_fdv (i := (n : Int)) (j := 10) ⟨by decide, by decide⟩
      rw [show ((10 : Int)) = ((10 : Nat) : Int) from rfl, fmod_nat] at e1
      rw [show ((10 : Int)) = ((10 : Nat) : Int) from rfl, fdiv_nat] at e2
      have e3 := dig_at (ν := ν) (i := n % 10) (Nat.mod_lt _ (by decide))
      rw [numP_step c] at hl
      have e4 := binD_addS (x := ⟨#[48 + n % 10]⟩) (y := f) (by
        rw [len_tl, len_tl]
        have := hl
        simp only [List.length_append, List.length_singleton] at this
        have e : (tl (⟨#[48 + n % 10]⟩ : Str)).length = 1 := rfl
        exact line_le (by omega))
      have ef : tl ((⟨#[48 + n % 10]⟩ : Str) ++ f) = [48 + n % 10] ++ tl f := tl_app _ _
      have ih := digit_loop (F := F) (F1 := F1) (n0 := n0) (v := v) w (n / 10) ((⟨#[48 + n % 10]⟩ : Str) ++ f) (by omega) (by rw [ef, ← List.append_assoc]; exact hl)
      rw [ef, ← List.append_assoc, ← numP_step c] at ih
      have hpos : 0 < n := by omega
      have hposI : (0 : Int) < (n : Int) := by omega
      have e1' : binD .mod (.int (n : Int)) (.int (10 : Int)) = some (.int ((n % 10 : Nat) : Int)) := e1
      have e2' : binD .fdv (.int (n : Int)) (.int (10 : Int)) = some (.int ((n / 10 : Nat) : Int)) := e2
      clear e1 e2
      generalize ((n / 10 : Nat) : Int) = m at e2' ih ⊢
      generalize ((n % 10 : Nat) : Int) = r at e1' e3 ⊢
      rw [whl_go (d := .bl true) (ν' := ν) (env2 := [some v, some (.str ((⟨#[48 + n % 10]⟩ : Str) ++ f)), some (.int m)]) (ν2 := ν) (by simp [hpos, hposI]) rfl (by simp [e1', e2', e3, e4, setAll])]
      exact ih
theorem c_digits {n : Nat} (hW : n < W) (hn : n < 10 ^ 400) : (callP T tb W (k + 1)).1 25 [.int (n : Int)] ν = some (.ok (.str (mkS (TL.numL n))), ν) := by
  rw [run_call (fn := f25) rfl rfl]
  have e0 : tl "" = [] := by decide +kernel
  have hlen : (TL.numL n).length ≤ 400 := TL.numL_len (by decide) hn
  have hl : (numP n ++ tl "").length ≤ 16777216 := by
    rw [e0, List.append_nil]
    unfold numP
    split
    · simp
    · omega
  have l := digit_loop (W := W) (ν := ν) (F := (callP T tb W k).1) (F1 := (callP T tb W k).2) (n0 := ν.length) (v := .int (n : Int)) W n "" hW hl
  rw [e0, List.append_nil] at l
  by_cases c : n = 0
  · subst c
    have e1 : numP 0 = [] := rfl
    rw [e1] at l
    have e2 : (mkS [] == ("" : Str)) = true := by decide +kernel
    have e3 : ("0" : Str) = mkS (TL.numL 0) := by decide +kernel
    simp at l
    simp [f25, b25, startE, setAll, l, e2, e3]
  · have e1 : numP n = TL.numL n := if_neg c
    rw [e1] at l
    have e2 : (mkS (TL.numL n) == ("" : Str)) = false := by
      rw [beq_str, tl_mkS, e0]
      exact decide_eq_false (TL.numL_ne n)
    simp [f25, b25, startE, setAll, l, e2]
end
end K02

/-! the law's own reader. -/
namespace K02
open PySem EF
section
variable {W k : Nat} {ν : Sto}
theorem ix0 {a : D} {r : List D} : idxD ν (.tup (a :: r)) (.int 0) = some a := by
  rw [idx_tup]
  show ((L2.ixN (r.length + 1) ((0 : Nat) : Int)).bind _) = _
  rw [ixN_nat (by omega)]
  rfl
theorem ix1 {a b : D} {r : List D} : idxD ν (.tup (a :: b :: r)) (.int 1) = some b := by
  rw [idx_tup]
  show ((L2.ixN (r.length + 2) ((1 : Nat) : Int)).bind _) = _
  rw [ixN_nat (by omega)]
  rfl
theorem ix2 {a b c : D} {r : List D} : idxD ν (.tup (a :: b :: c :: r)) (.int 2) = some c := by
  rw [idx_tup]
  show ((L2.ixN (r.length + 3) ((2 : Nat) : Int)).bind _) = _
  rw [ixN_nat (by omega)]
  rfl
theorem il0 {a : D} {r : List D} : idxD ν (.lst (a :: r)) (.int 0) = some a := by
  rw [idx_lst]
  show ((L2.ixN (r.length + 1) ((0 : Nat) : Int)).bind _) = _
  rw [ixN_nat (by omega)]
  rfl
theorem il1 {a b : D} {r : List D} : idxD ν (.lst (a :: b :: r)) (.int 1) = some b := by
  rw [idx_lst]
  show ((L2.ixN (r.length + 2) ((1 : Nat) : Int)).bind _) = _
  rw [ixN_nat (by omega)]
  rfl
theorem il2 {a b c : D} {r : List D} : idxD ν (.lst (a :: b :: c :: r)) (.int 2) = some c := by
  rw [idx_lst]
  show ((L2.ixN (r.length + 3) ((2 : Nat) : Int)).bind _) = _
  rw [ixN_nat (by omega)]
  rfl
theorem e0 : tl "" = [] := by decide +kernel
/-! ### _law_text -/
theorem c_text {t b : Int} (hb : 0 < b) (ht : t.natAbs < 10 ^ 400) (hb2 : b.natAbs < 10 ^ 400) (hW : 10 ^ 400 < W) : (callP T tb W (k + 2)).1 26 [.tup [.int t, .int b]] ν = some (.ok (.str (numT t b)), ν) := by
  rw [run_call (fn := f26) rfl rfl]
  have d1 := c_digits (W := W) (k := k) (ν := ν) (n := t.natAbs) (by omega) ht
  have d2 := c_digits (W := W) (k := k) (ν := ν) (n := b.natAbs) (by omega) hb2
  have hbb : ((b.natAbs : Nat) : Int) = b := by omega
  rw [hbb] at d2
  have a1 := iabs (ν := ν) t
  have l1 : (TL.numL t.natAbs).length ≤ 400 := TL.numL_len (by decide) ht
  have l2 : (TL.numL b.natAbs).length ≤ 400 := TL.numL_len (by decide) hb2
  have em : ("-" : Str) = mkS [45] := by decide +kernel
  have es : ("/" : Str) = mkS [47] := by decide +kernel
  have ee : ("" : Str) = mkS [] := by decide +kernel
  have lm : ∀ l : List Nat, (mkS l).length = l.length := fun l => by rw [len_tl, tl_mkS]
  have ad : ∀ l r : List Nat, l.length + r.length ≤ 16777216 → binD .add (.str (mkS l)) (.str (mkS r)) = some (.str (mkS (l ++ r))) := fun l r h => by
    rw [binD_addS (by rw [lm, lm]; exact line_le h)]
    congr 2
    rw [str_eq, tl_app, tl_mkS, tl_mkS, tl_mkS]
  have key : numT t b = mkS (numZ t ++ (if 1 < b then 47 :: TL.numL b.natAbs else [])) := by
    rw [str_eq, tl_mkS]
    unfold numT
    by_cases c : b = 1
    · rw [if_pos c, if_neg (by omega), List.append_nil, tl_strI]
    · rw [if_neg c, if_pos (by omega), tl_app, tl_app, tl_app, tl_strI, tl_strI, tl_slash]
      have : numZ b = TL.numL b.natAbs := if_neg (by omega)
      rw [this]
      show ([] ++ numZ t ++ [47]) ++ _ = _
      simp
  have s1 := ad [45] (TL.numL t.natAbs) (by simp; omega)
  have s2 := ad [] (TL.numL t.natAbs) (by simp; omega)
  have s3 := ad [47] (TL.numL b.natAbs) (by simp; omega)
  have s4 : ∀ r : List Nat, r.length ≤ 500 → binD .add (.str (mkS (numZ t))) (.str (mkS r)) = some (.str (mkS (numZ t ++ r))) := fun r hr => ad _ r (by
    have := numZ_len (i := t) (m := 400) (by decide) ht
    omega)
  have s5 := s4 (47 :: TL.numL b.natAbs) (by simp; omega)
  have s6 := s4 [] (by simp)
  rw [key]
  by_cases c : t < 0
  · have z : numZ t = 45 :: TL.numL t.natAbs := if_pos c
    rw [z] at s5 s6 ⊢
    by_cases c2 : 1 < b
    · simp [-bi_abs, f26, b26, startE, setAll, a1, d1, d2, ix0, ix1, c, c2, em, es, ee, s1, s3, s5] 
      try simp at s1 s3 s5
      try simp [s1, s3, s5]
    · simp [-bi_abs, f26, b26, startE, setAll, a1, d1, d2, ix0, ix1, c, c2, em, es, ee, s1, s3, s5, s6]
      try simp at s1 s3 s6
      try simp [s1, s3, s6]
  · have z : numZ t = TL.numL t.natAbs := if_neg c
    rw [z] at s5 s6 ⊢
    by_cases c2 : 1 < b
    · simp [-bi_abs, f26, b26, startE, setAll, a1, d1, d2, ix0, ix1, c, c2, em, es, ee, s2, s3, s5]
      try simp at s2 s3 s5
      try simp [s2, s3, s5]
    · simp [-bi_abs, f26, b26, startE, setAll, a1, d1, d2, ix0, ix1, c, c2, em, es, ee, s2, s3, s6]
      try simp at s2 s3 s6
      try simp [s2, s3, s6]
end
/-! ### the decimal writing is one -/
theorem canon' : ∀ (r : List Nat) (a : Nat), r.all isDig = true → 0 < a → TL.numL (r.foldl (fun acc c => acc * 10 + (c - 48)) a) = TL.numL a ++ r
  | [], a, _, _ => by simp
  | c :: r, a, h, ha => by
    rw [List.all_cons] at h
    obtain ⟨h1, h2⟩ := Bool.and_eq_true_iff.mp h
    have hc : 48 ≤ c ∧ c ≤ 57 := by unfold isDig at h1; simpa using h1
    rw [List.foldl_cons, canon' r (a * 10 + (c - 48)) h2 (by omega), TL.numL_step (n := a * 10 + (c - 48)) (by omega)]
    have e1 : (a * 10 + (c - 48)) / 10 = a := by omega
    have e2 : 48 + (a * 10 + (c - 48)) % 10 = c := by omega
    rw [e1, e2]
    simp
/-- digits without a 0 ahead, or 0 alone -/
theorem canon {l : List Nat} (h : l.all isDig = true) (hl : l ≠ []) : TL.numL (NumText.digitsVal l) = l ↔ l.take 1 ≠ [48] ∨ l = [48] := by
  cases l with
  | nil => exact absurd rfl hl
  | cons c r =>
    rw [List.all_cons] at h
    obtain ⟨h1, h2⟩ := Bool.and_eq_true_iff.mp h
    have hc : 48 ≤ c ∧ c ≤ 57 := by unfold isDig at h1; simpa using h1
    by_cases z : c = 48
    · subst z
      constructor
      · intro e
        right
        by_cases hr : r = []
        · rw [hr]
        · exfalso
          have e' := congrArg List.length e
          have hv : NumText.digitsVal (48 :: r) < 10 ^ r.length := by
            show r.foldl (fun acc c => acc * 10 + (c - 48)) (0 * 10 + (48 - 48)) < _
            exact val_lt r h2
          have := TL.numL_len (List.length_pos_iff.mpr hr) hv
          rw [List.length_cons] at e'
          omega
      · intro e
        rcases e with e | e
        · exact absurd rfl e
        · rw [e]; decide +kernel
    · constructor
      · intro _
        left
        simp [z]
      · intro _
        show TL.numL (r.foldl (fun acc c => acc * 10 + (c - 48)) (0 * 10 + (c - 48))) = _
        rw [canon' r _ h2 (by omega), TL.numL_lt (by omega)]
        have : 48 + (0 * 10 + (c - 48)) = c := by omega
        rw [this]
        rfl
/-! ### _law_whole -/
def bodyL (s : Bool) (w : List Nat) : List Nat := if s = true ∧ w.take 1 = [45] then w.drop 1 else w
def lw (s : Bool) (w : List Nat) : Option Int :=
  if (1 ≤ (bodyL s w).length ∧ (bodyL s w).length ≤ 20) ∧ (bodyL s w).all isDig = true ∧ ((bodyL s w).take 1 ≠ [48] ∨ w = [48]) then
    some (if bodyL s w ≠ w then 0 - ((NumText.digitsVal (bodyL s w) : Nat) : Int) else ((NumText.digitsVal (bodyL s w) : Nat) : Int)) else none
/-- the law reads an integer just where the writing of what the program reads is the word -/
theorem lw_true {w : List Nat} {t : Int} : lw true w = some t ↔ wIn w = some t ∧ numZ t = w := by
  have eb : bodyL true w = digs w := by unfold bodyL digs; simp
  unfold lw
  rw [eb]
  unfold wIn
  by_cases h : (1 ≤ (digs w).length ∧ (digs w).length ≤ 20) ∧ (digs w).all isDig = true
  · obtain ⟨⟨h1, h2⟩, h3⟩ := h
    have hne : digs w ≠ [] := by intro z; rw [z] at h1; simp at h1
    have hc := canon h3 hne
    rw [if_pos (show (1 ≤ (digs w).length ∧ (digs w).length ≤ 20) ∧ (digs w).all isDig = true from ⟨⟨h1, h2⟩, h3⟩)]
    by_cases m : w.take 1 = [45]
    · have ed : digs w = w.drop 1 := if_pos m
      have ew : w = 45 :: digs w := by
        have := List.take_append_drop 1 w
        rw [m, ← ed] at this
        exact this.symm
      have hn : digs w ≠ w := by intro z; have := congrArg List.length ew; rw [z, List.length_cons] at this; omega
      have h48 : w ≠ [48] := by intro z; rw [z] at m; cases m
      rw [if_pos m, if_pos hn]
      by_cases z : (digs w).take 1 = [48]
      · rw [if_neg (by rintro ⟨_, _, q | q⟩; exact q z; exact h48 q)]
        constructor
        · intro q; cases q
        · rintro ⟨q1, q2⟩
          exfalso
          cases q1
          by_cases v : NumText.digitsVal (digs w) = 0
          · rw [v] at q2
            have : numZ (-((0 : Nat) : Int)) = [48] := by decide +kernel
            rw [this] at q2
            exact h48 q2.symm
          · have e : numZ (-((NumText.digitsVal (digs w) : Nat) : Int)) = 45 :: TL.numL (NumText.digitsVal (digs w)) := by
              unfold numZ
              rw [if_pos (by omega)]
              congr 2
              omega
            rw [e] at q2
            rw [ew] at q2
            have q3 : TL.numL (NumText.digitsVal (digs w)) = digs w := by
              have := List.cons.inj q2
              have e4 := this.2
              rw [← ew] at e4
              exact e4
            rcases hc.mp q3 with q | q
            · exact q z
            · rw [q] at v
              exact v (by decide +kernel)
      · rw [if_pos ⟨⟨h1, h2⟩, h3, Or.inl z⟩]
        have q3 := hc.mpr (Or.inl z)
        have v : NumText.digitsVal (digs w) ≠ 0 := by
          intro v
          rw [v] at q3
          rw [← q3] at z
          exact z (by decide +kernel)
        have e : numZ (-((NumText.digitsVal (digs w) : Nat) : Int)) = w := by
          unfold numZ
          rw [if_pos (by omega)]
          have : (-((NumText.digitsVal (digs w) : Nat) : Int)).natAbs = NumText.digitsVal (digs w) := by omega
          rw [this, q3]
          exact ew.symm
        rw [Int.zero_sub]
        constructor
        · intro q
          refine ⟨q, ?_⟩
          cases q
          exact e
        · exact fun q => q.1
    · have ed : digs w = w := if_neg m
      rw [ed] at h1 h2 h3 hc ⊢
      rw [if_neg m, if_neg (show ¬ (w ≠ w) from fun q => q rfl)]
      have e : numZ ((NumText.digitsVal w : Nat) : Int) = TL.numL (NumText.digitsVal w) := by
        unfold numZ
        rw [if_neg (by omega)]
        congr 1
      by_cases z : w.take 1 ≠ [48] ∨ w = [48]
      · rw [if_pos ⟨⟨h1, h2⟩, h3, z⟩]
        constructor
        · intro q
          refine ⟨q, ?_⟩
          cases q
          rw [e]
          exact hc.mpr z
        · exact fun q => q.1
      · rw [if_neg (by rintro ⟨_, _, q⟩; exact z q)]
        constructor
        · intro q; cases q
        · rintro ⟨q1, q2⟩
          cases q1
          rw [e] at q2
          exact absurd (hc.mp q2) z
  · rw [if_neg h, if_neg (by rintro ⟨a, b, _⟩; exact h ⟨a, b⟩)]
    simp
theorem lw_false {w : List Nat} {t : Int} : lw false w = some t ↔ wIn w = some t ∧ numZ t = w ∧ 0 ≤ t := by
  have eb : bodyL false w = w := by unfold bodyL; simp
  by_cases m : w.take 1 = [45]
  · constructor
    · intro h
      exfalso
      unfold lw at h
      rw [eb] at h
      split at h
      · next hc =>
        have := hc.2.1
        cases w with
        | nil => cases m
        | cons c r =>
          have : c = 45 := by simpa using m
          subst this
          have q := hc.2.1
          simp [isDig] at q
      · cases h
    · rintro ⟨h1, h2, h3⟩
      exfalso
      have : numZ t = TL.numL t.natAbs := if_neg (by omega)
      rw [this] at h2
      rw [← h2] at m
      have hd := TL.numL_digits t.natAbs
      have hn := TL.numL_ne t.natAbs
      cases hq : TL.numL t.natAbs with
      | nil => exact hn hq
      | cons c r =>
        rw [hq] at m hd
        have : c = 45 := by simpa using m
        subst this
        have := hd 45 (List.mem_cons_self ..)
        omega
  · have e : lw false w = lw true w := by
      unfold lw
      have : bodyL true w = w := by unfold bodyL; simp [m]
      rw [eb, this]
    rw [e, lw_true]
    constructor
    · rintro ⟨a, b⟩
      refine ⟨a, b, ?_⟩
      unfold wIn at a
      split at a
      · cases a
        omega
      · cases a
    · exact fun ⟨a, b, _⟩ => ⟨a, b⟩
end K02

/-! the law's own reader, on. -/
namespace K02
open PySem EF
section
variable {W k : Nat} {ν : Sto}
theorem eqD_nil (l : List D) : eqD (.lst l) (.lst []) = some l.isEmpty := by
  cases l with
  | nil => rfl
  | cons a l =>
    have e : eqD (.lst (a :: l)) (.lst []) = if (a :: l).length = ([] : List D).length then eqZ (eqT 5) (a :: l) [] else some false := rfl
    rw [e, if_neg (by simp)]
    rfl
@[simp] theorem lay_f {ds : List D} (h : ds.length ≤ 16777216) : layL false ds ν = some (.ok (.lst ds), ν) := lay_ok h
theorem filt_nil {α β : Type} {l : List α} {g : α → Option β} (h : ∀ a ∈ l, g a = none) : l.filterMap g = [] := by
  rw [List.filterMap_eq_nil_iff]
  exact h
theorem digit_index {c : Nat} (h : isDig c = true) : mtD ν .index (.str "0123456789") [.str ⟨#[c]⟩] = some (.int ((c - 48 : Nat) : Int)) := by
  obtain ⟨i, hi, rfl⟩ : ∃ i, i < 10 ∧ c = 48 + i := by
    unfold isDig at h
    have : 48 ≤ c ∧ c ≤ 57 := by simpa using h
    exact ⟨c - 48, by omega, by omega⟩
  have key : ∀ i, i < 10 → Builtin.Str.occurrences ("0123456789" : Str) (⟨#[48 + i]⟩ : Str) 0 ("0123456789" : Str).length 1 = [i] := by decide +kernel
  show (match Builtin.Str.occurrences ("0123456789" : Str) (⟨#[48 + i]⟩ : Str) 0 ("0123456789" : Str).length 1 with
      | i :: _ => some (D.int (i : Nat))
      | [] => none) = _
  rw [key i hi]
  simp
theorem wide_ten {n : Nat} (h : n < 10 ^ 1000) : wideOk (n : Int) 10 := by
  unfold wideOk
  have h1 : (n : Int).natAbs.log2 < 4000 := log2_of (Nat.lt_of_lt_of_le (show (n : Int).natAbs < 10 ^ 1000 by omega) (by decide +kernel)) (by decide)
  have h2 : (10 : Int).natAbs.log2 < 10 := log2_of (by decide) (by decide)
  omega
theorem chr_mem {y : Str} {i : Nat} (h : i < (tl y).length) : (chrs y)[i]? = some (.str ⟨#[(tl y)[i]]⟩) := by
  unfold chrs
  rw [List.getElem?_map, show y.cps.toList = tl y from rfl, List.getElem?_eq_getElem h]
  rfl
theorem val_take (l : List Nat) {i : Nat} (h : i < l.length) : NumText.digitsVal (l.take (i + 1)) = NumText.digitsVal (l.take i) * 10 + (l[i] - 48) := by
  unfold NumText.digitsVal
  rw [List.take_succ_eq_append_getElem h, List.foldl_append]
  rfl
theorem c_law_whole {x : Str} {s : Bool} (hl : x.length ≤ 1000) (hW : 2000 < W) : (callP T tb W (k + 1)).1 27 [.str x, .bl s] ν = some (.ok (optI (lw s (tl x))), ν) := by
  rw [run_call (fn := f27) rfl rfl]
  have s1 : ∀ y : Str, y.length ≤ 1000 → sliD false ν (.str y) none (some 1) = some (.str (mkS ((tl y).take 1))) := fun y hy => sli_to (ν := ν) (x := y) (by omega) 1
  have s2 : sliD false ν (.str x) (some 1) none = _ := sli_from (ν := ν) (x := x) (by omega) 1
  have hminus : (mkS ((tl x).take 1) == ("-" : Str)) = decide ((tl x).take 1 = [45]) := by
    rw [beq_str, tl_mkS]
    rfl
  have hzero : ∀ y : Str, (mkS ((tl y).take 1) == ("0" : Str)) = decide ((tl y).take 1 = [48]) := fun y => by
    rw [beq_str, tl_mkS]
    rfl
  have hxz : (x == ("0" : Str)) = decide (tl x = [48]) := by
    rw [beq_str]
    rfl
  have dg : ∀ y : Str, tl y = bodyL s (tl x) → y.length ≤ 1000 → fin ν.length f27.kp (evSs T (callP T tb W k).1 (callP T tb W k).2 ν.length W [some (.str x), some (.bl s), none, some (.str y), some (.int 0)] (match b27 with | .cons _ r => r | .nil => .nil) ν) = some (.ok (optI (lw s (tl x))), ν) := fun y hy hyl => by
    have ly := len_str (x := y) (by omega)
    have hlw : lw s (tl x) = if (1 ≤ (tl y).length ∧ (tl y).length ≤ 20) ∧ (tl y).all isDig = true ∧ ((tl y).take 1 ≠ [48] ∨ tl x = [48]) then
      some (if tl y ≠ tl x then 0 - ((NumText.digitsVal (tl y) : Nat) : Int) else ((NumText.digitsVal (tl y) : Nat) : Int)) else none := by unfold lw; rw [hy]
    have hye : (y == ("" : Str)) = decide (tl y = []) := by rw [beq_str, e0]
    have hyx : (y == x) = decide (tl y = tl x) := beq_str y x
    have so : srcOf ν (.str y) = some (.val (.str y)) := rfl
    by_cases c0 : tl y = []
    · have hn : lw s (tl x) = none := by rw [hlw, if_neg (by rw [c0]; simp)]
      have : (y == ("" : Str)) = true := hye.trans (decide_eq_true c0)
      simp only [b27]
      simp [this, hn, optI]
    · have hy1 : (y == ("" : Str)) = false := hye.trans (decide_eq_false c0)
      by_cases c1 : (tl y).length ≤ 20
      · have hb : loopC (.val (.str y)) (turnE T (callP T tb W k).1 (callP T tb W k).2 ν.length W [some (.str x), some (.bl s), none, some (.str y), some (.int 0)] (.var 2) (.nm 2) (.some (.cmp .notin (.var 2) (.lit (.str "0123456789")))) [2]) W 0 [] ν = some (.ok ((chrs y).filterMap fun d => match d with | .str z => if (tl z).all isDig = true then none else some d | _ => none), ν) := by
          rw [loopC_list (g := fun d => match d with | .str z => if (tl z).all isDig = true then none else some d | _ => none) chrs_at (fun d hd => ?_) (by rw [len_chrs]; omega) (line_le (by rw [len_chrs]; omega))]
          unfold chrs at hd
          obtain ⟨c, _, rfl⟩ := List.mem_map.mp hd
          rw [turnE_ap (env1 := [some (.str x), some (.bl s), some (.str ⟨#[c]⟩), some (.str y), some (.int 0)]) rfl]
          have e2 : cmpD ν .notin (.str ⟨#[c]⟩) (.str "0123456789") = some (!isDig c) := by
            show (some (decide (c ∈ tl "0123456789"))).map (!·) = _
            rw [dig_in]
            rfl
          have e3 : tl (⟨#[c]⟩ : Str) = [c] := rfl
          cases hd : isDig c <;> simp [e2, hd, e3]
        have n1 : decide ((20 : Int) < y.length) = false := decide_eq_false (by rw [len_tl]; omega)
        by_cases c2 : (tl y).all isDig = true
        · have hnil : ((chrs y).filterMap fun d => match d with | .str z => if (tl z).all isDig = true then none else some d | _ => none) = [] := filt_nil fun d hd => by
            unfold chrs at hd
            obtain ⟨c, hc, rfl⟩ := List.mem_map.mp hd
            have e3 : tl (⟨#[c]⟩ : Str) = [c] := rfl
            have := List.all_eq_true.mp c2 c hc
            simp [e3, this]
          rw [hnil] at hb
          have en := eqD_nil []
          by_cases c3 : (tl y).take 1 ≠ [48] ∨ tl x = [48]
          · have h1 : 1 ≤ (tl y).length := List.length_pos_iff.mpr c0
            rw [if_pos ⟨⟨h1, c1⟩, c2, c3⟩] at hlw
            -- the turns
            have lp : ∃ o, loopT T (callP T tb W k).1 (callP T tb W k).2 ν.length W (.nm 2) (.cons (.asg (.nm 4) (.bin .add (.bin .mul (.var 4) (.lit (.int 10))) (.mt false .index (.lit (.str "0123456789")) (.cons (.var 2) .nil)))) .nil) (.val (.str y)) W 0 [some (.str x), some (.bl s), none, some (.str y), some (.int 0)] ν =
                some (.nx [some (.str x), some (.bl s), o, some (.str y), some (.int ((NumText.digitsVal (tl y) : Nat) : Int))], ν) := by
              obtain ⟨env', ν', e, p⟩ := loop_inv (T := T) (F := (callP T tb W k).1) (F1 := (callP T tb W k).2) (n0 := ν.length) (W := W) (t := .nm 2) (b := .cons (.asg (.nm 4) (.bin .add (.bin .mul (.var 4) (.lit (.int 10))) (.mt false .index (.lit (.str "0123456789")) (.cons (.var 2) .nil)))) .nil) (src := .val (.str y)) (n := (tl y).length)
                (fun i env ν' => ν' = ν ∧ ∃ o, env = [some (.str x), some (.bl s), o, some (.str y), some (.int ((NumText.digitsVal ((tl y).take i) : Nat) : Int))])
                (fun i hi env ν' p => by
                  obtain ⟨rfl, o, rfl⟩ := p
                  have hd := List.all_eq_true.mp c2 _ (List.getElem_mem hi)
                  refine ⟨.str ⟨#[(tl y)[i]]⟩, _, _, _, (chrs_at i).trans (congrArg some (chr_mem hi)), rfl, ?_, rfl, some (.str ⟨#[(tl y)[i]]⟩), rfl⟩
                  have hv : NumText.digitsVal ((tl y).take i) < 10 ^ 1000 := by
                    refine Nat.lt_of_lt_of_le (val_lt _ ?_) (Nat.pow_le_pow_right (by decide) ?_)
                    · rw [List.all_eq_true]
                      exact fun c hc => List.all_eq_true.mp c2 c (List.mem_of_mem_take hc)
                    · rw [List.length_take]; omega
                  have w1 := binD_mulI (wide_ten hv)
                  have m1 : mtTy .index (.str "0123456789") = some () := rfl
                  have m2 : mtE ν'.length false .index (.str "0123456789") [.str ⟨#[(tl y)[i]]⟩] ν' = some (.ok (.int (((tl y)[i] - 48 : Nat) : Int)), ν') := by
                    show ((M.look fun ν => mtD ν .index (.str "0123456789") [.str ⟨#[(tl y)[i]]⟩]).bind fun d => mkNew false d) ν' = _
                    rw [bind_ap, look_ap, digit_index hd]
                    rfl
                  rw [val_take _ hi]
                  generalize (tl y)[i] = c at m2
                  generalize NumText.digitsVal ((tl y).take i) = n at w1
                  simp [w1, m1, m2, setAll]) (fun env ν' p => by
                    show some (chrs y)[(tl y).length]? = _
                    rw [List.getElem?_eq_none (by rw [len_chrs, len_tl]; omega)]) (tl y).length 0 W [some (.str x), some (.bl s), none, some (.str y), some (.int 0)] ν (by omega) (by omega) ⟨rfl, none, rfl⟩
              obtain ⟨rfl, o, rfl⟩ := p
              rw [List.take_length] at e
              exact ⟨o, e⟩
            obtain ⟨o, lp⟩ := lp
            simp only [b27] 
            have z := hzero y
            have z1 := s1 y hyl
            rw [hlw]
            by_cases c4 : (tl y).take 1 = [48]
            · have c5 : tl x = [48] := by
                rcases c3 with c3 | c3
                · exact absurd c4 c3
                · exact c3
              rw [decide_eq_true c4] at z
              rw [decide_eq_true c5] at hxz
              by_cases c6 : tl y = tl x
              · rw [decide_eq_true c6] at hyx
                rw [c6] at z z1 lp
                simp [hy1, ly, n1, so, hb, en, z1, z, hxz, lp, hyx, optI, c6]
              · rw [decide_eq_false c6] at hyx
                simp [hy1, ly, n1, so, hb, en, z1, z, hxz, lp, hyx, optI, c6]
            · rw [decide_eq_false c4] at z
              by_cases c6 : tl y = tl x
              · rw [decide_eq_true c6] at hyx
                rw [c6] at z z1 lp
                simp [hy1, ly, n1, so, hb, en, z1, z, lp, hyx, optI, c6]
              · rw [decide_eq_false c6] at hyx
                simp [hy1, ly, n1, so, hb, en, z1, z, lp, hyx, optI, c6]
          · have hn : lw s (tl x) = none := by rw [hlw, if_neg fun q => c3 q.2.2]
            have c4 : (tl y).take 1 = [48] := Classical.byContradiction fun q => c3 (Or.inl q)
            have c5 : tl x ≠ [48] := fun q => c3 (Or.inr q)
            have z := hzero y
            have z1 := s1 y hyl
            rw [decide_eq_true c4] at z
            rw [decide_eq_false c5] at hxz
            simp only [b27]
            simp [hy1, ly, n1, so, hb, en, z1, z, hxz, hn, optI]
        · have hn : lw s (tl x) = none := by rw [hlw, if_neg fun q => c2 q.2.1]
          have hne : ((chrs y).filterMap fun d => match d with | .str z => if (tl z).all isDig = true then none else some d | _ => none).isEmpty = false := by
            rw [List.isEmpty_eq_false_iff]
            intro q
            rw [List.filterMap_eq_nil_iff] at q
            apply c2
            rw [List.all_eq_true]
            intro c hc
            have := q (.str ⟨#[c]⟩) (List.mem_map.mpr ⟨c, hc, rfl⟩)
            have e3 : tl (⟨#[c]⟩ : Str) = [c] := rfl
            cases h : isDig c
            · simp [e3, h] at this
            · rfl
          have en := eqD_nil ((chrs y).filterMap fun d => match d with | .str z => if (tl z).all isDig = true then none else some d | _ => none)
          rw [hne] at en
          generalize ((chrs y).filterMap fun d => match d with | .str z => if (tl z).all isDig = true then none else some d | _ => none) = l at en hb
          simp only [b27]
          simp [hy1, ly, n1, so, hb, en, hn, optI]
      · have hn : lw s (tl x) = none := by rw [hlw, if_neg fun q => c1 q.1.2]
        have n1 : decide ((20 : Int) < y.length) = true := decide_eq_true (by rw [len_tl]; omega)
        simp only [b27]
        simp [hy1, ly, n1, hn, optI]
  simp only [b27] at dg
  cases s with
  | false =>
    have z := dg x (by unfold bodyL; simp) hl
    simp [f27, b27, startE, setAll] at z ⊢
    exact z
  | true =>
    by_cases c : (tl x).take 1 = [45]
    · have z := dg (mkS ((tl x).drop 1)) (by rw [tl_mkS]; unfold bodyL; simp [c]) (by rw [len_tl, tl_mkS, List.length_drop, ← len_tl]; omega)
      have hm : (mkS ((tl x).take 1) == ("-" : Str)) = true := hminus.trans (decide_eq_true c)
      have z1 := s1 x hl
      simp [f27, b27, startE, setAll, z1, s2, hm] at z ⊢
      exact z
    · have z := dg x (by unfold bodyL; simp [c]) hl
      have hm : (mkS ((tl x).take 1) == ("-" : Str)) = false := hminus.trans (decide_eq_false c)
      have z1 := s1 x hl
      simp [f27, b27, startE, setAll, z1, s2, hm] at z ⊢
      exact z
end
end K02

/-! the law's own reader and the program's are one. -/
namespace K02
open PySem EF
/-! ### plain -/
def lr (w : List Nat) : Option (Int × Int) := match cutS w with
  | (a, none) => (lw true a).map fun t => (t, 1)
  | (a, some b) => if 47 ∈ b then none else match lw true a, lw false b with
    | some t, some d => if d < 2 ∨ t = 0 ∨ ¬ (lt t d = t ∧ lb t d = d) then none else some (t, d)
    | _, _ => none
theorem numZ_free (i : Int) : 47 ∉ numZ i := by
  unfold numZ
  split
  · intro h
    rcases List.mem_cons.mp h with h | h
    · cases h
    · exact TL.numL_free (Or.inl (by decide)) h
  · exact TL.numL_free (Or.inl (by decide))
theorem cut_of {a b : List Nat} (h : 47 ∉ a) : cutS (a ++ 47 :: b) = (a, some b) := by
  induction a with
  | nil => rfl
  | cons c r ih =>
    have hc : ¬ c = 47 := fun z => h (by rw [z]; exact List.mem_cons_self ..)
    have := ih fun z => h (List.mem_cons_of_mem _ z)
    show (if c = 47 then ([], some (r ++ 47 :: b)) else (c :: (cutS (r ++ 47 :: b)).1, (cutS (r ++ 47 :: b)).2)) = _
    rw [if_neg hc, this]
theorem cut_none {a : List Nat} (h : 47 ∉ a) : cutS a = (a, none) := by
  induction a with
  | nil => rfl
  | cons c r ih =>
    have hc : ¬ c = 47 := fun z => h (by rw [z]; exact List.mem_cons_self ..)
    have := ih fun z => h (List.mem_cons_of_mem _ z)
    show (if c = 47 then _ else _) = _
    rw [if_neg hc, this]
theorem tl_numT (t b : Int) : tl (numT t b) = if b = 1 then numZ t else numZ t ++ 47 :: numZ b := by
  unfold numT
  by_cases c : b = 1
  · rw [if_pos c, if_pos c, tl_strI]
  · rw [if_neg c, if_neg c, tl_app, tl_app, tl_app, tl_strI, tl_strI, tl_slash]
    show ([] ++ numZ t ++ [47]) ++ _ = _
    simp
theorem isDig_lt {c : Nat} (h : 48 ≤ c ∧ c ≤ 57) : isDig c = true := by
  unfold isDig
  simp [h.1, h.2]
theorem all_of {l : List Nat} (h : NumText.AllDigits l) : l.all isDig = true := by
  rw [List.all_eq_true]
  exact fun c hc => isDig_lt (h c hc)
/-- the writing of a small integer is read back -/
theorem wIn_num {i : Int} (h : i.natAbs < 10 ^ 20) : wIn (numZ i) = some i := by
  have h1 := all_of (TL.numL_digits i.natAbs)
  have h2 : (TL.numL i.natAbs).length ≤ 20 := TL.numL_len (by decide) h
  have h3 : 1 ≤ (TL.numL i.natAbs).length := List.length_pos_iff.mpr (TL.numL_ne _)
  unfold numZ
  by_cases c : i < 0
  · rw [if_pos c]
    unfold wIn
    have e : digs (45 :: TL.numL i.natAbs) = TL.numL i.natAbs := if_pos rfl
    rw [e, if_pos ⟨⟨h3, h2⟩, h1⟩, if_pos (show List.take 1 (45 :: TL.numL i.natAbs) = [45] from rfl), TL.numL_val]
    congr 1
    omega
  · rw [if_neg c]
    have m : ¬ (TL.numL i.natAbs).take 1 = [45] := by
      intro m
      have hd := TL.numL_digits i.natAbs
      cases hq : TL.numL i.natAbs with
      | nil => exact TL.numL_ne _ hq
      | cons d r =>
        rw [hq] at m hd
        have : d = 45 := by simpa using m
        subst this
        have := hd 45 (List.mem_cons_self ..)
        omega
    unfold wIn
    have e : digs (TL.numL i.natAbs) = TL.numL i.natAbs := if_neg m
    rw [e, if_pos ⟨⟨h3, h2⟩, h1⟩, if_neg m, TL.numL_val]
    congr 1
    omega
theorem wIn_free {w : List Nat} {i : Int} (h : wIn w = some i) : 47 ∉ w := by
  intro m
  unfold wIn at h
  split at h
  · next hc =>
    have hd := List.all_eq_true.mp hc.2
    unfold digs at hd
    split at hd
    · next z =>
      have ew := List.take_append_drop 1 w
      rw [z] at ew
      rw [← ew] at m
      rcases List.mem_append.mp m with m | m
      · simp at m
      · have := hd 47 m
        simp [isDig] at this
    · have := hd 47 m
      simp [isDig] at this
  · cases h
theorem lt_zero (d : Int) (h : d ≠ 0) : lb 0 d = 1 := by
  rw [lb_one h]
  unfold part gc
  simp
  split <;> omega
theorem lr_eq (w : List Nat) : lr w = rd w := by
  rcases hc : cutS w with ⟨a, _ | b⟩
  · obtain ⟨e1, e2⟩ := cutS_none hc
    subst e1
    have e3 : lr a = (lw true a).map fun t => (t, 1) := by unfold lr; rw [hc]
    have e4 : nIn a = (wIn a).map fun t => (t, 1) := by unfold nIn; rw [hc]
    rw [e3]
    unfold rd
    rw [e4]
    cases h : wIn a with
    | none =>
      have : lw true a = none := by
        cases h2 : lw true a with
        | none => rfl
        | some t => have := (lw_true.mp h2).1; rw [h] at this; cases this
      rw [this]
      rfl
    | some t =>
      show _ = if tl (numT t 1) = a then some (t, 1) else none
      rw [tl_numT, if_pos rfl]
      by_cases z : numZ t = a
      · rw [if_pos z, lw_true.mpr ⟨h, z⟩]
        rfl
      · rw [if_neg z]
        have : lw true a = none := by
          cases h2 : lw true a with
          | none => rfl
          | some t' =>
            have q := lw_true.mp h2
            rw [h] at q
            have := Option.some.inj q.1
            subst this
            exact absurd q.2 z
        rw [this]
        rfl
  · obtain ⟨e1, e2⟩ := cutS_some hc
    have e3 : lr w = if 47 ∈ b then none else (match lw true a, lw false b with
      | some t, some d => if d < 2 ∨ t = 0 ∨ ¬ (lt t d = t ∧ lb t d = d) then none else some (t, d)
      | _, _ => none) := by unfold lr; rw [hc]
    have e4 : nIn w = (match wIn a, wIn b with
      | some t, some d => if d = 0 then none else some (lt t d, lb t d)
      | _, _ => none) := by
      unfold nIn
      rw [hc]
      try (cases wIn a <;> cases wIn b <;> rfl)
    -- what both ask
    have key : ∀ p : Int × Int, lr w = some p ↔ rd w = some p := fun p => by
      obtain ⟨t, d⟩ := p
      constructor
      · intro h
        rw [e3] at h
        split at h
        · cases h
        · next hb =>
          split at h
          · next t' d' q1 q2 =>
            split at h
            · cases h
            · next hn =>
              cases h
              have r1 := lw_true.mp q1
              have r2 := lw_false.mp q2
              have hd : ¬ d < 2 := fun z => hn (Or.inl z)
              have ht : ¬ t = 0 := fun z => hn (Or.inr (Or.inl z))
              have hl : lt t d = t ∧ lb t d = d := Classical.byContradiction fun z => hn (Or.inr (Or.inr z))
              have e5 : nIn w = some (t, d) := by
                rw [e4, r1.1, r2.1]
                show (if d = 0 then none else some (lt t d, lb t d)) = _
                rw [if_neg (by omega), hl.1, hl.2]
              have hT : tl (numT t d) = w := by rw [tl_numT, if_neg (show ¬ d = 1 by omega), e1, r1.2, r2.2.1]
              unfold rd
              rw [e5]
              exact if_pos hT
          · cases h
      · intro h
        unfold rd at h
        split at h
        · next t' d' q =>
          split at h
          · next hw =>
            cases h
            have hlt := nIn_lt q
            rw [tl_numT] at hw
            by_cases c : d = 1
            · rw [if_pos c] at hw
              exfalso
              have := numZ_free t
              rw [hw, e1] at this
              exact this (List.mem_append_right _ (List.mem_cons_self ..))
            · rw [if_neg c] at hw
              have c1 := cut_of (a := numZ t) (b := numZ d) (numZ_free t)
              rw [hw, hc] at c1
              cases c1
              have w1 := wIn_num hlt.1
              have w2 := wIn_num hlt.2.1
              rw [w1, w2] at e4
              have e5 : nIn w = if d = 0 then none else some (lt t d, lb t d) := e4
              rw [if_neg (by omega), q] at e5
              have e6 := Option.some.inj e5
              have e7 : t = lt t d := congrArg Prod.fst e6
              have e8 : d = lb t d := congrArg Prod.snd e6
              have ht : ¬ t = 0 := by
                intro z
                subst z
                have := lt_zero d (by omega)
                omega
              have f1 := lw_true.mpr ⟨w1, rfl⟩
              have f2 : lw false (numZ d) = some d := lw_false.mpr ⟨w2, rfl, by omega⟩
              rw [e3, if_neg (numZ_free d), f1, f2]
              show (if d < 2 ∨ t = 0 ∨ ¬ (lt t d = t ∧ lb t d = d) then none else some (t, d)) = _
              rw [if_neg]
              rintro (z | z | z)
              · omega
              · exact ht z
              · exact z ⟨e7.symm, e8.symm⟩
          · cases h
        · cases h
    cases h1 : lr w with
    | some p => exact ((key p).mp h1).symm
    | none =>
      cases h2 : rd w with
      | none => rfl
      | some p => rw [(key p).mpr h2] at h1; cases h1
/-! ### _law_read -/
section
variable {W k : Nat} {ν : Sto}
def optP : Option (Int × Int) → D
  | some (t, b) => .tup [.int t, .int b]
  | none => .non
theorem split_is {x : Str} : (Txt.split x "/").map tl = TL.spl [47] 0 [] (tl x) := by
  have := TL.split_spl x "/" (by rw [show TL.tl ("/" : Str) = tl "/" from rfl, tl_slash]; simp) (TL.kind_ok (by decide +kernel))
  rw [show TL.tl ("/" : Str) = [47] from tl_slash] at this
  exact this
theorem split_mk {x : Str} {l : List (List Nat)} (h : TL.spl [47] 0 [] (tl x) = l) : (Txt.split x "/").map D.str = l.map fun w => .str (mkS w) := by
  rw [← h, ← split_is, List.map_map]
  refine congrArg (fun f => (Txt.split x "/").map f) (funext fun y => ?_)
  show _ = D.str (mkS (tl y))
  rw [mkS_tl]
theorem spl_ne (l acc : List Nat) : ∃ a r, TL.spl [47] 0 acc l = a :: r := by
  rcases hc : cutS l with ⟨a, _ | b⟩
  · obtain ⟨e1, e2⟩ := cutS_none hc
    subst e1
    exact ⟨_, _, TL.spl_last1 e2⟩
  · obtain ⟨e1, e2⟩ := cutS_some hc
    rw [e1]
    exact ⟨_, _, TL.spl_part1 (S := []) (rest := b) e2⟩
theorem eqD_pair {a b c d : Int} : eqD (.tup [.int a, .int b]) (.tup [.int c, .int d]) = some (decide (a = c ∧ b = d)) := by
  by_cases h1 : a = c <;> by_cases h2 : b = d <;> simp [eqD, eqT, eqZ, h1, h2]
theorem c_law_read {x : Str} (hl : x.length ≤ 1000) (hW : 10 ^ 400 < W) : (callP T tb W (k + 2)).1 28 [.str x] ν = some (.ok (optP (lr (tl x))), ν) := by
  rw [run_call (fn := f28) rfl rfl]
  have hW2 : 2000 < W := Nat.lt_trans (by decide +kernel) hW
  have isi : isiD (.str x) [.ty 2] = some true := rfl
  have ty : mtTy .split (.str x) = some () := rfl
  have sp : ∀ l : List (List Nat), TL.spl [47] 0 [] (tl x) = l → mtE ν.length false .split (.str x) [.str "/"] ν = some (.ok (.lst (l.map fun w => .str (mkS w))), ν) := fun l h => by
    have e : mtD ν .split (.str x) [.str "/"] = some (.lst (l.map fun w => .str (mkS w))) := by
      unfold mtD
      simp only
      rw [if_pos ⟨by decide +kernel, line_le (by omega)⟩, split_mk h]
    show ((M.look fun ν => mtD ν .split (.str x) [.str "/"]).bind fun d => mkNew false d) ν = _
    rw [bind_ap, look_ap, e]
    rfl
  have lm : ∀ l : List Nat, (mkS l).length = l.length := fun l => by rw [len_tl, tl_mkS]
  rcases hc : cutS (tl x) with ⟨a, _ | b⟩
  · obtain ⟨e1, e2⟩ := cutS_none hc
    have e3 : lr (tl x) = (lw true a).map fun t => (t, 1) := by unfold lr; rw [hc]
    have z := sp [tl x] (by rw [TL.spl_last1 e2]; rfl)
    have w1 := c_law_whole (W := W) (k := k) (ν := ν) (s := true) hl hW2
    rw [e1] at e3
    rw [List.map_cons, List.map_nil, mkS_tl] at z
    rw [e3]
    cases h : lw true (tl x) with
    | none =>
      rw [h] at w1
      simp [f28, b28, startE, isi, ty, z, il0, w1, optI, optP, isNonD]
    | some t =>
      rw [h] at w1
      simp [f28, b28, startE, isi, ty, z, il0, w1, optI, optP, isNonD]
  · obtain ⟨e1, e2⟩ := cutS_some hc
    have e3 : lr (tl x) = if 47 ∈ b then none else (match lw true a, lw false b with
      | some t, some d => if d < 2 ∨ t = 0 ∨ ¬ (lt t d = t ∧ lb t d = d) then none else some (t, d)
      | _, _ => none) := by unfold lr; rw [hc]
    have la : (mkS a).length ≤ 1000 := by
      rw [lm]
      rw [len_tl, e1, List.length_append] at hl
      omega
    have lb' : (mkS b).length ≤ 1000 := by
      rw [lm]
      rw [len_tl, e1, List.length_append, List.length_cons] at hl
      omega
    have w1 := c_law_whole (W := W) (k := k) (ν := ν) (s := true) la hW2
    have w2 := c_law_whole (W := W) (k := k) (ν := ν) (s := false) lb' hW2
    rw [tl_mkS] at w1 w2
    have sp1 : TL.spl [47] 0 [] (tl x) = a :: TL.spl [47] 0 [] b := by
      rw [e1]
      exact TL.spl_part1 (S := []) (rest := b) e2
    by_cases hb : 47 ∈ b
    · rw [if_pos hb] at e3
      rcases hc2 : cutS b with ⟨b1, _ | b2⟩
      · obtain ⟨q1, q2⟩ := cutS_none hc2
        exact absurd hb q2
      · obtain ⟨q1, q2⟩ := cutS_some hc2
        obtain ⟨b3, r, q3⟩ := spl_ne b2 []
        have sp2 : TL.spl [47] 0 [] b = b1 :: TL.spl [47] 0 [] b2 := by
          rw [q1]
          exact TL.spl_part1 (S := []) (rest := b2) q2
        have z := sp (a :: b1 :: b3 :: r) (by rw [sp1, sp2, q3])
        rw [List.map_cons, List.map_cons, List.map_cons] at z
        have n1 : (2 : Int) < ((r.length : Nat) : Int) + 1 + 1 + 1 := by omega
        rw [e3]
        cases h : lw true a with
        | none =>
          rw [h] at w1
          simp [f28, b28, startE, isi, ty, z, il0, w1, optI, optP, isNonD]
        | some t =>
          rw [h] at w1
          simp [f28, b28, startE, isi, ty, z, il0, w1, optI, optP, isNonD, n1]
    · rw [if_neg hb] at e3
      have z := sp [a, b] (by rw [sp1, TL.spl_last1 hb]; rfl)
      rw [List.map_cons, List.map_cons, List.map_nil] at z
      cases h : lw true a with
      | none =>
        rw [h] at w1 e3
        have e3 : lr (tl x) = none := e3
        rw [e3]
        simp [f28, b28, startE, isi, ty, z, il0, w1, optI, optP, isNonD]
      | some t =>
        rw [h] at w1
        cases h2 : lw false b with
        | none =>
          rw [h, h2] at e3
          rw [h2] at w2
          have e3 : lr (tl x) = none := e3
          rw [e3]
          simp [f28, b28, startE, isi, ty, z, il0, il1, w1, w2, optI, optP, isNonD]
        | some d =>
          rw [h, h2] at e3
          rw [h2] at w2
          have e3 : lr (tl x) = if d < 2 ∨ t = 0 ∨ ¬ (lt t d = t ∧ lb t d = d) then none else some (t, d) := e3
          rw [e3]
          have hdl := wIn_lt (lw_false.mp h2).1
          by_cases c1 : d < 2
          · rw [if_pos (Or.inl c1)]
            simp [f28, b28, startE, isi, ty, z, il0, il1, w1, w2, optI, optP, isNonD, c1]
          · by_cases c2 : t = 0
            · rw [if_pos (Or.inr (Or.inl c2))]
              subst c2
              simp [f28, b28, startE, isi, ty, z, il0, il1, w1, w2, optI, optP, isNonD, c1]
            · have c2' : (t == 0) = false := by simpa using c2
              have lo := c_low (W := W) (k := k) (ν := ν) (t := t) (b := d) (by omega) (Nat.lt_trans hdl (by decide +kernel)) (Nat.lt_trans hdl (Nat.lt_trans (by decide +kernel) hW))
              by_cases c3 : lt t d = t ∧ lb t d = d
              · rw [if_neg (by rintro (q | q | q); exact c1 q; exact c2 q; exact q c3)]
                have ep := eqD_pair (a := lt t d) (b := lb t d) (c := t) (d := d)
                rw [decide_eq_true c3] at ep
                simp [f28, b28, startE, isi, ty, z, il0, il1, w1, w2, optI, optP, isNonD, c1, c2', lo, ep]
              · rw [if_pos (Or.inr (Or.inr c3))]
                have ep := eqD_pair (a := lt t d) (b := lb t d) (c := t) (d := d)
                rw [decide_eq_false c3] at ep
                simp [f28, b28, startE, isi, ty, z, il0, il1, w1, w2, optI, optP, isNonD, c1, c2', lo, ep]
theorem c_law_read_bad {v : D} (h : isiD (un ν v) [.ty 2] = some false) : (callP T tb W (k + 1)).1 28 [v] ν = some (.ok .non, ν) := by
  rw [run_call (fn := f28) rfl rfl]
  simp [f28, b28, startE, h]
end
end K02

/-! likeness by kinds. -/
namespace K02
open PySem EF
section
variable {W k : Nat} {ν : Sto}
theorem rng_n {c : Nat} (h : c ≤ 1000) : rng1 (some (.ok [.int (c : Int)], ν)) = some (.ok (.rng 0 c), ν) := by
  rw [rng1_0, rng0 h]
theorem non_un {v d : D} (h : un ν v = d) (hd : isNonD d = false) : isNonD v = false := by
  cases v <;> first | rfl | (subst h; exact hd)
theorem skip {F F1 : Nat → List D → M D} {n0 : Nat} {env env' : EF.Env} {ν' : Sto} {b r : EF.Ss} {s : EF.S} (hb : b = .cons s r) (hs : evS T F F1 n0 W env s ν = some (.nx env', ν')) : evSs T F F1 n0 W env b ν = evSs T F F1 n0 W env' r ν' := by
  subst hb
  simp [hs]
theorem c_is {n : Int} : (callP T tb W (k + 1)).1 20 [.int n, .int n] ν = some (.ok (.bl true), ν) := by
  rw [run_call (fn := f20) rfl rfl]
  simp [f20, b20, startE, isiD, isi1, tyOf]
theorem c_like_non : (callP T tb W (k + 2)).1 21 [.non, .non] ν = some (.ok (.bl true), ν) := by
  rw [run_call (fn := f21) rfl rfl]
  simp [f21, b21, startE, isiD, isi1, tyOf, isNonD]
theorem c_like_bl {b : Bool} : (callP T tb W (k + 2)).1 21 [.bl b, .bl b] ν = some (.ok (.bl true), ν) := by
  rw [run_call (fn := f21) rfl rfl]
  cases b <;> simp [f21, b21, startE, isiD, isi1, tyOf, isNonD, isBlD]
theorem c_like_int {n : Int} : (callP T tb W (k + 2)).1 21 [.int n, .int n] ν = some (.ok (.bl true), ν) := by
  rw [run_call (fn := f21) rfl rfl]
  simp [f21, b21, startE, isiD, isi1, tyOf, isNonD, c_is]
theorem c_like_rat {t b : Int} : (callP T tb W (k + 2)).1 21 [ratD t b, ratD t b] ν = some (.ok (.bl true), ν) := by
  rw [run_call (fn := f21) rfl rfl]
  simp [f21, b21, startE, isiD, isi1, tyOf, isNonD, c_is, ratD, fldAt]
theorem c_like_due {t b : Int} : (callP T tb W (k + 2)).1 21 [ratD t b, .tup [.str "/", .int t, .int b]] ν = some (.ok (.bl true), ν) := by
  rw [run_call (fn := f21) rfl rfl]
  simp [f21, b21, startE, isiD, isi1, tyOf, isNonD, c_is, ratD, fldAt, ix0, ix1, ix2]
theorem chr_at {x : Str} {i : Nat} (hx : x.length ≤ 16777216) (h : i < (tl x).length) : idxD ν (.str x) (.int (i : Int)) = some (.str ⟨#[(tl x)[i]]⟩) := by
  unfold idxD
  simp only [un_str']
  have h' : i < x.cps.toList.length := h
  rw [if_pos (line_le hx), ixN_nat h']
  show Option.map _ (x.cps.toList[i]?) = _
  rw [List.getElem?_eq_getElem h']
  rfl
theorem sli_one {x : Str} {i : Nat} (hx : x.length ≤ 16777216) (h : i < (tl x).length) : sliD false ν (.str x) (some (i : Int)) (some ((i : Int) + 1)) = some (.str ⟨#[(tl x)[i]]⟩) := by
  unfold sliD
  simp only [un_str']
  rw [if_pos ⟨trivial, line_le hx⟩]
  congr 2
  rw [str_eq]
  have h' : i < x.cps.toList.length := h
  have e : cutL x.cps.toList (some (i : Int)) (some ((i : Int) + 1)) = [x.cps.toList[i]] := by
    unfold cutL
    have e1 : HT.sIx x.cps.toList.length 0 (some (i : Int)) = min i x.cps.toList.length := HT.sIx_nat _ _ _
    have e2 : HT.sIx x.cps.toList.length x.cps.toList.length (some ((i : Int) + 1)) = min (i + 1) x.cps.toList.length := HT.sIx_nat _ _ (i + 1)
    rw [e1, e2, Nat.min_eq_left (by omega), Nat.min_eq_left (by omega)]
    have : i + 1 - i = 1 := by omega
    rw [this, List.drop_eq_getElem_cons h']
    rfl
  rw [e]
theorem c_like_str {x : Str} (hx : x.length ≤ 1000) (hW : 2000 < W) : (callP T tb W (k + 2)).1 21 [.str x, .str x] ν = some (.ok (.bl true), ν) := by
  rw [run_call (fn := f21) rfl rfl]
  have lx := len_str (x := x) (by omega)
  have rg := rng_n (ν := ν) (c := x.length) hx
  have hb : loopC (.rng 0 x.length) (turnE T (callP T tb W (k + 1)).1 (callP T tb W (k + 1)).2 ν.length W [some (.str x), some (.str x), none, none] (.var 2) (.nm 2) (.some (.cmp .ne (.sli false (.var 0) (.some (.var 2)) (.some (.bin .add (.var 2) (.lit (.int 1))))) (.idx (.var 1) (.var 2)))) [2]) W 0 [] ν = some (.ok [], ν) := by
    rw [loopC_map (n := x.length) (g := fun _ => none) (fun i hi => ⟨_, srcN_rng hi, ?_⟩) srcN_end x.length 0 W [] (by omega) (by omega) (line_le (by simp; omega))]
    · simp
    · have hi' : i < (tl x).length := by rw [← len_tl]; exact hi
      rw [turnE_ap (env1 := [some (.str x), some (.str x), some (.int (i : Nat)), none]) rfl]
      have s1 := sli_one (ν := ν) (x := x) (by omega) hi'
      have s2 := chr_at (ν := ν) (x := x) (by omega) hi'
      generalize (tl x)[i] = c at s1 s2
      simp [s1, s2]
  have en := eqD_nil []
  simp at hb
  show fin ν.length f21.kp (evSs T (callP T tb W (k + 1)).1 (callP T tb W (k + 1)).2 ν.length W [some (.str x), some (.str x), none, none] b21 ν) = _
  rw [skip (b := b21) (env' := [some (.str x), some (.str x), none, none]) (ν' := ν) rfl (by simp [isiD, isi1, tyOf, isNonD])]
  rw [skip (env' := [some (.str x), some (.str x), none, none]) (ν' := ν) rfl (by simp [isiD, isi1, tyOf, isNonD])]
  simp [-rng1_0, isiD, isi1, tyOf, isNonD, lx, rg, hb, en]
theorem idx_un {v : D} {xs : List D} {i : Int} (h : un ν v = .lst xs) : idxD ν v (.int i) = (L2.ixN xs.length i).bind fun j => xs[j]? := by
  unfold idxD
  rw [h]
theorem idx_unT {v : D} {xs : List D} {i : Int} (h : un ν v = .tup xs) : idxD ν v (.int i) = (L2.ixN xs.length i).bind fun j => xs[j]? := by
  unfold idxD
  rw [h]
def likes (W k : Nat) (ν : Sto) (a b : D) : Prop := (callP T tb W k).1 21 [a, b] ν = some (.ok (.bl true), ν)
theorem seq_comp {v u : D} {n : Nat} (hl : n ≤ 1000) (hW : 2000 < W) (he : ∀ i, i < n → ∃ a b, idxD ν v (.int (i : Nat)) = some a ∧ idxD ν u (.int (i : Nat)) = some b ∧ likes W k ν a b) :
    loopC (.rng 0 n) (turnE T (callP T tb W k).1 (callP T tb W k).2 ν.length W [some v, some u, none, none] (.var 2) (.nm 2) (.some (.not (.call 21 (.cons (.idx (.var 0) (.var 2)) (.cons (.idx (.var 1) (.var 2)) .nil))))) [2]) W 0 [] ν = some (.ok [], ν) := by
  rw [loopC_map (n := n) (g := fun _ => none) (fun i hi => ⟨_, srcN_rng hi, ?_⟩) srcN_end n 0 W [] (by omega) (by omega) (line_le (by simp; omega))]
  · simp
  · rw [turnE_ap (env1 := [some v, some u, some (.int (i : Nat)), none]) rfl]
    obtain ⟨a, b, h1, h2, h3⟩ := he i hi
    unfold likes at h3
    simp [h1, h2, h3]
theorem c_like_lst {v u : D} {xs ys : List D} (hv : un ν v = .lst xs) (hu : un ν u = .lst ys) (hlen : xs.length = ys.length) (hl : ys.length ≤ 1000) (hW : 2000 < W)
    (he : ∀ (i : Nat) (a b : D), xs[i]? = some a → ys[i]? = some b → likes W k ν a b) : likes W (k + 1) ν v u := by
  unfold likes
  rw [run_call (fn := f21) rfl rfl]
  have rg := rng_n (ν := ν) (c := ys.length) hl
  have n1 := non_un hu rfl
  have hb := seq_comp (ν := ν) (W := W) (k := k) (v := v) (u := u) (n := ys.length) hl hW (fun i hi => ⟨xs[i], ys[i], by rw [idx_un hv, ixN_nat (by omega)]; exact List.getElem?_eq_getElem (by omega), by rw [idx_un hu, ixN_nat hi]; exact List.getElem?_eq_getElem hi, he i _ _ (List.getElem?_eq_getElem _) (List.getElem?_eq_getElem _)⟩)
  have en := eqD_nil []
  show fin ν.length f21.kp (evSs T (callP T tb W k).1 (callP T tb W k).2 ν.length W [some v, some u, none, none] b21 ν) = _
  rw [skip (b := b21) (env' := [some v, some u, none, none]) (ν' := ν) rfl (by simp [isiD, isi1, tyOf, n1, hv, hu])]
  rw [skip (env' := [some v, some u, none, none]) (ν' := ν) rfl (by simp [isiD, isi1, tyOf, n1, hv, hu])]
  rw [skip (env' := [some v, some u, none, none]) (ν' := ν) rfl (by simp [isiD, isi1, tyOf, n1, hv, hu])]
  rw [skip (env' := [some v, some u, none, none]) (ν' := ν) rfl (by simp [isiD, isi1, tyOf, n1, hv, hu])]
  rw [skip (env' := [some v, some u, none, none]) (ν' := ν) rfl (by simp [isiD, isi1, tyOf, n1, hv, hu])]
  rw [skip (env' := [some v, some u, none, none]) (ν' := ν) rfl (by simp [isiD, isi1, tyOf, n1, hv, hu])]
  rw [skip (env' := [some v, some u, none, none]) (ν' := ν) rfl (by simp [isiD, isi1, tyOf, n1, hv, hu])]
  simp [-rng1_0, hv, hu, hlen, rg, hb, en]
theorem c_like_tup {xs ys : List D} (hlen : xs.length = ys.length) (hl : ys.length < 3) (hW : 2000 < W)
    (he : ∀ (i : Nat) (a b : D), xs[i]? = some a → ys[i]? = some b → likes W k ν a b) : likes W (k + 1) ν (.tup xs) (.tup ys) := by
  unfold likes
  rw [run_call (fn := f21) rfl rfl]
  have rg := rng_n (ν := ν) (c := ys.length) (by omega)
  have hv : un ν (.tup xs) = .tup xs := rfl
  have hu : un ν (.tup ys) = .tup ys := rfl
  have hb := seq_comp (ν := ν) (W := W) (k := k) (v := .tup xs) (u := .tup ys) (n := ys.length) (by omega) hW (fun i hi => ⟨xs[i], ys[i], by rw [idx_unT hv, ixN_nat (by omega)]; exact List.getElem?_eq_getElem (by omega), by rw [idx_unT hu, ixN_nat hi]; exact List.getElem?_eq_getElem hi, he i _ _ (List.getElem?_eq_getElem _) (List.getElem?_eq_getElem _)⟩)
  have en := eqD_nil []
  have n3 : ((ys.length : Int) == 3) = false := by rw [beq_eq_false_iff_ne]; omega
  show fin ν.length f21.kp (evSs T (callP T tb W k).1 (callP T tb W k).2 ν.length W [some (.tup xs), some (.tup ys), none, none] b21 ν) = _
  rw [skip (b := b21) (env' := [some (.tup xs), some (.tup ys), none, none]) (ν' := ν) rfl (by simp [isiD, isi1, tyOf, isNonD, n3])]
  rw [skip (env' := [some (.tup xs), some (.tup ys), none, none]) (ν' := ν) rfl (by simp [isiD, isi1, tyOf, isNonD, n3])]
  rw [skip (env' := [some (.tup xs), some (.tup ys), none, none]) (ν' := ν) rfl (by simp [isiD, isi1, tyOf, isNonD, n3])]
  rw [skip (env' := [some (.tup xs), some (.tup ys), none, none]) (ν' := ν) rfl (by simp [isiD, isi1, tyOf, isNonD, n3])]
  rw [skip (env' := [some (.tup xs), some (.tup ys), none, none]) (ν' := ν) rfl (by simp [isiD, isi1, tyOf, isNonD, n3])]
  rw [skip (env' := [some (.tup xs), some (.tup ys), none, none]) (ν' := ν) rfl (by simp [isiD, isi1, tyOf, isNonD, n3])]
  rw [skip (env' := [some (.tup xs), some (.tup ys), none, none]) (ν' := ν) rfl (by simp [isiD, isi1, tyOf, isNonD, n3])]
  simp [-rng1_0, hlen, rg, hb, en]
inductive _root_.EF.Two {α β : Type} (R : α → β → Prop) : List α → List β → Prop
  | nil : Two R [] []
  | cons {a b l r} : R a b → Two R l r → Two R (a :: l) (b :: r)
/-- a list under way, alike itself: values alone -/
theorem likes_all {xs ys : List D} (h : EF.Two (likes W k ν) xs ys) : ∀ (i : Nat) (a b : D), xs[i]? = some a → ys[i]? = some b → likes W k ν a b := by
  induction h with
  | nil => intro i a b h; simp at h
  | cons h1 _ ih =>
    intro i a b ha hb
    cases i with
    | zero =>
      simp at ha hb
      subst ha; subst hb
      exact h1
    | succ i =>
      simp at ha hb
      exact ih i a b ha hb
end
end K02

/-! copies, what is kept, what is told. -/
namespace K02
open PySem EF
section
variable {W k : Nat} {ν : Sto}
/-! ### dicts are alike themselves -/
theorem mapM_keys (xs : List Str) : (xs.map fun x => DK.one (.inr x)).mapM keyD = some (xs.map D.str) := by
  induction xs with
  | nil => rfl
  | cons x xs ih =>
    rw [List.map_cons, List.mapM_cons, ih]
    rfl
theorem un_wlk {n : Nat} {ks : List DK} {vs : List D} (h : n < ν.length) : un (ν.set n (.wlk ks vs)) (.tok n) = .dct ks vs := by
  show peel ((ν.set n (.wlk ks vs)).getD n .non) = _
  rw [List.getD_eq_getElem?_getD, List.getElem?_set_self h]
  rfl
theorem c_like_dct {n : Nat} {xs : List Str} {vs : List D} (hn : ν[n]? = some (.dct (xs.map fun x => DK.one (.inr x)) vs)) (hl : xs.length ≤ 1000) (hW : 2000 < W)
    (hv : ∀ x ∈ xs, ∃ i, dictAt (xs.map fun x => DK.one (.inr x)) vs (.one (.inr x)) = some (.int i)) : likes W (k + 3) ν (.tok n) (.tok n) := by
  have hlt : n < ν.length := (List.getElem?_eq_some_iff.mp hn).1
  unfold likes
  rw [run_call (fn := f21) rfl rfl]
  have hu : un ν (.tok n) = .dct (xs.map fun x => DK.one (.inr x)) vs := un_tokK hn
  have hw : un (ν.set n (.wlk (xs.map fun x => DK.one (.inr x)) vs)) (.tok n) = .dct (xs.map fun x => DK.one (.inr x)) vs := un_wlk hlt
  have hg : (ν.set n (.wlk (xs.map fun x => DK.one (.inr x)) vs))[n]? = some (.wlk (xs.map fun x => DK.one (.inr x)) vs) := List.getElem?_set_self hlt
  have e7 : lckM (some (.tok n)) (evE T (callP T tb W (k + 2)).1 (callP T tb W (k + 2)).2 ν.length W [some (.tok n), some (.tok n), none, none] (.comp false (.var 3) (.nm 3) (.val (.var 1)) (.some (.or (.cmp .notin (.var 3) (.var 0)) (.not (.call 21 (.cons (.idx (.var 0) (.var 3)) (.cons (.idx (.var 1) (.var 3)) .nil)))))) [3])) ν = some (.ok (.lst []), ν) := by
    have el : ∀ m : M D, lckM (some (.tok n)) m ν = unlK n (m (ν.set n (.wlk (xs.map fun x => DK.one (.inr x)) vs))) := fun m => by
      unfold lckM
      simp only [hn]
    have eu : unlK n (some (.ok (.lst []), ν.set n (.wlk (xs.map fun x => DK.one (.inr x)) vs))) = some (.ok (.lst []), ν) := by
      unfold unlK
      simp only [hg]
      rw [List.set_set, (List.getElem?_eq_some_iff.mp hn).2.symm]
      simp
    rw [el]
    generalize ν.set n (.wlk (xs.map fun x => DK.one (.inr x)) vs) = μ at hw hg eu
    have so : srcOf μ (.tok n) = some (.key n) := by
      have e : srcK μ (.tok n) = .key n := by
        unfold srcK
        simp only [hg]
      have e2 : ∀ i, srcN μ (.key n) i = some (xs.map D.str)[i]? := fun i => by
        show keyI μ[n]? i = _
        rw [hg]
        show ((xs.map fun x => DK.one (.inr x)).mapM keyD).map _ = _
        rw [mapM_keys]
        rfl
      unfold srcOf
      rw [e, e2 0]
      rfl
    have hs : ∀ i, srcN μ (.key n) i = some (xs.map D.str)[i]? := fun i => by
      show keyI μ[n]? i = _
      rw [hg]
      show ((xs.map fun x => DK.one (.inr x)).mapM keyD).map _ = _
      rw [mapM_keys]
      rfl
    have hb : loopC (.key n) (turnE T (callP T tb W (k + 2)).1 (callP T tb W (k + 2)).2 ν.length W [some (.tok n), some (.tok n), none, none] (.var 3) (.nm 3) (.some (.or (.cmp .notin (.var 3) (.var 0)) (.not (.call 21 (.cons (.idx (.var 0) (.var 3)) (.cons (.idx (.var 1) (.var 3)) .nil)))))) [3]) W 0 [] μ = some (.ok [], μ) := by
      rw [loopC_list (g := fun _ => none) hs (fun d hd => ?_) (by rw [List.length_map]; omega) (line_le (by rw [List.length_map]; omega)), filt_nil fun _ _ => rfl]
      obtain ⟨x, hx, rfl⟩ := List.mem_map.mp hd
      obtain ⟨i, hi⟩ := hv x hx
      rw [turnE_ap (env1 := [some (.tok n), some (.tok n), none, some (.str x)]) rfl]
      have c1 : cmpD μ .notin (.str x) (.tok n) = some false := by
        unfold cmpD
        simp only [hw]
        have : (xs.map fun x => DK.one (.inr x)).contains (.one (.inr x)) = true := by
          rw [List.contains_iff_mem]
          exact List.mem_map.mpr ⟨x, hx, rfl⟩
        rw [this]
        rfl
      have c2 : idxD μ (.tok n) (.str x) = some (.int i) := by
        unfold idxD
        simp only [hw]
        exact hi
      have c3 := c_like_int (W := W) (k := k) (ν := μ) (n := i)
      simp [c1, c2, c3]
    have key : evE T (callP T tb W (k + 2)).1 (callP T tb W (k + 2)).2 ν.length W [some (.tok n), some (.tok n), none, none] (.comp false (.var 3) (.nm 3) (.val (.var 1)) (.some (.or (.cmp .notin (.var 3) (.var 0)) (.not (.call 21 (.cons (.idx (.var 0) (.var 3)) (.cons (.idx (.var 1) (.var 3)) .nil)))))) [3]) μ = some (.ok (.lst []), μ) := by
      simp at hb
      simp [so, hb]
    rw [key]
    exact eu
  have en := eqD_nil []
  show fin ν.length f21.kp (evSs T (callP T tb W (k + 2)).1 (callP T tb W (k + 2)).2 ν.length W [some (.tok n), some (.tok n), none, none] b21 ν) = _
  rw [skip (b := b21) (env' := [some (.tok n), some (.tok n), none, none]) (ν' := ν) rfl (by simp [isiD, isi1, tyOf, hu, isNonD])]
  rw [skip (env' := [some (.tok n), some (.tok n), none, none]) (ν' := ν) rfl (by simp [isiD, isi1, tyOf, hu, isNonD])]
  rw [skip (env' := [some (.tok n), some (.tok n), none, none]) (ν' := ν) rfl (by simp [isiD, isi1, tyOf, hu, isNonD])]
  rw [skip (env' := [some (.tok n), some (.tok n), none, none]) (ν' := ν) rfl (by simp [isiD, isi1, tyOf, hu, isNonD])]
  rw [skip (env' := [some (.tok n), some (.tok n), none, none]) (ν' := ν) rfl (by simp [isiD, isi1, tyOf, hu, isNonD])]
  simp only [snd_call] at e7
  simp [isiD, isi1, tyOf, hu, e7, en]
/-! ### copies -/
theorem c_copy_flat {v : D} (h3 : isiD (un ν v) [.ty 3] = some false) (h4 : isiD (un ν v) [.ty 4] = some false) (h5 : isiD (un ν v) [.ty 5] = some false) : (callP T tb W (k + 1)).1 23 [v] ν = some (.ok v, ν) := by
  rw [run_call (fn := f23) rfl rfl]
  simp [f23, b23, startE, h3, h4, h5]
theorem copy_items {xs : List D} {env : EF.Env} {v : D} (h : ∀ x ∈ xs, flat x = true) (hl : xs.length ≤ 1000) (hW : 2000 < W) {src : Src} (hs : ∀ i, srcN ν src i = some xs[i]?) :
    loopC src (turnE T (callP T tb W (k + 1)).1 (callP T tb W (k + 1)).2 ν.length W [some v, none, none] (.call 23 (.cons (.var 1) .nil)) (.nm 1) .none [1]) W 0 [] ν = some (.ok xs, ν) := by
  rw [loopC_list (g := some) hs (fun d hd => ?_) (by omega) (line_le (by omega))]
  · simp
  · rw [turnE_ap (env1 := [some v, some d, none]) rfl]
    have hf := h d hd
    have hc : (callP T tb W (k + 1)).1 23 [d] ν = some (.ok d, ν) := by
      cases d <;> first | (cases hf; done) | exact c_copy_flat rfl rfl rfl
    simp [hc]
theorem c_copy_lst {xs : List D} (h : ∀ x ∈ xs, flat x = true) (hl : xs.length ≤ 1000) (hW : 2000 < W) : (callP T tb W (k + 2)).1 23 [.lst xs] ν = some (.ok (.tok ν.length), ν ++ [.lst xs]) := by
  rw [run_call (fn := f23) rfl rfl]
  have so : srcOf ν (.lst xs) = some (.val (.lst xs)) := rfl
  have hb := copy_items (W := W) (k := k) (ν := ν) (v := .lst xs) (env := []) (src := .val (.lst xs)) h hl hW (fun i => rfl)
  have hlow : (D.lst xs).low ν.length = true := by
    show D.lows _ xs = true
    clear hb so hl
    induction xs with
    | nil => rfl
    | cons x xs ih =>
      show (x.low _ && D.lows _ xs) = true
      rw [ih fun y hy => h y (List.mem_cons_of_mem _ hy)]
      have := h x (List.mem_cons_self ..)
      cases x <;> first | rfl | (cases this; done)
  have fk : fin ν.length f23.kp (some (.rt (.tok ν.length), ν ++ [.lst xs])) = some (.ok (.tok ν.length), ν ++ [.lst xs]) := by
    show leave ν.length true (.tok ν.length) (ν ++ [.lst xs]) = _
    unfold leave
    rw [if_neg (by simp)]
    simp only
    rw [if_neg (by omega)]
    unfold leaveK
    rw [at_end]
    simp only
    rw [if_pos hlow]
    simp
  show fin ν.length f23.kp (evSs T (callP T tb W (k + 1)).1 (callP T tb W (k + 1)).2 ν.length W [some (.lst xs), none, none] b23 ν) = _
  simp at hb
  have e : evSs T (callP T tb W (k + 1)).1 (callP T tb W (k + 1)).2 ν.length W [some (.lst xs), none, none] b23 ν = some (.rt (.tok ν.length), ν ++ [.lst xs]) := by
    simp [b23, isiD, isi1, tyOf, so, hb]
  rw [e]
  exact fk
theorem c_copy_tup {xs : List D} (h : ∀ x ∈ xs, flat x = true) (hl : xs.length ≤ 1000) (hW : 2000 < W) : (callP T tb W (k + 2)).1 23 [.tup xs] ν = some (.ok (.tup xs), ν) := by
  rw [run_call (fn := f23) rfl rfl]
  have so : srcOf ν (.tup xs) = some (.val (.tup xs)) := rfl
  have hb := copy_items (W := W) (k := k) (ν := ν) (v := .tup xs) (env := []) (src := .val (.tup xs)) h hl hW (fun i => rfl)
  have bt : biD ν .tuple [.lst xs] = some (.tup xs) := rfl
  simp at hb
  simp [f23, b23, startE, isiD, isi1, tyOf, so, hb, bt]
theorem c_copy_dct {xs : List Str} {vs : List D} (hx : (xs = [] ∧ vs = []) ∨ ∃ x i, xs = [x] ∧ vs = [.int i]) (hW : 2000 < W) : (callP T tb W (k + 2)).1 23 [.dct (xs.map fun x => DK.one (.inr x)) vs] ν = some (.ok (.tok ν.length), ν ++ [.dct (xs.map fun x => DK.one (.inr x)) vs]) := by
  rw [run_call (fn := f23) rfl rfl]
  have hs : ∀ i, srcN ν (.val (.dct (xs.map fun x => DK.one (.inr x)) vs)) i = some (xs.map D.str)[i]? := fun i => by
    show ((xs.map fun x => DK.one (.inr x)).mapM keyD).map _ = _
    rw [mapM_keys]
    rfl
  have so : srcOf ν (.dct (xs.map fun x => DK.one (.inr x)) vs) = some (.val (.dct (xs.map fun x => DK.one (.inr x)) vs)) := by
    unfold srcOf
    show (srcN ν (.val (.dct (xs.map fun x => DK.one (.inr x)) vs)) 0).map _ = _
    rw [hs 0]
    rfl
  have hll : xs.length ≤ 1 := by
    rcases hx with ⟨rfl, _⟩ | ⟨x, i, rfl, _⟩ <;> simp
  have hb : loopC (.val (.dct (xs.map fun x => DK.one (.inr x)) vs)) (turnE T (callP T tb W (k + 1)).1 (callP T tb W (k + 1)).2 ν.length W [some (.dct (xs.map fun x => DK.one (.inr x)) vs), none, none] (.tup (.cons (.var 2) (.cons (.call 23 (.cons (.idx (.var 0) (.var 2)) .nil)) .nil))) (.nm 2) .none [2]) W 0 [] ν = some (.ok (List.zipWith (fun x v => D.tup [.str x, v]) xs vs), ν) := by
    rw [loopC_list (g := fun d => match d, vs with | .str x, [v] => some (.tup [.str x, v]) | _, _ => none) hs (fun d hd => ?_) (by rw [List.length_map]; omega) (line_le (by rw [List.length_map]; omega))]
    · rcases hx with ⟨rfl, rfl⟩ | ⟨x, i, rfl, rfl⟩ <;> rfl
    · rcases hx with ⟨rfl, rfl⟩ | ⟨x, i, rfl, rfl⟩
      · cases hd
      · have : d = .str x := by simpa using hd
        subst this
        rw [turnE_ap (env1 := [some (.dct ([x].map fun x => DK.one (.inr x)) [.int i]), none, some (.str x)]) rfl]
        have hc : (callP T tb W (k + 1)).1 23 [.int i] ν = some (.ok (.int i), ν) := c_copy_flat rfl rfl rfl
        have hi : idxD ν (.dct ([x].map fun x => DK.one (.inr x)) [.int i]) (.str x) = some (.int i) := by
          show (if DK.one (.inr x) = DK.one (.inr x) then some (D.int i) else dictAt [] [] (DK.one (.inr x))) = _
          exact if_pos rfl
        simp at hi
        simp [hc, hi]
  have bd : biD ν .dict [.lst (List.zipWith (fun x v => D.tup [.str x, v]) xs vs)] = some (.dct (xs.map fun x => DK.one (.inr x)) vs) := by
    rcases hx with ⟨rfl, rfl⟩ | ⟨x, i, rfl, rfl⟩ <;> rfl
  have hlow : (D.dct (xs.map fun x => DK.one (.inr x)) vs).low ν.length = true := by
    rcases hx with ⟨rfl, rfl⟩ | ⟨x, i, rfl, rfl⟩ <;> rfl
  generalize List.zipWith (fun x v => D.tup [.str x, v]) xs vs = zs at hb bd
  generalize (xs.map fun x => DK.one (.inr x)) = ks at so hb bd hlow
  have fk : fin ν.length f23.kp (some (.rt (.tok ν.length), ν ++ [.dct ks vs])) = some (.ok (.tok ν.length), ν ++ [.dct ks vs]) := by
    show leave ν.length true (.tok ν.length) (ν ++ [.dct ks vs]) = _
    unfold leave
    rw [if_neg (by simp)]
    simp only
    rw [if_neg (by omega)]
    unfold leaveK
    rw [at_end]
    simp only
    rw [if_pos hlow]
    simp
  have e : evSs T (callP T tb W (k + 1)).1 (callP T tb W (k + 1)).2 ν.length W [some (.dct ks vs), none, none] b23 ν = some (.rt (.tok ν.length), ν ++ [.dct ks vs]) := by
    simp at hb
    simp [b23, isiD, isi1, tyOf, so, hb, bd]
  show fin ν.length f23.kp (evSs T (callP T tb W (k + 1)).1 (callP T tb W (k + 1)).2 ν.length W [some (.dct ks vs), none, none] b23 ν) = _
  rw [e]
  exact fk
end
end K02

/-! what is told, what is kept. -/
namespace K02
open PySem EF
section
variable {W k : Nat} {ν : Sto}
theorem kwT0 : T.kw 0 = some [0] := rfl
theorem kwT1 : T.kw 1 = some [0] := rfl
theorem perm1 {v : D} : permD [0] [v] = some [v] := rfl
theorem st1 : (("read" : Str) == ("text" : Str)) = false := by decide +kernel
theorem c_number_text_bad {v : D} (h : kn (un ν v) = true) (h1 : isWh (un ν v) = false) (h2 : isRt (un ν v) = false) : (callP T tb W (k + 4)).1 8 [v] ν = some (.ex ⟨4, [0], [v]⟩, ν) := by
  rw [run_call (fn := f8) rfl rfl]
  have c := c_check_bad (W := W) (k := k) (ν := ν) (v := v) h h1 h2
  simp [f8, b8, startE, c]
theorem c_asked_text {v : D} {t b : Int} {m : Bool} (h : Num v t b) (ht : t.natAbs.log2 < 1920) (hb : b.natAbs.log2 < 1920) (l1 : (strI t).length ≤ 1000) (l2 : (strI b).length ≤ 1000) : (callP T tb W (k + 5)).1 29 [.str "text", v, .bl m] ν = some (.ok (.lst [.str "told", .str (numT t b)]), ν) := by
  rw [run_call (fn := f29) rfl rfl]
  have c := c_number_text (W := W) (k := k) (ν := ν) h ht hb l1 l2
  cases m <;> simp [f29, b29, startE, c, kwT1, perm1]
theorem c_asked_text_bad {v : D} {m : Bool} (h : kn (un ν v) = true) (h1 : isWh (un ν v) = false) (h2 : isRt (un ν v) = false) : (callP T tb W (k + 5)).1 29 [.str "text", v, .bl m] ν = some (.ok (.lst [.str "number", v, .bl true]), ν) := by
  rw [run_call (fn := f29) rfl rfl]
  have c := c_number_text_bad (W := W) (k := k) (ν := ν) h h1 h2
  have hh : ∀ env, handle T ⟨4, [0], [v]⟩ env (.cons 4 (some 3) (.lst (.cons (.lit (.str "number")) (.cons (.attr 0) (.cons (.isi 1) .nil)))) (.cons 5 (some 3) (.lst (.cons (.lit (.str "no text")) (.cons (.attr 0) (.cons (.isi 1) .nil)))) .nil)) ν = some (.rt (.lst [.str "number", v, .bl true]), ν) := fun env => rfl
  cases m <;> simp [f29, b29, startE, c, kwT1, perm1, hh]
theorem c_asked_read {v d : D} {m : Bool} (c : (callP T tb W (k + 6)).1 11 [v] ν = some (.ok d, ν)) : (callP T tb W (k + 7)).1 29 [.str "read", v, .bl m] ν = some (.ok (.lst [.str "told", d]), ν) := by
  rw [run_call (fn := f29) rfl rfl]
  cases m <;> simp [f29, b29, startE, st1, c, kwT0, perm1]
theorem c_asked_no {v : D} {m : Bool} (c : (callP T tb W (k + 6)).1 11 [v] ν = some (.ex ⟨5, [0], [v]⟩, ν)) : (callP T tb W (k + 7)).1 29 [.str "read", v, .bl m] ν = some (.ok (.lst [.str "no text", v, .bl true]), ν) := by
  rw [run_call (fn := f29) rfl rfl]
  have hh : ∀ env, handle T ⟨5, [0], [v]⟩ env (.cons 4 (some 3) (.lst (.cons (.lit (.str "number")) (.cons (.attr 0) (.cons (.isi 1) .nil)))) (.cons 5 (some 3) (.lst (.cons (.lit (.str "no text")) (.cons (.attr 0) (.cons (.isi 1) .nil)))) .nil)) ν = some (.rt (.lst [.str "no text", v, .bl true]), ν) := fun env => rfl
  cases m <;> simp [f29, b29, startE, st1, c, kwT0, perm1, hh]
/-! ### _law_keeps -/
theorem c_keeps_flat {v : D} (h3 : isiD (un ν v) [.ty 3] = some false) (h5 : isiD (un ν v) [.ty 5] = some false) (hl : likes W (k + 3) ν v v) : (callP T tb W (k + 4)).1 22 [v, v] ν = some (.ok (.bl true), ν) := by
  rw [run_call (fn := f22) rfl rfl]
  unfold likes at hl
  simp [f22, b22, startE, h3, h5, hl]
theorem c_keeps_lst {n : Nat} {xs : List D} (hn : ν[n]? = some (.lst xs)) (hx : xs.length ≤ 100) (hW : 2000 < W) (he : ∀ x ∈ xs, ∀ μ : Sto, likes W (k + 2) μ x x) : ∃ ν', (callP T tb W (k + 4)).1 22 [.tok n, .tok n] ν = some (.ok (.bl true), ν') ∧ ν'.length = ν.length ∧ ∀ m, m ≤ n → ν'.take m = ν.take m := by
  have hlt : n < ν.length := (List.getElem?_eq_some_iff.mp hn).1
  refine ⟨ν.set n (.lst (xs ++ [.int 7])), ?_, by simp, fun m hm => List.take_set_of_le hm⟩
  have hn2 : (ν.set n (.lst (xs ++ [.int 7])))[n]? = some (.lst (xs ++ [.int 7])) := List.getElem?_set_self hlt
  have u1 := un_tokL hn
  have u2 := un_tokL hn2
  have all : ∀ (ys : List D) (μ : Sto), (∀ x ∈ ys, likes W (k + 2) μ x x) → ∀ (i : Nat) (a b : D), ys[i]? = some a → ys[i]? = some b → likes W (k + 2) μ a b := fun ys μ h i a b ha hb => by
    rw [ha] at hb
    cases hb
    exact h a (List.mem_of_getElem? ha)
  have l1 := c_like_lst (W := W) (k := k + 2) (ν := ν) u1 u1 rfl (by omega) hW (all xs ν fun x hx => he x hx ν)
  have l2 := c_like_lst (W := W) (k := k + 2) u2 u2 rfl (by rw [List.length_append]; simp; omega) hW (all _ _ fun x hx => by
    rcases List.mem_append.mp hx with hx | hx
    · exact he x hx _
    · have : x = .int 7 := by simpa using hx
      subst this
      exact c_like_int)
  unfold likes at l1 l2
  rw [run_call (fn := f22) rfl rfl]
  have ty : mtTy .append (.lst xs) = some () := rfl
  have ap : mtE ν.length false .append (.tok n) [.int 7] ν = some (.ok .non, ν.set n (.lst (xs ++ [.int 7]))) := by
    show mtK (mtW ν.length ν .append n [.int 7]) = _
    have : mtW ν.length ν .append n [.int 7] = some (.non, ν.set n (.lst (xs ++ [.int 7]))) := by
      unfold mtW
      simp only [hn]
      exact if_pos ⟨by rw [sizeLine_eq]; omega, Or.inr rfl⟩
    rw [this]
    rfl
  have hlen : (ν.set n (.lst (xs ++ [.int 7]))).length ≤ ν.length := by simp
  generalize ν.set n (.lst (xs ++ [.int 7])) = μ at hlen u2 l2 ap hn2 ⊢
  show fin ν.length f22.kp (evSs T (callP T tb W (k + 3)).1 (callP T tb W (k + 3)).2 ν.length W [some (.tok n), some (.tok n)] b22 ν) = _
  have e : evSs T (callP T tb W (k + 3)).1 (callP T tb W (k + 3)).2 ν.length W [some (.tok n), some (.tok n)] b22 ν = some (.rt (.bl true), μ) := by
    simp [b22, l1, l2, isiD, isi1, tyOf, u1, u2, ty, ap]
  rw [e]
  exact fin_rt hlen
end
end K02

/-! read right. -/
namespace K02
open PySem EF
section
variable {W k : Nat} {ν : Sto}
theorem c_keeps_dct {n : Nat} {xs : List Str} {vs : List D} (hx : (xs = [] ∧ vs = []) ∨ (xs = [("1" : Str)] ∧ vs = [.int 1])) (hn : ν[n]? = some (.dct (xs.map fun x => DK.one (.inr x)) vs)) (hW : 2000 < W) : ∃ ν', (callP T tb W (k + 4)).1 22 [.tok n, .tok n] ν = some (.ok (.bl true), ν') ∧ ν'.length = ν.length ∧ ∀ m, m ≤ n → ν'.take m = ν.take m := by
  have hlt : n < ν.length := (List.getElem?_eq_some_iff.mp hn).1
  refine ⟨ν.set n (.dct ((xs ++ [("more" : Str)]).map fun x => DK.one (.inr x)) (vs ++ [.int 7])), ?_, by simp, fun m hm => List.take_set_of_le hm⟩
  have hn2 : (ν.set n (.dct ((xs ++ [("more" : Str)]).map fun x => DK.one (.inr x)) (vs ++ [.int 7])))[n]? = some (.dct ((xs ++ [("more" : Str)]).map fun x => DK.one (.inr x)) (vs ++ [.int 7])) := List.getElem?_set_self hlt
  have u1 := un_tokK hn
  have u2 := un_tokK hn2
  have hxl : xs.length ≤ 1 := by rcases hx with ⟨rfl, _⟩ | ⟨rfl, _⟩ <;> simp
  have ne : ¬ (DK.one (.inr ("1" : Str)) = DK.one (.inr ("more" : Str))) := by decide +kernel
  have l1 := c_like_dct (W := W) (k := k) (ν := ν) hn (by omega) hW (by
    rcases hx with ⟨rfl, rfl⟩ | ⟨rfl, rfl⟩
    · intro x h; cases h
    · intro x h
      have : x = "1" := by simpa using h
      subst this
      exact ⟨1, if_pos rfl⟩)
  have l2 := c_like_dct (W := W) (k := k) hn2 (by rw [List.length_append]; simp; omega) hW (by
    rcases hx with ⟨rfl, rfl⟩ | ⟨rfl, rfl⟩
    · intro x h
      have : x = "more" := by simpa using h
      subst this
      exact ⟨7, if_pos rfl⟩
    · intro x h
      have : x = "1" ∨ x = "more" := by simpa using h
      rcases this with rfl | rfl
      · exact ⟨1, if_pos rfl⟩
      · refine ⟨7, ?_⟩
        show (if DK.one (.inr ("1" : Str)) = DK.one (.inr ("more" : Str)) then _ else dictAt [DK.one (.inr ("more" : Str))] [.int 7] (DK.one (.inr ("more" : Str)))) = _
        rw [if_neg ne]
        exact if_pos rfl)
  unfold likes at l1 l2
  rw [run_call (fn := f22) rfl rfl]
  have st : setX ν.length ν (.tok n) (.str "more") (.int 7) = some (ν.set n (.dct ((xs ++ [("more" : Str)]).map fun x => DK.one (.inr x)) (vs ++ [.int 7]))) := by
    show setD ν.length ν n (.str "more") (.int 7) = _
    unfold setD
    simp only [hn]
    rw [if_pos ⟨by rw [List.length_map]; omega, Or.inr rfl⟩]
    rcases hx with ⟨rfl, rfl⟩ | ⟨rfl, rfl⟩
    · rfl
    · have : putD ([("1" : Str)].map fun x => DK.one (.inr x)) [.int 1] (.one (.inr ("more" : Str))) (.int 7) = (([("1" : Str)] ++ [("more" : Str)]).map fun x => DK.one (.inr x), [.int 1] ++ [.int 7]) := by
        unfold putD
        rw [if_neg (by decide +kernel)]
        rfl
      rw [this]
  have hlen : (ν.set n (.dct ((xs ++ [("more" : Str)]).map fun x => DK.one (.inr x)) (vs ++ [.int 7]))).length ≤ ν.length := by simp
  generalize ν.set n (.dct ((xs ++ [("more" : Str)]).map fun x => DK.one (.inr x)) (vs ++ [.int 7])) = μ at hlen u2 l2 st hn2 ⊢
  show fin ν.length f22.kp (evSs T (callP T tb W (k + 3)).1 (callP T tb W (k + 3)).2 ν.length W [some (.tok n), some (.tok n)] b22 ν) = _
  have e : evSs T (callP T tb W (k + 3)).1 (callP T tb W (k + 3)).2 ν.length W [some (.tok n), some (.tok n)] b22 ν = some (.rt (.bl true), μ) := by
    simp [b22, l1, l2, isiD, isi1, tyOf, u1, u2, st]
  rw [e]
  exact fin_rt hlen
theorem fin_back {kp : Bool} {ν' : Sto} {b : Bool} (h1 : ν.length ≤ ν'.length) (h2 : ν'.take ν.length = ν) : fin ν.length kp (some (.rt (.bl b), ν')) = some (.ok (.bl b), ν) := by
  show leave ν.length kp (.bl b) ν' = _
  unfold leave
  by_cases c : ν'.length ≤ ν.length
  · rw [if_pos c]
    rw [List.take_of_length_le c] at h2
    rw [h2]
  · rw [if_neg c]
    have : leaveT ν.length (.bl b) ν' = some (.ok (.bl b), ν) := by
      unfold leaveT
      have : outD ν.length ν' (.bl b) = some (.bl b) := rfl
      rw [this]
      simp only [h2]
    cases kp <;> exact this
theorem c_due {t b : Int} : (callP T tb W (k + 1)).1 19 [.tup [.int t, .int b]] ν = some (.ok (if b = 1 then .int t else .tup [.str "/", .int t, .int b]), ν) := by
  rw [run_call (fn := f19) rfl rfl]
  by_cases c : b = 1
  · subst c
    simp [f19, b19, startE, ix0, ix1]
  · have c' : (b == 1) = false := by simpa using c
    simp [f19, b19, startE, ix0, ix1, c', c]
theorem like_due {t b : Int} : likes W (k + 2) ν (numD t b) (if b = 1 then .int t else .tup [.str "/", .int t, .int b]) := by
  unfold numD
  by_cases c : b = 1
  · rw [if_pos c, if_pos c]; exact c_like_int
  · rw [if_neg c, if_neg c]; exact c_like_due
theorem like_two {a b c d : D} (hW : 2000 < W) (h1 : likes W k ν a c) (h2 : likes W k ν b d) : likes W (k + 1) ν (.lst [a, b]) (.lst [c, d]) :=
  c_like_lst rfl rfl rfl (by simp) hW (likes_all (.cons h1 (.cons h2 .nil)))
theorem src_two {a b : D} : srcOf ν (.tup [a, b]) = some (.val (.tup [a, b])) := rfl
def bRR : Ss := match b30 with
  | .cons _ (.cons (.loop _ _ b) _) => b
  | _ => .nil
theorem c_rr {v : D} {m : Bool} {d : D} (hW : 2000 < W) (hd : (callP T tb W k).1 28 [v] ν = some (.ok d, ν))
    (hb : ∀ (μ : Sto) (n : Bool) (a b : Option D), ν.length ≤ μ.length → μ.take ν.length = ν → ∃ a' b' μ', evSs T (callP T tb W k).1 (callP T tb W k).2 ν.length W [some v, some (.bl m), some d, some (.bl n), a, b] bRR μ = some (.nx [some v, some (.bl m), some d, some (.bl n), a', b'], μ') ∧ ν.length ≤ μ'.length ∧ μ'.take ν.length = ν) :
    (callP T tb W (k + 1)).1 30 [v, .bl m] ν = some (.ok (.bl true), ν) := by
  rw [run_call (fn := f30) rfl rfl]
  obtain ⟨w, rfl⟩ : ∃ w, W = w + 3 := ⟨W - 3, by omega⟩
  obtain ⟨a1, b1, μ1, e1, l1, t1⟩ := hb ν m none none (Nat.le_refl _) (List.take_length ..)
  obtain ⟨a2, b2, μ2, e2, l2, t2⟩ := hb μ1 (!m) a1 b1 l1 t1
  have lp : loopT T (callP T tb (w + 3) k).1 (callP T tb (w + 3) k).2 ν.length (w + 3) (.nm 3) bRR (.val (.tup [.bl m, .bl (!m)])) (w + 3) 0 [some v, some (.bl m), some d, none, none, none] ν = some (.nx [some v, some (.bl m), some d, some (.bl (!m)), a2, b2], μ2) := by
    rw [loop_go (d := .bl m) rfl rfl e1, loop_go (d := .bl (!m)) rfl rfl e2, loop_stop rfl]
  show fin ν.length f30.kp (evSs T (callP T tb (w + 3) k).1 (callP T tb (w + 3) k).2 ν.length (w + 3) [some v, some (.bl m), none, none, none, none] b30 ν) = _
  have e : evSs T (callP T tb (w + 3) k).1 (callP T tb (w + 3) k).2 ν.length (w + 3) [some v, some (.bl m), none, none, none, none] b30 ν = some (.rt (.bl true), μ2) := by
    simp only [bRR, b30] at lp
    simp [b30, hd, src_two, lp]
  rw [e]
  exact fin_back l2 t2
theorem ne_no : (("no text" : Str) == ("no text" : Str)) = true := by decide +kernel
/-- a value that is refused -/
theorem c_rr_no {v : D} {m : Bool} (hW : 2000 < W) (hd : (callP T tb W (k + 7)).1 28 [v] ν = some (.ok .non, ν))
    (hN : ∀ μ : Sto, ∃ g μ1 μ2, (callP T tb W (k + 7)).1 23 [v] μ = some (.ok g, μ1) ∧ (callP T tb W (k + 6)).1 11 [g] μ1 = some (.ex ⟨5, [0], [g]⟩, μ1) ∧ (callP T tb W (k + 7)).1 22 [g, g] μ1 = some (.ok (.bl true), μ2) ∧ μ.length ≤ μ2.length ∧ ∀ j, j ≤ μ.length → μ2.take j = μ.take j) :
    (callP T tb W (k + 8)).1 30 [v, .bl m] ν = some (.ok (.bl true), ν) := by
  refine c_rr hW hd fun μ n a b h1 h2 => ?_
  obtain ⟨g, μ1, μ2, e1, e2, e3, e4, e5⟩ := hN μ
  have e6 := c_asked_no (m := n) e2
  refine ⟨some g, some (.lst [.str "no text", g, .bl true]), μ2, ?_, by omega, by rw [e5 _ h1]; exact h2⟩
  simp [bRR, b30, e1, e6, isNonD, il0, il1, il2, isBlD, e3]
/-- a text that is read -/
theorem c_rr_str {x : Str} {m : Bool} (hl : x.length ≤ 1000) (hW : 10 ^ 400 < W) : (callP T tb W (k + 8)).1 30 [.str x, .bl m] ν = some (.ok (.bl true), ν) := by
  have hW2 : 2000 < W := Nat.lt_trans (by decide +kernel) hW
  have hd := c_law_read (W := W) (k := k + 5) (ν := ν) hl hW
  rw [lr_eq] at hd
  cases hr : rd (tl x) with
  | none =>
    rw [hr] at hd
    refine c_rr_no hW2 hd fun μ => ⟨.str x, μ, μ, c_copy_flat rfl rfl rfl, ?_, c_keeps_flat (k := k + 3) rfl rfl (c_like_str (k := k + 4) hl hW2), Nat.le_refl _, fun _ _ => rfl⟩
    have c := c_read_str (W := W) (k := k) (ν := μ) hl hW2
    rw [hr] at c
    exact c
  | some p =>
    obtain ⟨t, b⟩ := p
    rw [hr] at hd
    refine c_rr (k := k + 7) hW2 hd fun μ n a b' h1 h2 => ?_
    have c := c_read_str (W := W) (k := k) (ν := μ) hl hW2
    rw [hr] at c
    have c : (callP T tb W (k + 6)).1 11 [.str x] μ = some (.ok (numD t b), μ) := c
    have e1 : (callP T tb W (k + 7)).1 23 [.str x] μ = some (.ok (.str x), μ) := c_copy_flat rfl rfl rfl
    have e2 := c_asked_read (m := n) c
    have e3 := c_due (W := W) (k := k + 6) (ν := μ) (t := t) (b := b)
    have e4 := like_two (W := W) (k := k + 6) (ν := μ) hW2 (c_like_str (x := "told") (by decide +kernel) hW2) (like_due (k := k + 4) (t := t) (b := b))
    refine ⟨some (.str x), some (.lst [.str "told", numD t b]), μ, ?_, h1, h2⟩
    unfold likes at e4
    generalize (if b = 1 then D.int t else D.tup [.str "/", .int t, .int b]) = q at e3 e4
    simp [bRR, b30, e1, e2, optP, isNonD, e3, e4]
end
end K02

/-! draws. -/
namespace K02
open PySem EF
/-! ### lowest terms, again -/
theorem part_gcd (t b : Int) : (part t b).natAbs = Nat.gcd t.natAbs b.natAbs := by
  unfold part gc
  split <;> omega
/-- lowest terms, the bottom above 0 -/
structure Low (t b : Int) : Prop where
  pos : 0 < b
  one : Nat.gcd t.natAbs b.natAbs = 1
theorem low_low {t b : Int} (h : b ≠ 0) : Low (lt t b) (lb t b) := by
  refine ⟨lb_pos h, ?_⟩
  have h1 := congrArg Int.natAbs (lt_mul (t := t) h)
  have h2 := congrArg Int.natAbs (lb_mul (t := t) h)
  rw [Int.natAbs_mul, part_gcd] at h1 h2
  have h3 := Nat.gcd_mul_right (lt t b).natAbs (Nat.gcd t.natAbs b.natAbs) (lb t b).natAbs
  rw [h1, h2] at h3
  have hp := Nat.gcd_pos_of_pos_right t.natAbs (show 0 < b.natAbs by omega)
  generalize Nat.gcd t.natAbs b.natAbs = g at *
  have : 1 * g = (Nat.gcd (lt t b).natAbs (lb t b).natAbs) * g := by omega
  exact (Nat.eq_of_mul_eq_mul_right hp this).symm
theorem low_mul {t b c : Int} (h : Low t b) (hc : c ≠ 0) : lt (t * c) (b * c) = t ∧ lb (t * c) (b * c) = b := by
  have hb := h.pos
  have hg : Nat.gcd (t * c).natAbs (b * c).natAbs = c.natAbs := by
    rw [Int.natAbs_mul, Int.natAbs_mul, Nat.gcd_mul_right, h.one, Nat.one_mul]
  have hp : part (t * c) (b * c) = c := by
    unfold part gc
    rw [hg]
    by_cases c0 : 0 < c
    · rw [if_pos (Int.mul_pos hb c0)]; omega
    · have : b * c < 0 := Int.mul_neg_of_pos_of_neg hb (by omega)
      rw [if_neg (by omega)]; omega
  unfold lt lb
  rw [hp]
  exact ⟨Int.mul_fdiv_cancel _ hc, Int.mul_fdiv_cancel _ hc⟩
theorem low_self {t b : Int} (h : Low t b) : lt t b = t ∧ lb t b = b := by
  have := low_mul h (c := 1) (by decide)
  rw [Int.mul_one, Int.mul_one] at this
  exact this
theorem low_int (t : Int) : Low t 1 := ⟨by decide, by simp⟩
section
variable {W k : Nat} {ν : Sto}
theorem wide_sm {i j : Int} (h1 : i.natAbs < 2 ^ 400) (h2 : j.natAbs < 2 ^ 400) : wideOk i j := by
  unfold wideOk
  have := log2_of h1 (by decide)
  have := log2_of h2 (by decide)
  omega
/-- the box of draws at token n -/
def Bx (ν : Sto) (n : Nat) (q : Nat) : Prop := ∃ (a : Int) (g : Bool) (s c : Int), ν[n]? = some (.lst [.int a, .bl g, .int s, .int c]) ∧ 0 ≤ s ∧ s < 2 ^ 31 ∧ 0 ≤ c ∧ c ≤ (q : Int)
theorem Bx.mono {ν : Sto} {n q r : Nat} (h : Bx ν n q) (hr : q ≤ r) : Bx ν n r := by
  obtain ⟨a, g, s, c, e, h1, h2, h3, h4⟩ := h
  exact ⟨a, g, s, c, e, h1, h2, h3, by omega⟩
theorem fmod_in {a m : Int} (h : 0 < m) : 0 ≤ a.fmod m ∧ a.fmod m < m := by
  rw [Int.fmod_eq_emod_of_nonneg _ (by omega)]
  exact ⟨Int.emod_nonneg _ (by omega), Int.emod_lt_of_pos _ h⟩
theorem set_at {n : Nat} {xs : List D} (hn : ν[n]? = some (.lst xs)) {j : Nat} (hj : j < xs.length) {v : D} (hv : v.low 0 = true) {n0 : Nat} : setX n0 ν (.tok n) (.int (j : Int)) v = some (ν.set n (.lst (xs.set j v))) := by
  show setD n0 ν n (.int (j : Int)) v = _
  unfold setD
  simp only [hn]
  rw [ixN_nat hj]
  exact if_pos (Or.inr hv)
theorem c_take {n : Nat} {many : Int} {q : Nat} (h : Bx ν n q) (hq : q < 2 ^ 38) (hm : 0 < many) (hm2 : many < 2 ^ 64) : ∃ d ν', (callP T tb W (k + 1)).1 14 [.tok n, .int many] ν = some (.ok (.int d), ν') ∧ 0 ≤ d ∧ d < many ∧ Bx ν' n (q + 1) ∧ ν'.length = ν.length := by
  obtain ⟨a, g, s, c, hn, hs1, hs2, hc1, hc2⟩ := h
  have hlt : n < ν.length := (List.getElem?_eq_some_iff.mp hn).1
  have i0 : idxD ν (.tok n) (.int 0) = some (.int a) := (idx_tokL hn).trans rfl
  have i1 : idxD ν (.tok n) (.int 1) = some (.bl g) := (idx_tokL hn).trans rfl
  have i2 : idxD ν (.tok n) (.int 2) = some (.int s) := (idx_tokL hn).trans rfl
  have i3 : idxD ν (.tok n) (.int 3) = some (.int c) := (idx_tokL hn).trans rfl
  rw [run_call (fn := f14) rfl rfl]
  by_cases hga : g = true ∧ 0 < a
  · obtain ⟨rfl, ha⟩ := hga
    have m1 := binD_mod (i := a) (j := many) (by omega)
    have m2 := binD_fdv (i := a) (j := many) ⟨by omega, log2_of (show many.natAbs < 2 ^ 9000 from Nat.lt_of_lt_of_le (show many.natAbs < 2 ^ 64 by omega) (Nat.pow_le_pow_right (by decide) (by decide))) (by decide)⟩
    obtain ⟨r1, r2⟩ := fmod_in (a := a) hm
    have st := set_at (ν := ν) hn (j := 0) (v := .int (a.fdiv many)) (by simp) rfl (n0 := ν.length)
    refine ⟨a.fmod many, ν.set n (.lst [.int (a.fdiv many), .bl true, .int s, .int c]), ?_, r1, r2, ⟨a.fdiv many, true, s, c, List.getElem?_set_self hlt, hs1, hs2, hc1, by omega⟩, by simp⟩
    simp at st
    simp [f14, b14, startE, i0, i1, ha, m1, m2, st]
  · have w1 := binD_mulI (wide_sm (i := 15489031) (j := c + 1) (by decide) (Nat.lt_trans (show (c + 1).natAbs < 2 ^ 60 by omega) (by decide)))
    have st := set_at (ν := ν) hn (j := 3) (v := .int (c + 1)) (by simp) rfl (n0 := ν.length)
    have hn2 : (ν.set n (.lst [.int a, .bl g, .int s, .int (c + 1)]))[n]? = some (.lst [.int a, .bl g, .int s, .int (c + 1)]) := List.getElem?_set_self hlt
    have hlen : (ν.set n (.lst [.int a, .bl g, .int s, .int (c + 1)])).length = ν.length := by simp
    have st' : setX ν.length ν (.tok n) (.int (3 : Int)) (.int (c + 1)) = some (ν.set n (.lst [.int a, .bl g, .int s, .int (c + 1)])) := by
      simp at st
      exact st
    clear st
    generalize ν.set n (.lst [.int a, .bl g, .int s, .int (c + 1)]) = μ at st' hn2 hlen
    have j2 : idxD μ (.tok n) (.int 2) = some (.int s) := (idx_tokL hn2).trans rfl
    have j3 : idxD μ (.tok n) (.int 3) = some (.int (c + 1)) := (idx_tokL hn2).trans rfl
    have p1 := binD_pow (i := s + 15489031 * (c + 1) + 179431097) (j := 5) ⟨by decide, by decide, by omega⟩
    have d1 := binD_mod (i := (s + 15489031 * (c + 1) + 179431097) ^ (5 : Int).toNat) (j := 2147483647) (by decide)
    obtain ⟨r1, r2⟩ := fmod_in (a := (s + 15489031 * (c + 1) + 179431097) ^ (5 : Int).toNat) (m := 2147483647) (by decide)
    generalize ((s + 15489031 * (c + 1) + 179431097) ^ (5 : Int).toNat).fmod 2147483647 = x at d1 r1 r2
    generalize (s + 15489031 * (c + 1) + 179431097) ^ (5 : Int).toNat = z at p1 d1
    have w2 := binD_mulI (wide_sm (i := x) (j := 48271) (Nat.lt_trans (show x.natAbs < 2 ^ 60 by omega) (by decide)) (by decide))
    have w3 := binD_mulI (wide_sm (i := 9323) (j := c + 1) (by decide) (Nat.lt_trans (show (c + 1).natAbs < 2 ^ 60 by omega) (by decide)))
    have p2 := binD_pow (i := x * 48271 + 9323 * (c + 1)) (j := 3) ⟨by decide, by decide, by omega⟩
    generalize (x * 48271 + 9323 * (c + 1)) ^ (3 : Int).toNat = y at p2
    have d2 := binD_mod (i := y) (j := 2147483587) (by decide)
    have d3 := binD_fdv (i := y.fmod 2147483587) (j := 64) ⟨by decide, by decide +kernel⟩
    have d4 := binD_mod (i := (y.fmod 2147483587).fdiv 64) (j := many) (by omega)
    obtain ⟨r3, r4⟩ := fmod_in (a := (y.fmod 2147483587).fdiv 64) hm
    refine ⟨((y.fmod 2147483587).fdiv 64).fmod many, μ, ?_, r3, r4, ⟨a, g, s, c + 1, hn2, hs1, hs2, by omega, by omega⟩, hlen⟩
    have hle : μ.length ≤ ν.length := by omega
    cases g with
    | false => simp [f14, b14, startE, i0, i1, i3, st', j2, j3, w1, p1, d1, w2, w3, p2, d2, d3, d4, hle]
    | true =>
      have ha : ¬ 0 < a := fun z => hga ⟨rfl, z⟩
      simp [f14, b14, startE, i0, i1, i3, ha, st', j2, j3, w1, p1, d1, w2, w3, p2, d2, d3, d4, hle]
theorem c_pick {n : Nat} {xs : List D} {q : Nat} (h : Bx ν n q) (hq : q < 2 ^ 38) (hx : 0 < xs.length) (hl : xs.length ≤ 1000) : ∃ d ν', (callP T tb W (k + 2)).1 15 [.tok n, .lst xs] ν = some (.ok d, ν') ∧ d ∈ xs ∧ Bx ν' n (q + 1) ∧ ν'.length = ν.length := by
  obtain ⟨d, ν', e, h1, h2, h3, h4⟩ := c_take (W := W) (k := k) (many := (xs.length : Int)) h hq (by omega) (by omega)
  obtain ⟨i, rfl⟩ := Int.eq_ofNat_of_zero_le h1
  have hi : i < xs.length := by omega
  refine ⟨xs[i], ν', ?_, List.getElem_mem hi, h3, h4⟩
  have ix : idxD ν' (.lst xs) (.int (i : Int)) = some xs[i] := by
    rw [idx_lst, ixN_nat hi]
    exact List.getElem?_eq_getElem hi
  have hle : ν'.length ≤ ν.length := by omega
  rw [run_call (fn := f15) rfl rfl]
  simp [f15, b15, startE, e, ix, hle]
theorem c_box {c : Int} : (callP T tb W (k + 1)).1 13 [.int c] ν = some (.ok (.tok ν.length), ν ++ [.lst [.int c.natAbs, .bl (decide ((10 : Int) ^ 18 ≤ (c.natAbs : Int))), .int ((c.natAbs : Int).fmod 2147483629), .int 0]]) := by
  have a1 := iabs (ν := ν) c
  have p1 := binD_pow (i := 10) (j := 18) ⟨by decide, by decide, by decide⟩
  have m1 := binD_mod (i := (c.natAbs : Int)) (j := 2147483629) (by decide)
  rw [show (18 : Int).toNat = 18 from rfl] at p1
  generalize hz : (10 : Int) ^ 18 = z at p1 ⊢
  have fk : ∀ xs : List D, D.lows ν.length xs = true → fin ν.length f13.kp (some (.rt (.tok ν.length), ν ++ [.lst xs])) = some (.ok (.tok ν.length), ν ++ [.lst xs]) := fun xs hx => by
    show leave ν.length true (.tok ν.length) (ν ++ [.lst xs]) = _
    unfold leave
    rw [if_neg (by simp)]
    simp only
    rw [if_neg (by omega)]
    unfold leaveK
    rw [at_end]
    simp only
    rw [if_pos (show (D.lst xs).low ν.length = true from hx)]
    simp
  rw [run_call (fn := f13) rfl rfl]
  have e : evSs T (callP T tb W k).1 (callP T tb W k).2 ν.length W (startE f13 [.int c]) f13.body ν = some (.rt (.tok ν.length), ν ++ [.lst [.int c.natAbs, .bl (decide (z ≤ (c.natAbs : Int))), .int ((c.natAbs : Int).fmod 2147483629), .int 0]]) := by
    have ly : ∀ xs : List D, xs.length ≤ 16777216 → layL true xs ν = some (.ok (.tok ν.length), ν ++ [.lst xs]) := fun xs hx => by rw [lay_ok hx]; rfl
    simp [-bi_abs, f13, b13, startE, a1, p1, m1, ly]
  rw [e]
  exact fk _ rfl
theorem box_ok {c : Int} : Bx (ν ++ [.lst [.int c.natAbs, .bl (decide ((10 : Int) ^ 18 ≤ (c.natAbs : Int))), .int ((c.natAbs : Int).fmod 2147483629), .int 0]]) ν.length 0 := by
  obtain ⟨r1, r2⟩ := fmod_in (a := (c.natAbs : Int)) (m := 2147483629) (by decide)
  exact ⟨_, _, _, _, at_end, r1, by omega, by omega, by omega⟩
end
end K02

/-! drawn things. -/
namespace K02
open PySem EF
section
variable {W k : Nat} {ν : Sto}
theorem intsD_map (l : List Int) : intsD (l.map .int) = some l := by
  induction l with
  | nil => rfl
  | cons a l ih =>
    show (intsD (l.map .int)).map (a :: ·) = _
    rw [ih]
    rfl
theorem c_cell {ns : List Int} {i : Nat} (hi : i < 100) : ∃ c : Int, (callP T tb W (k + 1)).1 12 [.frz (ns.map .int), .int (i : Nat)] ν = some (.ok (.int c), ν) := by
  by_cases h : i < ns.length
  · refine ⟨ns[i], ?_⟩
    rw [run_call (fn := f12) rfl rfl]
    have ix : idxD ν (.frz (ns.map .int)) (.int (i : Int)) = some (.int ns[i]) := by
      rw [idx_frz, ixN_nat (by rw [List.length_map]; exact h)]
      show (ns.map D.int)[i]? = _
      rw [List.getElem?_map, List.getElem?_eq_getElem h]
      rfl
    simp [f12, b12, startE, h, ix]
  · refine ⟨7523 * (i : Int) + (ns.take 1).sum.fmod 1000211, ?_⟩
    rw [run_call (fn := f12) rfl rfl]
    have s1 : sliD false ν (.frz (ns.map .int)) none (some 1) = some (.lst ((ns.take 1).map .int)) := by
      show some (D.lst (cutL (ns.map D.int) none (some ((1 : Nat) : Int)))) = _
      rw [cut_to, List.map_take]
    have s2 : biD ν .sum [.lst ((ns.take 1).map .int)] = some (.int (ns.take 1).sum) := by
      show (intsD ((ns.take 1).map .int)).map _ = _
      rw [intsD_map]
      rfl
    have w1 := binD_mulI (wide_sm (i := 7523) (j := (i : Int)) (by decide) (Nat.lt_trans (show (i : Int).natAbs < 2 ^ 60 by omega) (by decide)))
    have m1 := binD_mod (i := (ns.take 1).sum) (j := 1000211) (by decide)
    generalize (ns.take 1).sum = z at s2 m1 ⊢
    generalize ((ns.take 1).map D.int) = zs at s1 s2
    simp [f12, b12, startE, h, s1, s2, w1, m1]
/-- a number's pair, fit for texts -/
structure Fit (t b : Int) : Prop where
  low : Low t b
  top : t.natAbs < 10 ^ 20
  bot : b.natAbs < 10 ^ 20
theorem c_lowF {t b : Int} (h : b ≠ 0) (ht : t.natAbs < 10 ^ 20) (hb : b.natAbs < 10 ^ 20) (hW : 10 ^ 400 < W) : ∃ t' b', (callP T tb W (k + 1)).1 16 [.int t, .int b] ν = some (.ok (.tup [.int t', .int b']), ν) ∧ Fit t' b' := by
  obtain ⟨h1, h2⟩ := low_small h ht hb
  exact ⟨_, _, c_low h (Nat.lt_trans hb (by decide +kernel)) (Nat.lt_trans hb (Nat.lt_trans (by decide +kernel) hW)), low_low h, h1, h2⟩
theorem c_number {n q : Nat} (h : Bx ν n q) (hq : q < 2 ^ 37) (hW : 10 ^ 400 < W) : ∃ t b ν', (callP T tb W (k + 3)).1 17 [.tok n] ν = some (.ok (.tup [.int t, .int b]), ν') ∧ Fit t b ∧ Bx ν' n (q + 3) ∧ ν'.length = ν.length := by
  rw [run_call (fn := f17) rfl rfl]
  obtain ⟨d, ν1, e1, a1, a2, B1, l1⟩ := c_take (W := W) (k := k + 1) (many := 8) h (by omega) (by decide) (by decide)
  by_cases c1 : d < 4
  · by_cases c2 : 0 < d
    · obtain ⟨d2, ν2, e2, x1, x2, B2, l2⟩ := c_take (W := W) (k := k + 1) (many := 9) B1 (by omega) (by decide) (by decide)
      have hle : ν2.length ≤ ν.length := by omega
      refine ⟨d2 - 4, 1, ν2, ?_, ⟨low_int _, by omega, by decide⟩, B2.mono (by omega), by omega⟩
      simp [f17, b17, startE, e1, c1, c2, e2, hle]
    · have hle : ν1.length ≤ ν.length := by omega
      refine ⟨0, 1, ν1, ?_, ⟨low_int _, by decide, by decide⟩, B1.mono (by omega), by omega⟩
      simp [f17, b17, startE, e1, c1, c2, hle]
  · obtain ⟨d2, ν2, e2, x1, x2, B2, l2⟩ := c_take (W := W) (k := k + 1) (many := 13) B1 (by omega) (by decide) (by decide)
    obtain ⟨d3, ν3, e3, y1, y2, B3, l3⟩ := c_take (W := W) (k := k + 1) (many := 5) B2 (by omega) (by decide) (by decide)
    obtain ⟨t, b, e4, F⟩ := c_lowF (W := W) (k := k + 1) (ν := ν3) (t := d2 - 6) (b := 1 + d3) (by omega) (by omega) (by omega) hW
    have hle : ν3.length ≤ ν.length := by omega
    refine ⟨t, b, ν3, ?_, F, B3.mono (by omega), by omega⟩
    simp [f17, b17, startE, e1, c1, e2, e3, e4, hle]
theorem c_great {n q : Nat} (h : Bx ν n q) (hq : q < 2 ^ 37) (hW : 10 ^ 400 < W) : ∃ t b ν', (callP T tb W (k + 3)).1 24 [.tok n] ν = some (.ok (.tup [.int t, .int b]), ν') ∧ Fit t b ∧ Bx ν' n (q + 5) ∧ ν'.length = ν.length := by
  rw [run_call (fn := f24) rfl rfl]
  obtain ⟨d, ν1, e1, a1, a2, B1, l1⟩ := c_take (W := W) (k := k + 1) (many := 1000000) h (by omega) (by decide) (by decide)
  obtain ⟨d2, ν2, e2, x1, x2, B2, l2⟩ := c_take (W := W) (k := k + 1) (many := 1000000) B1 (by omega) (by decide) (by decide)
  obtain ⟨d3, ν3, e3, y1, y2, B3, l3⟩ := c_take (W := W) (k := k + 1) (many := 2) B2 (by omega) (by decide) (by decide)
  obtain ⟨d4, ν4, e4, z1, z2, B4, l4⟩ := c_take (W := W) (k := k + 1) (many := 1000000) B3 (by omega) (by decide) (by decide)
  obtain ⟨d5, ν5, e5, u1, u2, B5, l5⟩ := c_take (W := W) (k := k + 1) (many := 4) B4 (by omega) (by decide) (by decide)
  have p6 : binD .pow (.int 10) (.int 6) = some (.int 1000000) := by
    rw [binD_pow ⟨by decide, by decide, by decide⟩]; rfl
  have p19 : binD .pow (.int 10) (.int 19) = some (.int 10000000000000000000) := by
    rw [binD_pow ⟨by decide, by decide, by decide⟩]; rfl
  have p10 : binD .pow (.int 10) (.int 10) = some (.int 10000000000) := by
    rw [binD_pow ⟨by decide, by decide, by decide⟩]; rfl
  have w1 := binD_mulI (wide_sm (i := d) (j := 1000000) (Nat.lt_trans (show d.natAbs < 2 ^ 60 by omega) (by decide)) (by decide))
  have w2 := binD_mulI (wide_sm (i := 2) (j := d3) (by decide) (Nat.lt_trans (show d3.natAbs < 2 ^ 60 by omega) (by decide)))
  have w3 := binD_mulI (wide_sm (i := 10000000000000000000 + d * 1000000 + d2) (j := 1 - 2 * d3) (Nat.lt_trans (show (10000000000000000000 + d * 1000000 + d2).natAbs < 2 ^ 70 by omega) (by decide)) (Nat.lt_trans (show (1 - 2 * d3).natAbs < 2 ^ 60 by omega) (by decide)))
  have hs : d3 = 0 ∨ d3 = 1 := by omega
  have htop : ((10000000000000000000 + d * 1000000 + d2) * (1 - 2 * d3)).natAbs < 10 ^ 20 := by
    rcases hs with rfl | rfl <;> omega
  generalize (10000000000000000000 + d * 1000000 + d2) * (1 - 2 * d3) = top at w3 htop
  obtain ⟨v, hv, hv1, hv2⟩ : ∃ v : Int, idxD ν5 (.lst [.int 1, .int (10000000000000000000 + d4), .int 2, .int (10000000000 + 1)]) (.int d5) = some (.int v) ∧ v ≠ 0 ∧ v.natAbs < 10 ^ 20 := by
    have : d5 = 0 ∨ d5 = 1 ∨ d5 = 2 ∨ d5 = 3 := by omega
    rcases this with rfl | rfl | rfl | rfl
    · exact ⟨1, rfl, by decide, by decide⟩
    · exact ⟨_, rfl, by omega, by omega⟩
    · exact ⟨2, rfl, by decide, by decide⟩
    · exact ⟨_, rfl, by decide, by decide⟩
  obtain ⟨t, b, e6, F⟩ := c_lowF (W := W) (k := k + 1) (ν := ν5) (t := top) (b := v) hv1 htop hv2 hW
  have hle : ν5.length ≤ ν.length := by omega
  refine ⟨t, b, ν5, ?_, F, B5, by omega⟩
  simp at hv
  simp [f24, b24, startE, p6, p19, p10, e1, e2, e3, e4, e5, w1, w2, w3, hv, e6, hle]
theorem c_pass {n q : Nat} {t b : Int} (h : Bx ν n q) (hq : q < 2 ^ 37) (F : Fit t b) : ∃ v ν', (callP T tb W (k + 4)).1 18 [.tok n, .tup [.int t, .int b]] ν = some (.ok v, ν') ∧ Num v t b ∧ Bx ν' n (q + 3) ∧ ν'.length = ν.length := by
  rw [run_call (fn := f18) rfl rfl]
  have ht := F.top
  have hb := F.bot
  have hbp := F.low.pos
  have aa := iabs (ν := ν) t
  have p18 : binD .pow (.int 10) (.int 18) = some (.int 1000000000000000000) := by
    rw [binD_pow ⟨by decide, by decide, by decide⟩]; rfl
  -- behind by
  have rest : ∀ (by' : Int) (ν1 : Sto), 0 < by' → by' ≤ 3 → Bx ν1 n (q + 1) → ν1.length = ν.length → ∃ v ν', fin ν.length f18.kp (evSs T (callP T tb W (k + 3)).1 (callP T tb W (k + 3)).2 ν.length W [some (.tok n), some (.tup [.int t, .int b]), some (.int by')] (match b18 with | .cons _ r => r | .nil => .nil) ν1) = some (.ok v, ν') ∧ Num v t b ∧ Bx ν' n (q + 3) ∧ ν'.length = ν.length := fun by' ν1 hy1 hy2 B1 l1 => by
    -- the Ratio
    have rt : ∀ ν2 : Sto, Bx ν2 n (q + 2) → ν2.length = ν.length → ∃ v ν', fin ν.length f18.kp (evSs T (callP T tb W (k + 3)).1 (callP T tb W (k + 3)).2 ν.length W [some (.tok n), some (.tup [.int t, .int b]), some (.int by')] (match b18 with | .cons _ (.cons _ r) => r | _ => .nil) ν2) = some (.ok v, ν') ∧ Num v t b ∧ Bx ν' n (q + 3) ∧ ν'.length = ν.length := fun ν2 B2 l2 => by
      obtain ⟨d, ν3, e3, y1, y2, B3, l3⟩ := c_take (W := W) (k := k + 2) (many := 3) B2 (by omega) (by decide) (by decide)
      have w1 := binD_mulI (wide_sm (i := t) (j := by') (Nat.lt_trans ht (by decide +kernel)) (Nat.lt_trans (show by'.natAbs < 2 ^ 60 by omega) (by decide)))
      have w2 := binD_mulI (wide_sm (i := b) (j := by') (Nat.lt_trans hb (by decide +kernel)) (Nat.lt_trans (show by'.natAbs < 2 ^ 60 by omega) (by decide)))
      have hbb : b * by' ≠ 0 := Int.mul_ne_zero (by omega) (by omega)
      have hbs : (b * by').natAbs < 2 ^ 8000 := by
        rw [Int.natAbs_mul]
        refine Nat.lt_of_le_of_lt (Nat.mul_le_mul (Nat.le_of_lt hb) (show by'.natAbs ≤ 3 by omega)) (by decide +kernel)
      have hle : ν3.length ≤ ν.length := by omega
      by_cases c : 0 < d
      · obtain ⟨q1, q2⟩ := low_mul F.low (c := by') (by omega)
        have m := mk_ratio (W := W) (k := k) (ν := ν3) (t := t * by') (b := b * by') hbb hbs
        rw [q1, q2] at m
        refine ⟨ratD t b, ν3, ?_, .rat t b, B3, by omega⟩
        simp only [b18]
        simp [ix0, ix1, e3, c, w1, w2, m, hle]
      · have z1 : 0 - t * by' = t * (-by') := by rw [Int.mul_neg]; omega
        have z2 : 0 - b * by' = b * (-by') := by rw [Int.mul_neg]; omega
        obtain ⟨q1, q2⟩ := low_mul F.low (c := -by') (by omega)
        rw [← z1, ← z2] at q1 q2
        have m := mk_ratio (W := W) (k := k) (ν := ν3) (t := 0 - t * by') (b := 0 - b * by') (by omega) (by rw [show (0 - b * by').natAbs = (b * by').natAbs by omega]; exact hbs)
        rw [q1, q2] at m
        refine ⟨ratD t b, ν3, ?_, .rat t b, B3, by omega⟩
        simp only [b18]
        simp [-Int.zero_sub, ix0, ix1, e3, c, w1, w2, m, hle]
    simp only [b18] at rt ⊢
    by_cases c : b = 1
    · obtain ⟨d, ν2, e2, x1, x2, B2, l2⟩ := c_take (W := W) (k := k + 2) (many := 4) B1 (by omega) (by decide) (by decide)
      by_cases c2 : 0 < d
      · have hle : ν2.length ≤ ν.length := by omega
        refine ⟨.int t, ν2, ?_, by rw [c]; exact .int t, B2.mono (by omega), by omega⟩
        subst c
        simp [ix0, ix1, e2, c2, hle]
      · obtain ⟨v, ν', r1, r2, r3, r4⟩ := rt ν2 (B2.mono (by omega)) (by omega)
        refine ⟨v, ν', ?_, r2, r3, r4⟩
        subst c
        simp [ix1, e2, c2] at r1 ⊢
        exact r1
    · have c' : (b == 1) = false := by simpa using c
      obtain ⟨v, ν', r1, r2, r3, r4⟩ := rt ν1 (B1.mono (by omega)) (by omega)
      refine ⟨v, ν', ?_, r2, r3, r4⟩
      simp [ix1, c'] at r1 ⊢
      exact r1
  simp only [b18] at rest
  by_cases c : (t.natAbs : Int) + b < 1000000000000000000
  · obtain ⟨d, ν1, e1, a1, a2, B1, l1⟩ := c_take (W := W) (k := k + 2) (many := 3) h (by omega) (by decide) (by decide)
    obtain ⟨v, ν', r1, r2, r3, r4⟩ := rest (1 + d) ν1 (by omega) (by omega) B1 l1
    refine ⟨v, ν', ?_, r2, r3, r4⟩
    simp [-bi_abs, f18, b18, startE, ix0, ix1, aa, p18, c, e1] at r1 ⊢
    exact r1
  · obtain ⟨v, ν', r1, r2, r3, r4⟩ := rest 1 ν (by omega) (by omega) (h.mono (by omega)) rfl
    refine ⟨v, ν', ?_, r2, r3, r4⟩
    simp [-bi_abs, f18, b18, startE, ix0, ix1, aa, p18, c] at r1 ⊢
    exact r1
theorem c_power {b : Int} {c : Nat} (hc : c ≤ 100) (hW : 2000 < W) (hs : b.natAbs < 2 ^ 8) : (callP T tb W (k + 1)).1 33 [.int b, .int (c : Nat)] ν = some (.ok (.int (b ^ c)), ν) := by
  rw [run_call (fn := f33) rfl rfl]
  have lp : ∃ o, loopT T (callP T tb W k).1 (callP T tb W k).2 ν.length W (.nm 3) (.cons (.asg (.nm 2) (.bin .mul (.var 2) (.var 0))) .nil) (.rng 0 c) W 0 [some (.int b), some (.int (c : Int)), some (.int 1), none] ν = some (.nx [some (.int b), some (.int (c : Int)), some (.int (b ^ c)), o], ν) := by
    obtain ⟨env', ν', e, p⟩ := loop_inv (T := T) (F := (callP T tb W k).1) (F1 := (callP T tb W k).2) (n0 := ν.length) (W := W) (t := .nm 3) (b := .cons (.asg (.nm 2) (.bin .mul (.var 2) (.var 0))) .nil) (src := .rng 0 c) (n := c)
      (fun i env ν' => ν' = ν ∧ ∃ o, env = [some (.int b), some (.int (c : Int)), some (.int (b ^ i)), o])
      (fun i hi env ν' p => by
        obtain ⟨rfl, o, rfl⟩ := p
        have w1 := binD_mulI (wide_pow (t := b) (s := b) (i := i) (Nat.lt_trans hs (by decide)) (by omega) (Nat.lt_trans hs (by decide)))
        refine ⟨_, _, _, _, srcN_rng hi, rfl, ?_, rfl, some (.int (i : Nat)), rfl⟩
        simp [w1, setAll, Int.pow_succ]) (fun env ν' p => srcN_end) c 0 W [some (.int b), some (.int (c : Int)), some (.int 1), none] ν (by omega) (by omega) ⟨rfl, none, by simp⟩
    obtain ⟨rfl, o, rfl⟩ := p
    exact ⟨o, e⟩
  obtain ⟨o, lp⟩ := lp
  have rg := rng_n (ν := ν) (c := c) (by omega)
  simp [-rng1_0, f33, b33, startE, rg, lp]
end
end K02

/-! texts bent and made. -/
namespace K02
open PySem EF
section
variable {W k : Nat} {ν : Sto}
/-- a text of at most m signs -/
def isS (m : Nat) : D → Bool
  | .str x => decide (x.length ≤ m)
  | _ => false
theorem of_isS {m : Nat} {d : D} (h : isS m d = true) : ∃ x : Str, d = .str x ∧ x.length ≤ m := by
  cases d <;> first | (cases h; done) | exact ⟨_, rfl, of_decide_eq_true h⟩
theorem addS {x y : Str} {m l : Nat} (hx : x.length ≤ m) (hy : y.length ≤ l) (h : m + l ≤ 100000) : ∃ z : Str, binD .add (.str x) (.str y) = some (.str z) ∧ z.length ≤ m + l := by
  refine ⟨x ++ y, binD_addS (line_le (by omega)), ?_⟩
  rw [len_app]
  omega
theorem takeS {x : Str} {m : Nat} (hx : x.length ≤ m) (hm : m ≤ 1000) (i : Nat) : ∃ z : Str, sliD false ν (.str x) none (some (i : Int)) = some (.str z) ∧ z.length ≤ m := by
  refine ⟨_, sli_to (by omega) i, ?_⟩
  rw [len_tl, tl_mkS, List.length_take, ← len_tl]
  omega
theorem dropS {x : Str} {m : Nat} (hx : x.length ≤ m) (hm : m ≤ 1000) (i : Nat) : ∃ z : Str, sliD false ν (.str x) (some (i : Int)) none = some (.str z) ∧ z.length ≤ m := by
  refine ⟨_, sli_from (by omega) i, ?_⟩
  rw [len_tl, tl_mkS, List.length_drop, ← len_tl]
  omega
theorem c_pickS {n q m : Nat} {xs : List D} (h : Bx ν n q) (hq : q < 2 ^ 38) (hx : 0 < xs.length) (hl : xs.length ≤ 1000) (hs : xs.all (isS m) = true) : ∃ x ν', (callP T tb W (k + 2)).1 15 [.tok n, .lst xs] ν = some (.ok (.str x), ν') ∧ x.length ≤ m ∧ Bx ν' n (q + 1) ∧ ν'.length = ν.length := by
  obtain ⟨d, ν', e, hd, B, l⟩ := c_pick (W := W) (k := k) h hq hx hl
  obtain ⟨x, rfl, hx2⟩ := of_isS (List.all_eq_true.mp hs d hd)
  exact ⟨x, ν', e, hx2, B, l⟩
theorem c_spoilt {n q : Nat} {x : Str} (h : Bx ν n q) (hq : q < 2 ^ 37) (hx : x.length ≤ 300) : ∃ y ν', (callP T tb W (k + 3)).1 31 [.tok n, .str x] ν = some (.ok (.str y), ν') ∧ y.length ≤ 1000 ∧ Bx ν' n (q + 4) ∧ ν'.length = ν.length := by
  rw [run_call (fn := f31) rfl rfl]
  have lx := len_str (x := x) (by omega)
  obtain ⟨d1, ν1, e1, a1, a2, B1, l1⟩ := c_take (W := W) (k := k + 1) (many := (x.length : Int) + 1) h (by omega) (by omega) (by omega)
  obtain ⟨i, rfl⟩ := Int.eq_ofNat_of_zero_le a1
  obtain ⟨s, ν2, e2, s1, B2, l2⟩ := c_pickS (W := W) (k := k) (m := 1) (xs := [.str "0", .str "7", .str "-", .str "/", .str " ", .str "+", .str ".", .str "_", .str "e", .str "a"]) B1 (by omega) (by decide) (by decide) (by decide +kernel)
  obtain ⟨d3, ν3, e3, b1, b2, B3, l3⟩ := c_take (W := W) (k := k + 1) (many := 6) B2 (by omega) (by decide) (by decide)
  have hle : ν3.length ≤ ν.length := by omega
  obtain ⟨t1, p1, q1⟩ := takeS (ν := ν3) hx (by decide) i
  obtain ⟨t2, p2, q2⟩ := dropS (ν := ν3) hx (by decide) i
  obtain ⟨t3, p3, q3⟩ := dropS (ν := ν3) hx (by decide) (i + 1)
  obtain ⟨u1, v1, w1⟩ := addS q1 s1 (by decide)
  obtain ⟨u2, v2, w2⟩ := addS w1 q2 (by decide)
  obtain ⟨u3, v3, w3⟩ := addS q1 q3 (by decide)
  obtain ⟨u4, v4, w4⟩ := addS w1 q3 (by decide)
  obtain ⟨u5, v5, w5⟩ := addS hx q2 (by decide)
  have p3 : sliD false ν3 (.str x) (some ((i : Int) + 1)) none = some (.str t3) := p3
  by_cases c0 : d3 = 0
  · subst c0
    refine ⟨u2, ν3, ?_, by omega, B3.mono (by omega), by omega⟩
    simp [f31, b31, startE, lx, e1, e2, e3, p1, v1, p2, v2, hle]
  by_cases c1 : d3 = 1
  · subst c1
    refine ⟨u3, ν3, ?_, by omega, B3.mono (by omega), by omega⟩
    simp [f31, b31, startE, lx, e1, e2, e3, p1, p3, v3, hle]
  by_cases c2 : d3 = 2
  · subst c2
    refine ⟨u4, ν3, ?_, by omega, B3.mono (by omega), by omega⟩
    simp [f31, b31, startE, lx, e1, e2, e3, p1, p3, v1, v4, hle]
  by_cases c3 : d3 = 3
  · subst c3
    refine ⟨u5, ν3, ?_, by omega, B3.mono (by omega), by omega⟩
    simp [f31, b31, startE, lx, e1, e2, e3, p2, v5, hle]
  have z0 : (d3 == 0) = false := by simpa using c0
  have z1 : (d3 == 1) = false := by simpa using c1
  have z2 : (d3 == 2) = false := by simpa using c2
  have z3 : (d3 == 3) = false := by simpa using c3
  have sh : ∀ y : Str, y.length ≤ 2 → (∃ z : Str, binD .add (.str x) (.str y) = some (.str z) ∧ z.length ≤ 302) ∧ (∃ z : Str, binD .add (.str y) (.str x) = some (.str z) ∧ z.length ≤ 302) := fun y hy => ⟨addS hx hy (by decide), by
    obtain ⟨z, h1, h2⟩ := addS hy hx (by decide)
    exact ⟨z, h1, by omega⟩⟩
  obtain ⟨⟨y1, f1, g1⟩, ⟨y2, f2, g2⟩⟩ := sh " " (by decide +kernel)
  obtain ⟨⟨y3, f3, g3⟩, _⟩ := sh "\n" (by decide +kernel)
  obtain ⟨_, ⟨y4, f4, g4⟩⟩ := sh "+" (by decide +kernel)
  obtain ⟨_, ⟨y5, f5, g5⟩⟩ := sh "0" (by decide +kernel)
  obtain ⟨_, ⟨y6, f6, g6⟩⟩ := sh "-" (by decide +kernel)
  obtain ⟨⟨y7, f7, g7⟩, _⟩ := sh "/1" (by decide +kernel)
  obtain ⟨⟨y8, f8, g8⟩, _⟩ := sh "/0" (by decide +kernel)
  obtain ⟨⟨y9, f9, g9⟩, ⟨y10, f10, g10⟩⟩ := sh "/" (by decide +kernel)
  obtain ⟨⟨y11, f11, g11⟩, _⟩ := sh "/2" (by decide +kernel)
  obtain ⟨y12, f12, g12⟩ : ∃ z : Str, revD ν3 (.str x) = some (.str z) ∧ z.length ≤ 302 := by
    refine ⟨⟨x.cps.toList.reverse.toArray⟩, if_pos (line_le (by omega)), ?_⟩
    show (x.cps.toList.reverse.toArray).size ≤ 302
    have : x.length = x.cps.toList.length := len_tl x
    simp at this ⊢
    omega
  obtain ⟨y, ν4, e4, h4, B4, l4⟩ := c_pickS (W := W) (k := k) (m := 302) (xs := [.str y1, .str y2, .str y3, .str y4, .str y5, .str y6, .str y7, .str y8, .str y9, .str y10, .str y11, .str y12]) B3 (by omega) (by simp) (by simp) (by simp [isS, g1, g2, g3, g4, g5, g6, g7, g8, g9, g10, g11, g12])
  have hle4 : ν4.length ≤ ν.length := by omega
  refine ⟨y, ν4, ?_, by omega, B4.mono (by omega), by omega⟩
  simp [f31, b31, startE, lx, e1, e2, e3, z0, z1, z2, z3, f1, f2, f3, f4, f5, f6, f7, f8, f9, f10, f11, f12, e4, hle4]
theorem repS {x : Str} {m c : Nat} (hx : x.length ≤ m) (hm : m ≤ 10) (hc : c ≤ 100) : ∃ z : Str, binD .mul (.str x) (.int (c : Int)) = some (.str z) ∧ z.length ≤ c * m := by
  refine ⟨⟨(repD c x.cps.toList).toArray⟩, if_pos ⟨by omega, by omega, by omega⟩, ?_⟩
  show (repD c x.cps.toList).toArray.size ≤ _
  have : x.length = x.cps.toList.length := len_tl x
  unfold repD
  simp only [List.size_toArray, List.length_flatten, List.map_replicate, List.sum_replicate_nat]
  rw [← this]
  exact Nat.mul_le_mul_left _ hx
theorem c_made {n q : Nat} (h : Bx ν n q) (hq : q < 2 ^ 37) : ∃ y ν', (callP T tb W (k + 3)).1 32 [.tok n] ν = some (.ok (.str y), ν') ∧ y.length ≤ 1000 ∧ Bx ν' n (q + 3) ∧ ν'.length = ν.length := by
  rw [run_call (fn := f32) rfl rfl]
  obtain ⟨d1, ν1, e1, a1, a2, B1, l1⟩ := c_take (W := W) (k := k + 1) (many := 5) h (by omega) (by omega) (by omega)
  obtain ⟨i, rfl⟩ := Int.eq_ofNat_of_zero_le a1
  obtain ⟨s, ν2, e2, s1, B2, l2⟩ := c_pickS (W := W) (k := k) (m := 1) (xs := [.str "1", .str "9", .str "3"]) B1 (by omega) (by decide) (by decide) (by decide +kernel)
  obtain ⟨r, r1, r2⟩ := repS (c := 17 + i) s1 (by decide) (by omega)
  have r1 : binD .mul (.str s) (.int (17 + (i : Int))) = some (.str r) := r1
  have r2 : r.length ≤ 30 := by omega
  have rep : ∀ (y : Str) (c : Nat), y.length ≤ 1 → c ≤ 30 → ∃ z : Str, binD .mul (.str y) (.int (c : Int)) = some (.str z) ∧ z.length ≤ 30 := fun y c hy hc => by
    obtain ⟨z, h1, h2⟩ := repS (c := c) hy (by decide) (by omega)
    exact ⟨z, h1, by omega⟩
  obtain ⟨s20, m20, n20⟩ := rep "7" 20 (by decide +kernel) (by decide)
  obtain ⟨s21, m21, n21⟩ := rep "7" 21 (by decide +kernel) (by decide)
  obtain ⟨z20, o20, k20⟩ := rep "0" 20 (by decide +kernel) (by decide)
  obtain ⟨z19, o19, k19⟩ := rep "0" 19 (by decide +kernel) (by decide)
  have m20 : binD .mul (.str "7") (.int 20) = some (.str s20) := m20
  have m21 : binD .mul (.str "7") (.int 21) = some (.str s21) := m21
  have o20 : binD .mul (.str "0") (.int 20) = some (.str z20) := o20
  have o19 : binD .mul (.str "0") (.int 19) = some (.str z19) := o19
  have ad : ∀ {x y : Str}, x.length ≤ 100 → y.length ≤ 100 → ∃ z : Str, binD .add (.str x) (.str y) = some (.str z) ∧ z.length ≤ 200 := fun hx hy => by
    obtain ⟨z, h1, h2⟩ := addS hx hy (by decide)
    exact ⟨z, h1, by omega⟩
  obtain ⟨u1, f1, g1⟩ := ad (x := "-") (y := r) (by decide +kernel) (by omega)
  obtain ⟨u2, f2, g2⟩ := ad (x := "1/") (y := r) (by decide +kernel) (by omega)
  obtain ⟨u3, f3, g3⟩ := ad (x := r) (y := "/2") (by omega) (by decide +kernel)
  obtain ⟨u4, f4, g4⟩ := addS (x := r) (y := "/") (m := 30) (l := 1) (by omega) (by decide +kernel) (by decide)
  obtain ⟨u5, f5, g5⟩ := ad (x := u4) (y := s20) (by omega) (by omega)
  obtain ⟨u6, f6, g6⟩ := ad (x := u4) (y := s21) (by omega) (by omega)
  obtain ⟨u7, f7, g7⟩ := ad (x := "1") (y := z19) (by decide +kernel) (by omega)
  obtain ⟨u8, f8, g8⟩ := ad (x := "1") (y := z20) (by decide +kernel) (by omega)
  have ap : binD .add (.lst [.str r, .str u1, .str u2, .str u3, .str u5, .str u6, .str z20, .str u7, .str u8]) (.lst [.str "-0", .str "0/3", .str "2/4", .str "-2/4", .str "3/1", .str "1/-2", .str "--1", .str "-", .str "", .str "1/2/3", .str "1 / 2", .str "1/02", .str "01/2", .str "1.5", .str "1e3", .str "0x1", .str "1_0", .str "-1/2", .str "7/-1", .str "True", .str "1/0", .str "0/0"]) =
      some (.lst [.str r, .str u1, .str u2, .str u3, .str u5, .str u6, .str z20, .str u7, .str u8, .str "-0", .str "0/3", .str "2/4", .str "-2/4", .str "3/1", .str "1/-2", .str "--1", .str "-", .str "", .str "1/2/3", .str "1 / 2", .str "1/02", .str "01/2", .str "1.5", .str "1e3", .str "0x1", .str "1_0", .str "-1/2", .str "7/-1", .str "True", .str "1/0", .str "0/0"]) :=
    binD_addL (line_le (by simp))
  have al : ([.str "-0", .str "0/3", .str "2/4", .str "-2/4", .str "3/1", .str "1/-2", .str "--1", .str "-", .str "", .str "1/2/3", .str "1 / 2", .str "1/02", .str "01/2", .str "1.5", .str "1e3", .str "0x1", .str "1_0", .str "-1/2", .str "7/-1", .str "True", .str "1/0", .str "0/0"] : List D).all (isS 200) = true := by decide +kernel
  generalize hL : ([.str "-0", .str "0/3", .str "2/4", .str "-2/4", .str "3/1", .str "1/-2", .str "--1", .str "-", .str "", .str "1/2/3", .str "1 / 2", .str "1/02", .str "01/2", .str "1.5", .str "1e3", .str "0x1", .str "1_0", .str "-1/2", .str "7/-1", .str "True", .str "1/0", .str "0/0"] : List D) = L at al ap
  have al2 : (([.str r, .str u1, .str u2, .str u3, .str u5, .str u6, .str z20, .str u7, .str u8] : List D) ++ L).all (isS 200) = true := by
    rw [List.all_append, al]
    simp [isS, g1, g2, g3, g5, g6, g7, g8, show r.length ≤ 200 by omega, show z20.length ≤ 200 by omega]
  have hLl : L.length = 22 := by rw [← hL]; rfl
  obtain ⟨y, ν3, e3, h3, B3, l3⟩ := c_pickS (W := W) (k := k) (m := 200) (xs := [.str r, .str u1, .str u2, .str u3, .str u5, .str u6, .str z20, .str u7, .str u8] ++ L) B2 (by omega) (by rw [List.length_append, hLl]; simp) (by rw [List.length_append, hLl]; simp) al2
  rw [← hL] at e3 ap
  have hle : ν3.length ≤ ν.length := by omega
  refine ⟨y, ν3, ?_, by omega, B3.mono (by omega), by omega⟩
  simp only [List.cons_append, List.nil_append] at e3
  simp [f32, b32, startE, setAll, e1, e2, r1, m20, m21, o20, o19, f1, f2, f3, f4, f5, f6, f7, f8, ap, e3, hle]
end
end K02

/-! values that are refused; a loop that draws. -/
namespace K02
open PySem EF
section
variable {W k : Nat} {ν : Sto}
/-- a value whose copy is kept -/
def Good (W k : Nat) (d : D) : Prop := ∀ μ : Sto, ∃ g μ1 μ2, (callP T tb W (k + 7)).1 23 [d] μ = some (.ok g, μ1) ∧ un μ1 g = d ∧ (callP T tb W (k + 7)).1 22 [g, g] μ1 = some (.ok (.bl true), μ2) ∧ μ.length ≤ μ2.length ∧ ∀ j, j ≤ μ.length → μ2.take j = μ.take j
theorem good_flat {d : D} (hu : ∀ μ, un μ d = d) (h3 : isiD d [.ty 3] = some false) (h4 : isiD d [.ty 4] = some false) (h5 : isiD d [.ty 5] = some false) (hl : ∀ μ, likes W (k + 6) μ d d) : Good W k d := fun μ =>
  ⟨d, μ, μ, c_copy_flat (k := k + 6) (by rw [hu]; exact h3) (by rw [hu]; exact h4) (by rw [hu]; exact h5), hu μ, c_keeps_flat (k := k + 3) (by rw [hu]; exact h3) (by rw [hu]; exact h5) (hl μ), Nat.le_refl _, fun _ _ => rfl⟩
theorem good_tup {xs : List D} (hx : ∀ x ∈ xs, flat x = true) (hl : xs.length < 3) (hW : 2000 < W) (he : ∀ x ∈ xs, ∀ μ : Sto, likes W (k + 5) μ x x) : Good W k (.tup xs) := fun μ =>
  ⟨.tup xs, μ, μ, c_copy_tup (k := k + 5) hx (by omega) hW, rfl, c_keeps_flat (k := k + 3) rfl rfl (c_like_tup (k := k + 5) rfl hl hW fun i a b ha hb => by
    rw [ha] at hb
    cases hb
    exact he a (List.mem_of_getElem? ha) μ), Nat.le_refl _, fun _ _ => rfl⟩
theorem take_app {μ : Sto} {d : D} {j : Nat} (h : j ≤ μ.length) : (μ ++ [d]).take j = μ.take j := List.take_append_of_le_length h
theorem good_lst {xs : List D} (hx : ∀ x ∈ xs, flat x = true) (hl : xs.length ≤ 100) (hW : 2000 < W) (he : ∀ x ∈ xs, ∀ μ : Sto, likes W (k + 5) μ x x) : Good W k (.lst xs) := fun μ => by
  obtain ⟨μ2, e1, e2, e3⟩ := c_keeps_lst (W := W) (k := k + 3) (ν := μ ++ [.lst xs]) (n := μ.length) (xs := xs) at_end hl hW he
  have c := c_copy_lst (W := W) (k := k + 5) (ν := μ) hx (by omega) hW
  refine ⟨.tok μ.length, μ ++ [.lst xs], μ2, ?_, ?_, ?_, ?_, fun j hj => ?_⟩
  · exact c
  · exact un_tokL at_end
  · exact e1
  · rw [e2]; simp
  · rw [e3 j hj, take_app hj]
theorem good_dct {xs : List Str} {vs : List D} (hx : (xs = [] ∧ vs = []) ∨ (xs = [("1" : Str)] ∧ vs = [.int 1])) (hW : 2000 < W) : Good W k (.dct (xs.map fun x => DK.one (.inr x)) vs) := fun μ => by
  obtain ⟨μ2, e1, e2, e3⟩ := c_keeps_dct (W := W) (k := k + 3) (ν := μ ++ [.dct (xs.map fun x => DK.one (.inr x)) vs]) (n := μ.length) hx at_end hW
  have c := c_copy_dct (W := W) (k := k + 5) (ν := μ) (xs := xs) (vs := vs) (by
    rcases hx with h | ⟨h1, h2⟩
    · exact Or.inl h
    · exact Or.inr ⟨_, _, h1, h2⟩) hW
  refine ⟨.tok μ.length, μ ++ [.dct (xs.map fun x => DK.one (.inr x)) vs], μ2, ?_, ?_, ?_, ?_, fun j hj => ?_⟩
  · exact c
  · exact un_tokK at_end
  · exact e1
  · rw [e2]; simp
  · rw [e3 j hj, take_app hj]
theorem rr_good {d : D} (hW : 2000 < W) (hu : ∀ μ, un μ d = d) (h2 : isiD d [.ty 2] = some false) (hg : Good W k d) (m : Bool) (ν : Sto) : (callP T tb W (k + 8)).1 30 [d, .bl m] ν = some (.ok (.bl true), ν) := by
  refine c_rr_no hW (c_law_read_bad (k := k + 6) (by rw [hu]; exact h2)) fun μ => ?_
  obtain ⟨g, μ1, μ2, e1, e2, e3, e4, e5⟩ := hg μ
  exact ⟨g, μ1, μ2, e1, c_read_bad (k := k + 5) (by rw [e2]; exact h2), e3, e4, e5⟩
def vals1 : List D := [.non, .int 5, .bl true, .lst [.str "1"], .tup [.str "1"], .dct [] [], ratD 1 2, .dct [.one (.inr "1")] [.int 1], .int 0, .tup []]
def vals2 : List D := [.non, .bl true, .bl false, .str "1", .str "1/2", .lst [.int 1], .tup [.int 1, .int 2], .dct [] []]
theorem like_one {μ : Sto} {k : Nat} (hW : 2000 < W) : likes W (k + 2) μ (.str "1") (.str "1") := c_like_str (by decide +kernel) hW
theorem vals1_rr (hW : 2000 < W) : ∀ d ∈ vals1, ∀ (m : Bool) (ν : Sto), (callP T tb W (k + 8)).1 30 [d, .bl m] ν = some (.ok (.bl true), ν) := fun d hd => by
  have key : d = .non ∨ d = .int 5 ∨ d = .bl true ∨ d = .lst [.str "1"] ∨ d = .tup [.str "1"] ∨ d = .dct [] [] ∨ d = ratD 1 2 ∨ d = .dct [.one (.inr "1")] [.int 1] ∨ d = .int 0 ∨ d = .tup [] := by
    simpa [vals1] using hd
  have l1 : ∀ x ∈ [D.str "1"], ∀ μ : Sto, likes W (k + 5) μ x x := fun x hx μ => by
    have : x = .str "1" := by simpa using hx
    subst this
    exact like_one (k := k + 3) hW
  have fl : ∀ x ∈ [D.str "1"], flat x = true := fun x hx => by
    have : x = .str "1" := by simpa using hx
    subst this
    rfl
  rcases key with rfl | rfl | rfl | rfl | rfl | rfl | rfl | rfl | rfl | rfl
  · exact rr_good hW (fun _ => rfl) rfl (good_flat (fun _ => rfl) rfl rfl rfl fun μ => c_like_non (k := k + 4))
  · exact rr_good hW (fun _ => rfl) rfl (good_flat (fun _ => rfl) rfl rfl rfl fun μ => c_like_int (k := k + 4))
  · exact rr_good hW (fun _ => rfl) rfl (good_flat (fun _ => rfl) rfl rfl rfl fun μ => c_like_bl (k := k + 4))
  · exact rr_good hW (fun _ => rfl) rfl (good_lst fl (by decide) hW l1)
  · exact rr_good hW (fun _ => rfl) rfl (good_tup fl (by decide) hW l1)
  · exact rr_good hW (fun _ => rfl) rfl (good_dct (xs := []) (vs := []) (Or.inl ⟨rfl, rfl⟩) hW)
  · exact rr_good hW (fun _ => rfl) rfl (good_flat (fun _ => rfl) rfl rfl rfl fun μ => c_like_rat (k := k + 4))
  · exact rr_good hW (fun _ => rfl) rfl (good_dct (xs := [("1" : Str)]) (vs := [.int 1]) (Or.inr ⟨rfl, rfl⟩) hW)
  · exact rr_good hW (fun _ => rfl) rfl (good_flat (fun _ => rfl) rfl rfl rfl fun μ => c_like_int (k := k + 4))
  · exact rr_good hW (fun _ => rfl) rfl (good_tup (xs := []) (fun x hx => by cases hx) (by decide) hW (fun x hx => by cases hx))
theorem vals2_good (hW : 2000 < W) : ∀ d ∈ vals2, Good W k d ∧ kn d = true ∧ isWh d = false ∧ isRt d = false := fun d hd => by
  have key : d = .non ∨ d = .bl true ∨ d = .bl false ∨ d = .str "1" ∨ d = .str "1/2" ∨ d = .lst [.int 1] ∨ d = .tup [.int 1, .int 2] ∨ d = .dct [] [] := by
    simpa [vals2] using hd
  rcases key with rfl | rfl | rfl | rfl | rfl | rfl | rfl | rfl
  · exact ⟨good_flat (fun _ => rfl) rfl rfl rfl fun μ => c_like_non (k := k + 4), rfl, rfl, rfl⟩
  · exact ⟨good_flat (fun _ => rfl) rfl rfl rfl fun μ => c_like_bl (k := k + 4), rfl, rfl, rfl⟩
  · exact ⟨good_flat (fun _ => rfl) rfl rfl rfl fun μ => c_like_bl (k := k + 4), rfl, rfl, rfl⟩
  · exact ⟨good_flat (fun _ => rfl) rfl rfl rfl fun μ => c_like_str (k := k + 4) (by decide +kernel) hW, rfl, rfl, rfl⟩
  · exact ⟨good_flat (fun _ => rfl) rfl rfl rfl fun μ => c_like_str (k := k + 4) (by decide +kernel) hW, rfl, rfl, rfl⟩
  · refine ⟨good_lst (fun x hx => ?_) (by decide) hW (fun x hx μ => ?_), rfl, rfl, rfl⟩
    · have : x = .int 1 := by simpa using hx
      subst this; rfl
    · have : x = .int 1 := by simpa using hx
      subst this; exact c_like_int (k := k + 3)
  · refine ⟨good_tup (fun x hx => ?_) (by decide) hW (fun x hx μ => ?_), rfl, rfl, rfl⟩
    · have : x = .int 1 ∨ x = .int 2 := by simpa using hx
      rcases this with rfl | rfl <;> rfl
    · have : x = .int 1 ∨ x = .int 2 := by simpa using hx
      rcases this with rfl | rfl <;> exact c_like_int (k := k + 3)
  · exact ⟨good_dct (xs := []) (vs := []) (Or.inl ⟨rfl, rfl⟩) hW, rfl, rfl, rfl⟩
end
theorem _root_.EF.loopC_inv {src : Src} {f : D → M (Option D)} {n : Nat} (P : Nat → List D → Sto → Prop)
    (hs : ∀ i, i < n → ∀ acc ν, P i acc ν → ∃ d r ν', srcN ν src i = some (some d) ∧ f d ν = some (.ok r, ν') ∧ acc.length < sizeLine ∧ P (i + 1) (acc ++ r.toList) ν')
    (he : ∀ acc ν, P n acc ν → srcN ν src n = some none) : ∀ (m i w : Nat) (acc : List D) (ν : Sto), i + m = n → m < w → P i acc ν → ∃ acc' ν', loopC src f w i acc ν = some (.ok acc', ν') ∧ P n acc' ν'
  | 0, i, w + 1, acc, ν, hi, hw, p => by
    have : i = n := by omega
    subst this
    exact ⟨acc, ν, loopC_stop (he acc ν p), p⟩
  | m + 1, i, w + 1, acc, ν, hi, hw, p => by
    obtain ⟨d, r, ν', h1, h2, h3, h4⟩ := hs i (by omega) acc ν p
    rw [loopC_go h1 h2 h3]
    exact loopC_inv P hs he m (i + 1) w _ ν' (by omega) (by omega) h4
  | _, _, 0, _, _, _, hw, _ => absurd hw (by omega)
end K02

/-! the law's own suite. -/
namespace K02
open PySem EF
def nthS : Ss → Nat → EF.S
  | .cons s _, 0 => s
  | .cons _ r, n + 1 => nthS r n
  | .nil, _ => .pass
def lbody : EF.S → Ss
  | .loop _ _ b => b
  | _ => .nil
def lbS : Ss := lbody (nthS b34 0)
def sL (i : Nat) : EF.S := nthS lbS i
section
variable {W k : Nat} {ν : Sto} {n0 : Nat}
abbrev G (W k : Nat) : Nat → List D → M D := (callP T tb W (k + 8)).1
abbrev G1 (W k : Nat) : Nat → List D → M D := (callP T tb W (k + 8)).2
def IsPair (d : D) : Prop := ∃ t b, d = .tup [.int t, .int b] ∧ Fit t b
/-- the pairs -/
theorem s_pairs {n q : Nat} {o0 o1 o3 o4 o5 o6 o7 o9 o10 o11 o12 o13 : Option D} {g : Bool} (h : Bx ν n q) (hq : q < 2 ^ 36) (hW : 10 ^ 400 < W) : ∃ ps ν', evS T (G W k) (G1 W k) n0 W [o0, o1, some (.tok n), o3, o4, o5, o6, o7, some (.bl g), o9, o10, o11, o12, o13] (sL 2) ν = some (.nx [o0, o1, some (.tok n), some (.lst ps), o4, o5, o6, o7, some (.bl g), o9, o10, o11, o12, o13], ν') ∧ ps.length = 6 ∧ (∀ d ∈ ps, IsPair d) ∧ Bx ν' n (q + 36) ∧ ν'.length = ν.length := by
  have hW2 : 2000 < W := Nat.lt_trans (by decide +kernel) hW
  obtain ⟨ps, ν', e, p1, p2, p3, p4⟩ := loopC_inv (src := .rng 0 6) (n := 6) (f := turnE T (G W k) (G1 W k) n0 W [o0, o1, some (.tok n), o3, o4, o5, o6, o7, some (.bl g), o9, o10, o11, o12, o13] (.ife (.and (.var 8) (.cmp .eq (.call 14 (.cons (.var 2) (.cons (.lit (.int 2)) .nil))) (.lit (.int 0)))) (.call 24 (.cons (.var 2) .nil)) (.call 17 (.cons (.var 2) .nil))) (.nm 5) .none [5])
    (fun i acc ν' => acc.length = i ∧ (∀ d ∈ acc, IsPair d) ∧ Bx ν' n (q + i * 6) ∧ ν'.length = ν.length)
    (fun i hi acc μ p => by
      obtain ⟨p1, p2, p3, p4⟩ := p
      have fin' : ∀ (d : D) (μ' : Sto), IsPair d → Bx μ' n (q + (i + 1) * 6) → μ'.length = ν.length → (acc ++ (some d).toList).length = i + 1 ∧ (∀ x ∈ acc ++ (some d).toList, IsPair x) ∧ Bx μ' n (q + (i + 1) * 6) ∧ μ'.length = ν.length := fun d μ' hd hB hl => by
        refine ⟨by simp [p1], fun x hx => ?_, hB, hl⟩
        rcases List.mem_append.mp hx with hx | hx
        · exact p2 x hx
        · have : x = d := by simpa using hx
          rw [this]; exact hd
      have hline : acc.length < sizeLine := by rw [sizeLine_eq]; omega
      have tE : ∀ (d : D) (μ' : Sto), evE T (G W k) (G1 W k) n0 W [o0, o1, some (.tok n), o3, o4, some (.int (i : Nat)), o6, o7, some (.bl g), o9, o10, o11, o12, o13] (.ife (.and (.var 8) (.cmp .eq (.call 14 (.cons (.var 2) (.cons (.lit (.int 2)) .nil))) (.lit (.int 0)))) (.call 24 (.cons (.var 2) .nil)) (.call 17 (.cons (.var 2) .nil))) μ = some (.ok d, μ') → turnE T (G W k) (G1 W k) n0 W [o0, o1, some (.tok n), o3, o4, o5, o6, o7, some (.bl g), o9, o10, o11, o12, o13] (.ife (.and (.var 8) (.cmp .eq (.call 14 (.cons (.var 2) (.cons (.lit (.int 2)) .nil))) (.lit (.int 0)))) (.call 24 (.cons (.var 2) .nil)) (.call 17 (.cons (.var 2) .nil))) (.nm 5) .none [5] (.int (i : Nat)) μ = some (.ok (some d), μ') := fun d μ' h => by
        rw [turnE_ap (env1 := [o0, o1, some (.tok n), o3, o4, some (.int (i : Nat)), o6, o7, some (.bl g), o9, o10, o11, o12, o13]) rfl, m_cN, k_t1_0, h]
        rfl
      cases g with
      | false =>
        obtain ⟨t, b, μ', e, F, B, l⟩ := c_number (W := W) (k := k + 5) p3 (by omega) hW
        refine ⟨_, some (.tup [.int t, .int b]), μ', srcN_rng hi, tE _ _ ?_, hline, fin' _ _ ⟨t, b, rfl, F⟩ (B.mono (by omega)) (by omega)⟩
        simp [e]
      | true =>
        obtain ⟨d, μ1, e1, a1, a2, B1, l1⟩ := c_take (W := W) (k := k + 7) (many := 2) p3 (by omega) (by decide) (by decide)
        by_cases c : d = 0
        · obtain ⟨t, b, μ', e, F, B, l⟩ := c_great (W := W) (k := k + 5) B1 (by omega) hW
          refine ⟨_, some (.tup [.int t, .int b]), μ', srcN_rng hi, tE _ _ ?_, hline, fin' _ _ ⟨t, b, rfl, F⟩ (B.mono (by omega)) (by omega)⟩
          subst c
          simp [e1, e]
        · obtain ⟨t, b, μ', e, F, B, l⟩ := c_number (W := W) (k := k + 5) B1 (by omega) hW
          have c' : (d == 0) = false := by simpa using c
          refine ⟨_, some (.tup [.int t, .int b]), μ', srcN_rng hi, tE _ _ ?_, hline, fin' _ _ ⟨t, b, rfl, F⟩ (B.mono (by omega)) (by omega)⟩
          simp [e1, e, c'])
    (fun acc ν p => srcN_end) 6 0 W [] ν rfl (by omega) ⟨rfl, (fun d hd => by cases hd), h.mono (by omega), rfl⟩
  refine ⟨ps, ν', ?_, p1, p2, p3.mono (by omega), p4⟩
  have rg : rng1 (some (.ok [.int 6], ν)) = some (.ok (.rng 0 6), ν) := rng_n (c := 6) (by decide)
  show evS T (G W k) (G1 W k) n0 W [o0, o1, some (.tok n), o3, o4, o5, o6, o7, some (.bl g), o9, o10, o11, o12, o13] (.asg (.nm 3) (.comp false (.ife (.and (.var 8) (.cmp .eq (.call 14 (.cons (.var 2) (.cons (.lit (.int 2)) .nil))) (.lit (.int 0)))) (.call 24 (.cons (.var 2) .nil)) (.call 17 (.cons (.var 2) .nil))) (.nm 5) (.rng (.cons (.lit (.int 6)) .nil)) .none [5])) ν = _
  simp at e
  simp [-rng1_0, rg, e]
end
end K02

/-! the law's loop over the pairs. -/
namespace K02
open PySem EF
section
variable {W k : Nat} {ν : Sto} {n0 : Nat}
theorem numT_len {t b : Int} (ht : t.natAbs < 10 ^ 20) (hb : b.natAbs < 10 ^ 20) : (numT t b).length ≤ 300 := by
  rw [len_tl, tl_numT]
  have h1 := numZ_len (i := t) (m := 20) (by decide) ht
  have h2 := numZ_len (i := b) (m := 20) (by decide) hb
  split
  · omega
  · rw [List.length_append, List.length_cons]; omega
theorem rgn (c : Nat) (h : c ≤ 1000) (μ : Sto) : rng1 (some (.ok [.int (c : Int)], μ)) = some (.ok (.rng 0 c), μ) := rng_n h
def sB (i : Nat) : EF.S := nthS (lbody (sL 3)) i
/-- the bent texts -/
theorem s_bent {n q : Nat} {o0 o1 o3 o4 o5 o6 o8 o10 o11 o12 o13 : Option D} {m : Bool} {x : Str} (h : Bx ν n q) (hq : q < 2 ^ 36 + 1000) (hW : 10 ^ 400 < W) (hx : x.length ≤ 300) : ∃ o5' ν', evS T (G W k) (G1 W k) n0 W [o0, o1, some (.tok n), o3, o4, o5, o6, some (.bl m), o8, some (.str x), o10, o11, o12, o13] (sB 3) ν = some (.nx [o0, o1, some (.tok n), o3, o4, o5', o6, some (.bl m), o8, some (.str x), o10, o11, o12, o13], ν') ∧ Bx ν' n (q + 16) ∧ ν'.length = ν.length := by
  have hW2 : 2000 < W := Nat.lt_trans (by decide +kernel) hW
  obtain ⟨env', ν', e, o5', rfl, B, l⟩ := loop_inv (T := T) (F := G W k) (F1 := G1 W k) (n0 := n0) (W := W) (t := .nm 5) (b := lbody (sB 3)) (src := .rng 0 4) (n := 4)
    (fun i env μ => ∃ o5', env = [o0, o1, some (.tok n), o3, o4, o5', o6, some (.bl m), o8, some (.str x), o10, o11, o12, o13] ∧ Bx μ n (q + i * 4) ∧ μ.length = ν.length)
    (fun i hi env μ p => by
      obtain ⟨o5', rfl, B, l⟩ := p
      obtain ⟨y, μ', e1, hy, B1, l1⟩ := c_spoilt (W := W) (k := k + 5) B (by omega) hx
      have e2 := c_rr_str (W := W) (k := k) (ν := μ') (m := !m) hy hW
      refine ⟨_, _, _, μ', srcN_rng hi, rfl, ?_, some (.int (i : Nat)), rfl, B1.mono (by omega), by omega⟩
      simp [sB, sL, lbS, lbody, nthS, b34, e1, e2])
    (fun env μ p => srcN_end) 4 0 W [o0, o1, some (.tok n), o3, o4, o5, o6, some (.bl m), o8, some (.str x), o10, o11, o12, o13] ν rfl (by omega) ⟨o5, rfl, h.mono (by omega), rfl⟩
  refine ⟨o5', ν', ?_, B.mono (by omega), l⟩
  have rg : rng1 (some (.ok [.int 4], ν)) = some (.ok (.rng 0 4), ν) := rgn 4 (by decide) ν
  have es : sB 3 = .loop (.nm 5) (.rng (.cons (.lit (.int 4)) .nil)) (lbody (sB 3)) := rfl
  rw [es, m_loop, m_iR]
  generalize lbody (sB 3) = body at e
  simp only [snd_call] at e
  simp [-rng1_0, rg, e]
theorem s_pair {n q : Nat} {o0 o1 o3 o5 o6 o8 o9 o10 o11 o12 o13 : Option D} {m : Bool} {t b : Int} (h : Bx ν n q) (hq : q < 2 ^ 36) (hW : 10 ^ 400 < W) (F : Fit t b) : ∃ o5' o9' o10' ν', evSs T (G W k) (G1 W k) n0 W [o0, o1, some (.tok n), o3, some (.tup [.int t, .int b]), o5, o6, some (.bl m), o8, o9, o10, o11, o12, o13] (lbody (sL 3)) ν = some (.nx [o0, o1, some (.tok n), o3, some (.tup [.int t, .int b]), o5', o6, some (.bl !m), o8, o9', o10', o11, o12, o13], ν') ∧ Bx ν' n (q + 22) ∧ ν'.length = ν.length := by
  have hW2 : 2000 < W := Nat.lt_trans (by decide +kernel) hW
  have ht := F.top
  have hb := F.bot
  have h400 : (10 : Nat) ^ 20 ≤ 10 ^ 400 := by decide +kernel
  have e1 := c_text (W := W) (k := k + 6) (ν := ν) (t := t) (b := b) F.low.pos (by omega) (by omega) hW
  obtain ⟨v1, ν1, e2, N1, B1, l1⟩ := c_pass (W := W) (k := k + 4) h (by omega) F
  obtain ⟨v2, ν2, e3, N2, B2, l2⟩ := c_pass (W := W) (k := k + 4) B1 (by omega) F
  have lt' := log_ten (m := 20) ht (by decide)
  have lb' := log_ten (m := 20) hb (by decide)
  have st := Nat.le_trans (strI_len (m := 20) (by decide) ht) (show 20 + 1 ≤ 1000 by decide)
  have sb := Nat.le_trans (strI_len (m := 20) (by decide) hb) (show 20 + 1 ≤ 1000 by decide)
  have e4 := c_asked_text (W := W) (k := k + 3) (ν := ν1) (m := m) N1 lt' lb' st sb
  have e5 := c_asked_text (W := W) (k := k + 3) (ν := ν2) (m := !m) N2 lt' lb' st sb
  have hxl := numT_len ht hb
  generalize numT t b = x at e1 e4 e5 hxl
  have L : likes W (k + 8) ν2 (.lst [.lst [.str "told", .str x], .lst [.str "told", .str x]]) (.lst [.lst [.str "told", .str x], .lst [.str "told", .str x]]) := by
    have l1 := like_two (W := W) (k := k + 6) (ν := ν2) hW2 (c_like_str (k := k + 4) (x := "told") (by decide +kernel) hW2) (c_like_str (k := k + 4) (x := x) (by omega) hW2)
    exact like_two (W := W) (k := k + 7) hW2 l1 l1
  unfold likes at L
  have mu : ∀ d : D, binD .mul (.lst [d]) (.int 2) = some (.lst [d, d]) := fun d => by
    show (if 0 ≤ (2 : Int) ∧ (2 : Int) < 2 ^ 63 ∧ [d].length * (2 : Int).toNat ≤ sizeLine then some (D.lst (repD (2 : Int).toNat [d])) else none) = _
    rw [if_pos ⟨by decide, by decide, by rw [sizeLine_eq]; show 1 * 2 ≤ 16777216; decide⟩]
    rfl
  have e6 := c_rr_str (W := W) (k := k) (ν := ν2) (m := m) (x := x) (by omega) hW
  obtain ⟨o5', ν3, e7, B3, l3⟩ := s_bent (W := W) (k := k) (n0 := n0) (o0 := o0) (o1 := o1) (o3 := o3) (o4 := some (.tup [.int t, .int b])) (o5 := o5) (o6 := o6) (o8 := o8) (o10 := some (.lst [.lst [.str "told", .str x], .lst [.str "told", .str x]])) (o11 := o11) (o12 := o12) (o13 := o13) (m := m) B2 (by omega) hW hxl
  refine ⟨o5', some (.str x), some (.lst [.lst [.str "told", .str x], .lst [.str "told", .str x]]), ν3, ?_, B3.mono (by omega), by omega⟩
  have es : lbody (sL 3) = .cons (sB 0) (.cons (sB 1) (.cons (sB 2) (.cons (sB 3) (.cons (sB 4) .nil)))) := rfl
  rw [es]
  rw [skip (s := sB 0) (env' := [o0, o1, some (.tok n), o3, some (.tup [.int t, .int b]), o5, o6, some (.bl m), o8, some (.str x), o10, o11, o12, o13]) (ν' := ν) rfl (by simp [sB, sL, lbS, lbody, nthS, b34, e1])]
  rw [skip (s := sB 1) (env' := [o0, o1, some (.tok n), o3, some (.tup [.int t, .int b]), o5, o6, some (.bl m), o8, some (.str x), some (.lst [.lst [.str "told", .str x], .lst [.str "told", .str x]]), o11, o12, o13]) (ν' := ν2) rfl (by simp [sB, sL, lbS, lbody, nthS, b34, e2, e3, e4, e5])]
  rw [skip (s := sB 2) (env' := [o0, o1, some (.tok n), o3, some (.tup [.int t, .int b]), o5, o6, some (.bl m), o8, some (.str x), some (.lst [.lst [.str "told", .str x], .lst [.str "told", .str x]]), o11, o12, o13]) (ν' := ν2) rfl (by simp [sB, sL, lbS, lbody, nthS, b34, mu, L, e6])]
  rw [skip (s := sB 3) rfl e7]
  simp [sB, sL, lbS, lbody, nthS, b34]
theorem s_loop {n q : Nat} {o0 o1 o4 o5 o6 o8 o9 o10 o11 o12 o13 : Option D} {m : Bool} {ps : List D} (h : Bx ν n q) (hq : q < 2 ^ 35) (hW : 10 ^ 400 < W) (hp : ps.length = 6) (hF : ∀ d ∈ ps, IsPair d) : ∃ o4' o5' o9' o10' m' ν', evS T (G W k) (G1 W k) n0 W [o0, o1, some (.tok n), some (.lst ps), o4, o5, o6, some (.bl m), o8, o9, o10, o11, o12, o13] (sL 3) ν = some (.nx [o0, o1, some (.tok n), some (.lst ps), o4', o5', o6, some (.bl m'), o8, o9', o10', o11, o12, o13], ν') ∧ Bx ν' n (q + 132) ∧ ν'.length = ν.length := by
  have hW2 : 2000 < W := Nat.lt_trans (by decide +kernel) hW
  obtain ⟨env', ν', e, o4', o5', o9', o10', m', rfl, B, l⟩ := loop_inv (T := T) (F := G W k) (F1 := G1 W k) (n0 := n0) (W := W) (t := .nm 4) (b := lbody (sL 3)) (src := .val (.lst ps)) (n := 6)
    (fun i env μ => ∃ o4' o5' o9' o10' m', env = [o0, o1, some (.tok n), some (.lst ps), o4', o5', o6, some (.bl m'), o8, o9', o10', o11, o12, o13] ∧ Bx μ n (q + i * 22) ∧ μ.length = ν.length)
    (fun i hi env μ p => by
      obtain ⟨o4', o5', o9', o10', m', rfl, B, l⟩ := p
      have hi' : i < ps.length := by omega
      obtain ⟨t, b, hd, F⟩ := hF _ (List.getElem_mem hi')
      obtain ⟨p5, p9, p10, μ', e1, B1, l1⟩ := s_pair (W := W) (k := k) (n0 := n0) (o0 := o0) (o1 := o1) (o3 := some (.lst ps)) (o5 := o5') (o6 := o6) (o8 := o8) (o9 := o9') (o10 := o10') (o11 := o11) (o12 := o12) (o13 := o13) (m := m') B (by omega) hW F
      refine ⟨ps[i], _, _, μ', ?_, rfl, ?_, some ps[i], p5, p9, p10, !m', rfl, B1.mono (by omega), by omega⟩
      · show some ps[i]? = _
        rw [List.getElem?_eq_getElem hi']
      · rw [hd]
        exact e1)
    (fun env μ p => by
      show some ps[6]? = _
      rw [List.getElem?_eq_none (by omega)]) 6 0 W [o0, o1, some (.tok n), some (.lst ps), o4, o5, o6, some (.bl m), o8, o9, o10, o11, o12, o13] ν rfl (by omega) ⟨o4, o5, o9, o10, m, rfl, h.mono (by omega), rfl⟩
  refine ⟨o4', o5', o9', o10', m', ν', ?_, B.mono (by omega), l⟩
  have es : sL 3 = .loop (.nm 4) (.val (.var 3)) (lbody (sL 3)) := rfl
  rw [es, m_loop]
  have so : srcOf ν (.lst ps) = some (.val (.lst ps)) := rfl
  generalize lbody (sL 3) = body at e
  simp only [snd_call] at e
  simp [so, e]
end
end K02

/-! powers, made texts, values. -/
namespace K02
open PySem EF
section
variable {W k : Nat} {ν : Sto} {n0 : Nat}
theorem strI_nat (n : Nat) : strI (n : Int) = mkS (TL.numL n) := by
  rw [str_eq, tl_strI, tl_mkS]
  unfold numZ
  rw [if_neg (by omega)]
  rfl
theorem pow_lt {b : Int} {c : Nat} (hb : b.natAbs ≤ 9) (hc : c ≤ 89) : (b ^ c).natAbs < 10 ^ 400 := by
  rw [Int.natAbs_pow]
  refine Nat.lt_of_le_of_lt (Nat.pow_le_pow_left hb c) ?_
  exact Nat.lt_of_le_of_lt (Nat.pow_le_pow_right (by decide) hc) (by decide +kernel)
/-- base and count are drawn -/
theorem s_base {n q : Nat} {o0 o1 o3 o4 o5 o6 o7 o8 o9 o10 o11 o12 o13 : Option D} (h : Bx ν n q) (hq : q < 2 ^ 35) : ∃ b c ν', evS T (G W k) (G1 W k) n0 W [o0, o1, some (.tok n), o3, o4, o5, o6, o7, o8, o9, o10, o11, o12, o13] (sL 4) ν = some (.nx [o0, o1, some (.tok n), o3, o4, o5, o6, o7, o8, o9, o10, some (.int ((b : Nat) : Int)), some (.int ((c : Nat) : Int)), o13], ν') ∧ 2 ≤ b ∧ b ≤ 9 ∧ 30 ≤ c ∧ c ≤ 89 ∧ Bx ν' n (q + 2) ∧ ν'.length = ν.length := by
  obtain ⟨d1, ν1, e1, a1, a2, B1, l1⟩ := c_take (W := W) (k := k + 7) (many := 8) h (by omega) (by decide) (by decide)
  obtain ⟨d2, ν2, e2, b1, b2, B2, l2⟩ := c_take (W := W) (k := k + 7) (many := 60) B1 (by omega) (by decide) (by decide)
  obtain ⟨i, rfl⟩ := Int.eq_ofNat_of_zero_le a1
  obtain ⟨j, rfl⟩ := Int.eq_ofNat_of_zero_le b1
  refine ⟨2 + i, 30 + j, ν2, ?_, by omega, by omega, by omega, by omega, B2, by omega⟩
  simp [sL, lbS, lbody, nthS, b34, e1, e2, setAll]
theorem s_pow_gen {F F1 : Nat → List D → M D} {o0 o1 o2 o3 o4 o5 o6 o8 o9 o10 o13 : Option D} {m : Bool} {b c z : Int} {x : Str} (q7 : F 7 [.int b, .int c] ν = some (.ok (.int z), ν)) (q29 : F 29 [.str "text", .int z, .bl m] ν = some (.ok (.lst [.str "told", .str x]), ν)) (q33 : F 33 [.int b, .int c] ν = some (.ok (.int z), ν)) (q25 : F 25 [.int z] ν = some (.ok (.str x), ν)) (q21 : F 21 [.lst [.str "told", .str x], .lst [.str "told", .str x]] ν = some (.ok (.bl true), ν)) : evS T F F1 n0 W [o0, o1, o2, o3, o4, o5, o6, some (.bl m), o8, o9, o10, some (.int b), some (.int c), o13] (sL 5) ν = some (.nx [o0, o1, o2, o3, o4, o5, o6, some (.bl m), o8, o9, o10, some (.int b), some (.int c), o13], ν) := by
  simp [sL, lbS, lbody, nthS, b34, q7, q29, q33, q25, q21]
theorem s_pow2_gen {F F1 : Nat → List D → M D} {o0 o1 o2 o3 o4 o5 o6 o8 o9 o10 o13 : Option D} {m : Bool} {b c p u w : Int} {v : D} {x : Str} (q7 : F 7 [.int (0 - b), .int (0 - c)] ν = some (.ok v, ν)) (q29 : F 29 [.str "text", v, .bl m] ν = some (.ok (.lst [.str "told", .str x]), ν)) (q33 : F 33 [.int (0 - b), .int c] ν = some (.ok (.int p), ν)) (q16 : F 16 [.int 1, .int p] ν = some (.ok (.tup [.int u, .int w]), ν)) (q26 : F 26 [.tup [.int u, .int w]] ν = some (.ok (.str x), ν)) (q21 : F 21 [.lst [.str "told", .str x], .lst [.str "told", .str x]] ν = some (.ok (.bl true), ν)) : evS T F F1 n0 W [o0, o1, o2, o3, o4, o5, o6, some (.bl m), o8, o9, o10, some (.int b), some (.int c), o13] (sL 6) ν = some (.nx [o0, o1, o2, o3, o4, o5, o6, some (.bl m), o8, o9, o10, some (.int b), some (.int c), o13], ν) := by
  simp [-Int.zero_sub, sL, lbS, lbody, nthS, b34, q7, q29, q33, q16, q26, q21]
theorem s_pow {b c : Nat} {o0 o1 o2 o3 o4 o5 o6 o8 o9 o10 o13 : Option D} {m : Bool} (hb : 2 ≤ b) (hb2 : b ≤ 9) (hc : c ≤ 89) (hW : 10 ^ 400 < W) : evS T (G W k) (G1 W k) n0 W [o0, o1, o2, o3, o4, o5, o6, some (.bl m), o8, o9, o10, some (.int (b : Int)), some (.int (c : Int)), o13] (sL 5) ν = some (.nx [o0, o1, o2, o3, o4, o5, o6, some (.bl m), o8, o9, o10, some (.int (b : Int)), some (.int (c : Int)), o13], ν) := by
  have hW2 : 2000 < W := Nat.lt_trans (by decide +kernel) hW
  have e1 := c_raised (W := W) (k := k + 2) (ν := ν) (b := (b : Int)) (c := (c : Int)) (by omega) hW2 (by omega) (by omega)
  rw [if_neg (by omega), show ((c : Int)).natAbs = c by omega] at e1
  have hp := pow_lt (b := (b : Int)) (c := c) (by omega) hc
  obtain ⟨p, hpe⟩ : ∃ p : Nat, (b : Int) ^ c = (p : Int) := ⟨b ^ c, (Int.natCast_pow b c).symm⟩
  have e2 := c_power (W := W) (k := k + 7) (ν := ν) (b := (b : Int)) (c := c) (by omega) hW2 (by omega)
  rw [hpe] at e1 e2 hp
  have hp' : p < 10 ^ 400 := by omega
  have e3 := c_digits (W := W) (k := k + 7) (ν := ν) (n := p) (by omega) hp'
  have sl := strI_len (m := 400) (by decide) hp
  have e4 := c_asked_text (W := W) (k := k + 3) (ν := ν) (m := m) (.int (p : Int)) (log_ten (m := 400) hp (by decide)) (by decide +kernel) (by omega) (by decide +kernel)
  have nt : numT (p : Int) 1 = strI (p : Int) := if_pos rfl
  rw [nt] at e4
  rw [← strI_nat] at e3
  have L := like_two (W := W) (k := k + 7) (ν := ν) hW2 (c_like_str (k := k + 5) (x := "told") (by decide +kernel) hW2) (c_like_str (k := k + 5) (x := strI (p : Int)) (by omega) hW2)
  unfold likes at L
  generalize strI (p : Int) = x at e3 e4 L
  generalize (p : Int) = z at e1 e2 e3 e4
  exact s_pow_gen e1 e4 e2 e3 L
theorem s_pow2 {b c : Nat} {o0 o1 o2 o3 o4 o5 o6 o8 o9 o10 o13 : Option D} {m : Bool} (hb : 2 ≤ b) (hb2 : b ≤ 9) (hc0 : 30 ≤ c) (hc : c ≤ 89) (hW : 10 ^ 400 < W) : evS T (G W k) (G1 W k) n0 W [o0, o1, o2, o3, o4, o5, o6, some (.bl m), o8, o9, o10, some (.int (b : Int)), some (.int (c : Int)), o13] (sL 6) ν = some (.nx [o0, o1, o2, o3, o4, o5, o6, some (.bl m), o8, o9, o10, some (.int (b : Int)), some (.int (c : Int)), o13], ν) := by
  have hW2 : 2000 < W := Nat.lt_trans (by decide +kernel) hW
  have e1 := c_raised (W := W) (k := k + 2) (ν := ν) (b := 0 - (b : Int)) (c := 0 - (c : Int)) (by omega) hW2 (by omega) (by omega)
  rw [if_pos (by omega), show (0 - (c : Int)).natAbs = c by omega] at e1
  have hp := pow_lt (b := 0 - (b : Int)) (c := c) (by omega) hc
  have hp0 : (0 - (b : Int)) ^ c ≠ 0 := Int.pow_ne_zero (by omega)
  have e2 := c_power (W := W) (k := k + 7) (ν := ν) (b := 0 - (b : Int)) (c := c) (by omega) hW2 (by omega)
  generalize (0 - (b : Int)) ^ c = p at e1 e2 hp hp0
  have h8000 : (10 : Nat) ^ 400 ≤ 2 ^ 8000 := by decide +kernel
  have e3 := c_low (W := W) (k := k + 7) (ν := ν) (t := 1) (b := p) hp0 (by omega) (by omega)
  obtain ⟨s1, s2⟩ := low_small (t := 1) (b := p) (m := 10 ^ 400) hp0 (by decide +kernel) hp
  have e4 := c_text (W := W) (k := k + 6) (ν := ν) (t := lt 1 p) (b := lb 1 p) (lb_pos hp0) s1 s2 hW
  have sl1 := strI_len (m := 400) (by decide) s1
  have sl2 := strI_len (m := 400) (by decide) s2
  have e5 := c_asked_text (W := W) (k := k + 3) (ν := ν) (m := m) (num_numD (lt 1 p) (lb 1 p)) (log_ten (m := 400) s1 (by decide)) (log_ten (m := 400) s2 (by decide)) (by omega) (by omega)
  have xl : (numT (lt 1 p) (lb 1 p)).length ≤ 1000 := by
    rw [len_tl, tl_numT]
    rw [len_tl, tl_strI] at sl1 sl2
    split
    · omega
    · rw [List.length_append, List.length_cons]; omega
  have L := like_two (W := W) (k := k + 7) (ν := ν) hW2 (c_like_str (k := k + 5) (x := "told") (by decide +kernel) hW2) (c_like_str (k := k + 5) (x := numT (lt 1 p) (lb 1 p)) xl hW2)
  unfold likes at L
  generalize numT (lt 1 p) (lb 1 p) = x at e4 e5 L
  generalize lt 1 p = u at e1 e3 e4 e5
  generalize lb 1 p = w at e1 e3 e4 e5
  generalize numD u w = v at e1 e5
  exact s_pow2_gen e1 e5 e2 e3 e4 L
/-- made texts -/
theorem s_made {n q : Nat} {o0 o1 o3 o4 o5 o6 o8 o9 o10 o11 o12 o13 : Option D} {m : Bool} (h : Bx ν n q) (hq : q < 2 ^ 35) (hW : 10 ^ 400 < W) : ∃ o5' m' ν', evS T (G W k) (G1 W k) n0 W [o0, o1, some (.tok n), o3, o4, o5, o6, some (.bl m), o8, o9, o10, o11, o12, o13] (sL 7) ν = some (.nx [o0, o1, some (.tok n), o3, o4, o5', o6, some (.bl m'), o8, o9, o10, o11, o12, o13], ν') := by
  have hW2 : 2000 < W := Nat.lt_trans (by decide +kernel) hW
  obtain ⟨env', ν', e, o5', m', rfl, B⟩ := loop_inv (T := T) (F := G W k) (F1 := G1 W k) (n0 := n0) (W := W) (t := .nm 5) (b := lbody (sL 7)) (src := .rng 0 8) (n := 8)
    (fun i env μ => ∃ o5' m', env = [o0, o1, some (.tok n), o3, o4, o5', o6, some (.bl m'), o8, o9, o10, o11, o12, o13] ∧ Bx μ n (q + i * 3))
    (fun i hi env μ p => by
      obtain ⟨o5', m', rfl, B⟩ := p
      obtain ⟨y, μ', e1, hy, B1, l1⟩ := c_made (W := W) (k := k + 5) B (by omega)
      have e2 := c_rr_str (W := W) (k := k) (ν := μ') (m := m') hy hW
      refine ⟨_, _, _, μ', srcN_rng hi, rfl, ?_, some (.int (i : Nat)), !m', rfl, B1.mono (by omega)⟩
      simp [sL, lbS, lbody, nthS, b34, e1, e2])
    (fun env μ p => srcN_end) 8 0 W [o0, o1, some (.tok n), o3, o4, o5, o6, some (.bl m), o8, o9, o10, o11, o12, o13] ν rfl (by omega) ⟨o5, m, rfl, h.mono (by omega)⟩
  refine ⟨o5', m', ν', ?_⟩
  have rg : rng1 (some (.ok [.int 8], ν)) = some (.ok (.rng 0 8), ν) := rgn 8 (by decide) ν
  have es : sL 7 = .loop (.nm 5) (.rng (.cons (.lit (.int 8)) .nil)) (lbody (sL 7)) := rfl
  rw [es, m_loop, m_iR]
  generalize lbody (sL 7) = body at e
  simp only [snd_call] at e
  simp [-rng1_0, rg, e]
theorem s_vals1 {o0 o1 o2 o3 o4 o5 o6 o8 o9 o10 o11 o12 o13 : Option D} {m : Bool} (hW : 10 ^ 400 < W) : ∃ o6', evS T (G W k) (G1 W k) n0 W [o0, o1, o2, o3, o4, o5, o6, some (.bl m), o8, o9, o10, o11, o12, o13] (sL 8) ν = some (.nx [o0, o1, o2, o3, o4, o5, o6', some (.bl m), o8, o9, o10, o11, o12, o13], ν) := by
  have hW2 : 2000 < W := Nat.lt_trans (by decide +kernel) hW
  obtain ⟨env', ν', e, rfl, o6', rfl⟩ := loop_inv (T := T) (F := G W k) (F1 := G1 W k) (n0 := n0) (W := W) (t := .nm 6) (b := lbody (sL 8)) (src := .val (.lst vals1)) (n := 10)
    (fun i env μ => μ = ν ∧ ∃ o6', env = [o0, o1, o2, o3, o4, o5, o6', some (.bl m), o8, o9, o10, o11, o12, o13])
    (fun i hi env μ p => by
      obtain ⟨rfl, o6', rfl⟩ := p
      have hi' : i < vals1.length := hi
      have e1 := vals1_rr (W := W) (k := k) hW2 _ (List.getElem_mem hi') m μ
      refine ⟨vals1[i], _, _, μ, ?_, rfl, ?_, rfl, some vals1[i], rfl⟩
      · show some vals1[i]? = _
        rw [List.getElem?_eq_getElem hi']
      · generalize vals1[i] = d at e1
        simp [sL, lbS, lbody, nthS, b34, e1])
    (fun env μ p => rfl) 10 0 W [o0, o1, o2, o3, o4, o5, o6, some (.bl m), o8, o9, o10, o11, o12, o13] ν rfl (by omega) ⟨rfl, o6, rfl⟩
  refine ⟨o6', ?_⟩
  have mk := mk_ratio (W := W) (k := k + 5) (ν := ν') (t := 1) (b := 2) (by decide) (by decide +kernel)
  have m1 : lt 1 2 = 1 := by decide +kernel
  have m2 : lb 1 2 = 2 := by decide +kernel
  rw [m1, m2] at mk
  have so : srcOf ν' (.lst vals1) = some (.val (.lst vals1)) := rfl
  have es : sL 8 = .loop (.nm 6) (.val (.lst false (.cons (.lit .non) (.cons (.lit (.int 5)) (.cons (.lit (.bl true)) (.cons (.lst false (.cons (.lit (.str "1")) .nil)) (.cons (.tup (.cons (.lit (.str "1")) .nil)) (.cons (.dsp false [] .nil) (.cons (.mk 0 (.cons (.lit (.int 1)) (.cons (.lit (.int 2)) .nil))) (.cons (.dsp false [.one (.inr "1")] (.cons (.lit (.int 1)) .nil)) (.cons (.lit (.int 0)) (.cons (.tup .nil) .nil)))))))))))) (lbody (sL 8)) := rfl
  rw [es, m_loop]
  generalize lbody (sL 8) = body at e
  simp only [snd_call] at e
  have ev : evE T (G W k) (G1 W k) n0 W [o0, o1, o2, o3, o4, o5, o6, some (.bl m), o8, o9, o10, o11, o12, o13] (.lst false (.cons (.lit .non) (.cons (.lit (.int 5)) (.cons (.lit (.bl true)) (.cons (.lst false (.cons (.lit (.str "1")) .nil)) (.cons (.tup (.cons (.lit (.str "1")) .nil)) (.cons (.dsp false [] .nil) (.cons (.mk 0 (.cons (.lit (.int 1)) (.cons (.lit (.int 2)) .nil))) (.cons (.dsp false [.one (.inr "1")] (.cons (.lit (.int 1)) .nil)) (.cons (.lit (.int 0)) (.cons (.tup .nil) .nil))))))))))) ν' = some (.ok (.lst vals1), ν') := by
    simp [mk, vals1]
  rw [m_iV, ev, it1_0]
  simp only [so, loop1_0, snd_call]
  exact e
theorem s_vals2 {o0 o1 o2 o3 o4 o5 o6 o8 o9 o10 o11 o12 o13 : Option D} {m : Bool} (hW : 10 ^ 400 < W) : ∃ o6' m' o10' o13' ν', evS T (G W k) (G1 W k) n0 W [o0, o1, o2, o3, o4, o5, o6, some (.bl m), o8, o9, o10, o11, o12, o13] (sL 9) ν = some (.nx [o0, o1, o2, o3, o4, o5, o6', some (.bl m'), o8, o9, o10', o11, o12, o13'], ν') := by
  have hW2 : 2000 < W := Nat.lt_trans (by decide +kernel) hW
  obtain ⟨env', ν', e, o6', m', o10', o13', rfl⟩ := loop_inv (T := T) (F := G W k) (F1 := G1 W k) (n0 := n0) (W := W) (t := .nm 6) (b := lbody (sL 9)) (src := .val (.lst vals2)) (n := 8)
    (fun i env μ => ∃ o6' m' o10' o13', env = [o0, o1, o2, o3, o4, o5, o6', some (.bl m'), o8, o9, o10', o11, o12, o13'])
    (fun i hi env μ p => by
      obtain ⟨o6', m', o10', o13', rfl⟩ := p
      have hi' : i < vals2.length := hi
      obtain ⟨hg, k1, k2, k3⟩ := vals2_good (W := W) (k := k + 1) hW2 _ (List.getElem_mem hi')
      obtain ⟨g, μ1, μ2, e1, e2, e3, _, _⟩ := hg μ
      have e4 := c_asked_text_bad (W := W) (k := k + 3) (ν := μ1) (m := m') (v := g) (by rw [e2]; exact k1) (by rw [e2]; exact k2) (by rw [e2]; exact k3)
      refine ⟨vals2[i], _, [o0, o1, o2, o3, o4, o5, some vals2[i], some (.bl !m'), o8, o9, some (.lst [.str "number", g, .bl true]), o11, o12, some g], μ2, ?_, rfl, ?_, some vals2[i], !m', _, _, rfl⟩
      · show some vals2[i]? = _
        rw [List.getElem?_eq_getElem hi']
      · generalize vals2[i] = d at e1
        have q1 : (callP T tb W (k + 8)).1 23 [d] μ = some (.ok g, μ1) := e1
        have q3 : (callP T tb W (k + 8)).1 22 [g, g] μ1 = some (.ok (.bl true), μ2) := e3
        have q4 : (callP T tb W (k + 8)).1 29 [.str "text", g, .bl m'] μ1 = some (.ok (.lst [.str "number", g, .bl true]), μ1) := e4
        simp [sL, lbS, lbody, nthS, b34, q1, q3, q4, il0, il1, il2, isBlD])
    (fun env μ p => rfl) 8 0 W [o0, o1, o2, o3, o4, o5, o6, some (.bl m), o8, o9, o10, o11, o12, o13] ν rfl (by omega) ⟨o6, m, o10, o13, rfl⟩
  refine ⟨o6', m', o10', o13', ν', ?_⟩
  have so : srcOf ν (.lst vals2) = some (.val (.lst vals2)) := rfl
  have es : sL 9 = .loop (.nm 6) (.val (.lst false (.cons (.lit .non) (.cons (.lit (.bl true)) (.cons (.lit (.bl false)) (.cons (.lit (.str "1")) (.cons (.lit (.str "1/2")) (.cons (.lst false (.cons (.lit (.int 1)) .nil)) (.cons (.tup (.cons (.lit (.int 1)) (.cons (.lit (.int 2)) .nil))) (.cons (.dsp false [] .nil) .nil)))))))))) (lbody (sL 9)) := rfl
  rw [es, m_loop]
  generalize lbody (sL 9) = body at e
  simp only [snd_call] at e
  have ev : evE T (G W k) (G1 W k) n0 W [o0, o1, o2, o3, o4, o5, o6, some (.bl m), o8, o9, o10, o11, o12, o13] (.lst false (.cons (.lit .non) (.cons (.lit (.bl true)) (.cons (.lit (.bl false)) (.cons (.lit (.str "1")) (.cons (.lit (.str "1/2")) (.cons (.lst false (.cons (.lit (.int 1)) .nil)) (.cons (.tup (.cons (.lit (.int 1)) (.cons (.lit (.int 2)) .nil))) (.cons (.dsp false [] .nil) .nil))))))))) ν = some (.ok (.lst vals2), ν) := by
    simp [vals2]
  rw [m_iV, ev, it1_0]
  simp only [so, loop1_0, snd_call]
  exact e
end
end K02

/-! the law. -/
namespace K02
open PySem EF
section
variable {W k : Nat} {ν : Sto} {n0 : Nat}
theorem s_box {F F1 : Nat → List D → M D} {o1 o2 o3 o4 o5 o6 o7 o8 o9 o10 o11 o12 o13 : Option D} {z i : D} {c : Int} {t : D} {μ : Sto} (q12 : F 12 [z, i] ν = some (.ok (.int c), ν)) (q13 : F 13 [.int c] ν = some (.ok t, μ)) : evS T F F1 n0 W [some z, some i, o2, o3, o4, o5, o6, o7, o8, o9, o10, o11, o12, o13] (sL 0) ν = some (.nx [some z, some i, some t, o3, o4, o5, o6, o7, o8, o9, o10, o11, o12, o13], μ) := by
  simp [sL, lbS, lbody, nthS, b34, q12, q13]
theorem s_named {F F1 : Nat → List D → M D} {o0 o1 o3 o4 o5 o6 o7 o8 o9 o10 o11 o12 o13 : Option D} {t : D} {d1 d2 : Int} {ν1 ν2 : Sto} (q1 : F 14 [t, .int 2] ν = some (.ok (.int d1), ν1)) (q2 : F 14 [t, .int 8] ν1 = some (.ok (.int d2), ν2)) : evS T F F1 n0 W [o0, o1, some t, o3, o4, o5, o6, o7, o8, o9, o10, o11, o12, o13] (sL 1) ν = some (.nx [o0, o1, some t, o3, o4, o5, o6, some (.bl (d1 == 0)), some (.bl (d2 == 0)), o9, o10, o11, o12, o13], ν2) := by
  simp [sL, lbS, lbody, nthS, b34, q1, q2, setAll]
theorem c_turn {ns : List Int} {i : Nat} {o2 o3 o4 o5 o6 o7 o8 o9 o10 o11 o12 o13 : Option D} (hi : i < 100) (hW : 10 ^ 400 < W) : ∃ p2 p3 p4 p5 p6 p7 p8 p9 p10 p11 p12 p13 ν', evSs T (G W k) (G1 W k) n0 W [some (.frz (ns.map .int)), some (.int (i : Nat)), o2, o3, o4, o5, o6, o7, o8, o9, o10, o11, o12, o13] lbS ν = some (.nx [some (.frz (ns.map .int)), some (.int (i : Nat)), p2, p3, p4, p5, p6, p7, p8, p9, p10, p11, p12, p13], ν') := by
  obtain ⟨c, e1⟩ := c_cell (W := W) (k := k + 7) (ν := ν) (ns := ns) (i := i) hi
  have e2 := c_box (W := W) (k := k + 7) (ν := ν) (c := c)
  have B0 := box_ok (ν := ν) (c := c)
  generalize (ν ++ [D.lst [.int c.natAbs, .bl (decide ((10 : Int) ^ 18 ≤ (c.natAbs : Int))), .int ((c.natAbs : Int).fmod 2147483629), .int 0]]) = μ at e2 B0
  generalize ν.length = n at e2 B0
  obtain ⟨d1, ν1, e3, _, _, B1, _⟩ := c_take (W := W) (k := k + 7) (many := 2) B0 (by decide) (by decide) (by decide)
  obtain ⟨d2, ν2, e4, _, _, B2, _⟩ := c_take (W := W) (k := k + 7) (many := 8) B1 (by decide) (by decide) (by decide)
  generalize D.frz (ns.map .int) = z at e1 ⊢
  generalize D.int (i : Nat) = ii at e1 ⊢
  have f0 := s_box (W := W) (n0 := n0) (F := G W k) (F1 := G1 W k) (o1 := none) (o2 := o2) (o3 := o3) (o4 := o4) (o5 := o5) (o6 := o6) (o7 := o7) (o8 := o8) (o9 := o9) (o10 := o10) (o11 := o11) (o12 := o12) (o13 := o13) e1 e2
  have f1 := s_named (W := W) (n0 := n0) (F := G W k) (F1 := G1 W k) (o0 := some z) (o1 := some ii) (o3 := o3) (o4 := o4) (o5 := o5) (o6 := o6) (o7 := o7) (o8 := o8) (o9 := o9) (o10 := o10) (o11 := o11) (o12 := o12) (o13 := o13) e3 e4
  obtain ⟨ps, ν3, f2, hp, hF, B3, _⟩ := s_pairs (W := W) (k := k) (n0 := n0) (o0 := some z) (o1 := some ii) (o3 := o3) (o4 := o4) (o5 := o5) (o6 := o6) (o7 := some (.bl (d1 == 0))) (o9 := o9) (o10 := o10) (o11 := o11) (o12 := o12) (o13 := o13) (g := d2 == 0) B2 (by decide) hW
  obtain ⟨p4, p5, p9, p10, m1, ν4, f3, B4, _⟩ := s_loop (W := W) (k := k) (n0 := n0) (o0 := some z) (o1 := some ii) (o4 := o4) (o5 := o5) (o6 := o6) (o8 := some (.bl (d2 == 0))) (o9 := o9) (o10 := o10) (o11 := o11) (o12 := o12) (o13 := o13) (m := d1 == 0) B3 (by decide) hW hp hF
  obtain ⟨b, cc, ν5, f4, h1, h2, h3, h4, B5, _⟩ := s_base (W := W) (k := k) (n0 := n0) (o0 := some z) (o1 := some ii) (o3 := some (.lst ps)) (o4 := p4) (o5 := p5) (o6 := o6) (o7 := some (.bl m1)) (o8 := some (.bl (d2 == 0))) (o9 := p9) (o10 := p10) (o11 := o11) (o12 := o12) (o13 := o13) B4 (by decide)
  have f5 := s_pow (W := W) (k := k) (n0 := n0) (ν := ν5) (o0 := some z) (o1 := some ii) (o2 := some (.tok n)) (o3 := some (.lst ps)) (o4 := p4) (o5 := p5) (o6 := o6) (m := m1) (o8 := some (.bl (d2 == 0))) (o9 := p9) (o10 := p10) (o13 := o13) h1 h2 h4 hW
  have f6 := s_pow2 (W := W) (k := k) (n0 := n0) (ν := ν5) (o0 := some z) (o1 := some ii) (o2 := some (.tok n)) (o3 := some (.lst ps)) (o4 := p4) (o5 := p5) (o6 := o6) (m := m1) (o8 := some (.bl (d2 == 0))) (o9 := p9) (o10 := p10) (o13 := o13) h1 h2 h3 h4 hW
  obtain ⟨r5, m2, ν6, f7⟩ := s_made (W := W) (k := k) (n0 := n0) (o0 := some z) (o1 := some ii) (o3 := some (.lst ps)) (o4 := p4) (o5 := p5) (o6 := o6) (m := m1) (o8 := some (.bl (d2 == 0))) (o9 := p9) (o10 := p10) (o11 := some (.int (b : Int))) (o12 := some (.int (cc : Int))) (o13 := o13) B5 (by decide) hW
  obtain ⟨r6, f8⟩ := s_vals1 (W := W) (k := k) (n0 := n0) (ν := ν6) (o0 := some z) (o1 := some ii) (o2 := some (.tok n)) (o3 := some (.lst ps)) (o4 := p4) (o5 := r5) (o6 := o6) (m := m2) (o8 := some (.bl (d2 == 0))) (o9 := p9) (o10 := p10) (o11 := some (.int (b : Int))) (o12 := some (.int (cc : Int))) (o13 := o13) hW
  obtain ⟨t6, m3, t10, t13, ν7, f9⟩ := s_vals2 (W := W) (k := k) (n0 := n0) (ν := ν6) (o0 := some z) (o1 := some ii) (o2 := some (.tok n)) (o3 := some (.lst ps)) (o4 := p4) (o5 := r5) (o6 := r6) (m := m2) (o8 := some (.bl (d2 == 0))) (o9 := p9) (o10 := p10) (o11 := some (.int (b : Int))) (o12 := some (.int (cc : Int))) (o13 := o13) hW
  refine ⟨some (.tok n), some (.lst ps), p4, r5, t6, some (.bl m3), some (.bl (d2 == 0)), p9, t10, some (.int (b : Int)), some (.int (cc : Int)), t13, ν7, ?_⟩
  have es : lbS = .cons (sL 0) (.cons (sL 1) (.cons (sL 2) (.cons (sL 3) (.cons (sL 4) (.cons (sL 5) (.cons (sL 6) (.cons (sL 7) (.cons (sL 8) (.cons (sL 9) .nil))))))))) := rfl
  rw [es, skip rfl f0, skip rfl f1, skip rfl f2, skip rfl f3, skip rfl f4, skip rfl f5, skip rfl f6, skip rfl f7, skip rfl f8, skip rfl f9]
  rfl
theorem c_law {ns : List Int} (hl : ns.length ≤ 63) (hW : 10 ^ 400 < W) : ∃ ν', (callP T tb W (k + 9)).1 34 [.frz (ns.map .int)] [] = some (.ok (.bl true), ν') := by
  have hW2 : 2000 < W := Nat.lt_trans (by decide +kernel) hW
  refine ⟨[], ?_⟩
  rw [run_call (fn := f34) rfl rfl]
  -- how many
  obtain ⟨c, hc, hr⟩ : ∃ c : Nat, c ≤ 3 ∧ evI T (G W k) (G1 W k) 0 W [some (.frz (ns.map .int)), none, none, none, none, none, none, none, none, none, none, none, none, none] (.rng (.cons (.bi false .max2 (.cons (.lit (.int 2)) (.cons (.bi false .min2 (.cons (.lit (.int 3)) (.cons (.bi false .len (.cons (.var 0) .nil)) .nil))) .nil))) .nil)) ([] : Sto) = some (.ok (.rng 0 c), []) := by
    have r2 : rng1 (some (.ok [.int 2], ([] : Sto))) = some (.ok (.rng 0 2), []) := rgn 2 (by decide) []
    have r3 : rng1 (some (.ok [.int 3], ([] : Sto))) = some (.ok (.rng 0 3), []) := rgn 3 (by decide) []
    by_cases h : (ns.length : Int) < 3
    · refine ⟨2, by decide, ?_⟩
      have h2 : ¬ (2 : Int) < ns.length := by omega
      simp [-rng1_0, h, h2, r2]
    · refine ⟨3, by decide, ?_⟩
      simp [-rng1_0, h, r3]
  obtain ⟨env', ν', e, p1, p2, p3, p4, p5, p6, p7, p8, p9, p10, p11, p12, p13, rfl⟩ := loop_inv (T := T) (F := G W k) (F1 := G1 W k) (n0 := 0) (W := W) (t := .nm 1) (b := lbS) (src := .rng 0 c) (n := c)
    (fun i env μ => ∃ p1 p2 p3 p4 p5 p6 p7 p8 p9 p10 p11 p12 p13, env = [some (.frz (ns.map .int)), p1, p2, p3, p4, p5, p6, p7, p8, p9, p10, p11, p12, p13])
    (fun i hi env μ p => by
      obtain ⟨p1, p2, p3, p4, p5, p6, p7, p8, p9, p10, p11, p12, p13, rfl⟩ := p
      obtain ⟨r2, r3, r4, r5, r6, r7, r8, r9, r10, r11, r12, r13, μ', e⟩ := c_turn (W := W) (k := k) (ν := μ) (n0 := 0) (ns := ns) (i := i) (o2 := p2) (o3 := p3) (o4 := p4) (o5 := p5) (o6 := p6) (o7 := p7) (o8 := p8) (o9 := p9) (o10 := p10) (o11 := p11) (o12 := p12) (o13 := p13) (by omega) hW
      exact ⟨_, _, _, μ', srcN_rng hi, rfl, e, some (.int (i : Nat)), r2, r3, r4, r5, r6, r7, r8, r9, r10, r11, r12, r13, rfl⟩)
    (fun env μ p => srcN_end) c 0 W [some (.frz (ns.map .int)), none, none, none, none, none, none, none, none, none, none, none, none, none] [] (by omega) (by omega) ⟨_, _, _, _, _, _, _, _, _, _, _, _, _, rfl⟩
  have es : b34 = .cons (.loop (.nm 1) (.rng (.cons (.bi false .max2 (.cons (.lit (.int 2)) (.cons (.bi false .min2 (.cons (.lit (.int 3)) (.cons (.bi false .len (.cons (.var 0) .nil)) .nil))) .nil))) .nil)) lbS) (.cons (.ret (.lit (.bl true))) .nil) := rfl
  show fin 0 f34.kp (evSs T (G W k) (G1 W k) 0 W [some (.frz (ns.map .int)), none, none, none, none, none, none, none, none, none, none, none, none, none] b34 []) = _
  rw [es]
  generalize lbS = body at e
  have st : evS T (G W k) (G1 W k) 0 W [some (.frz (ns.map .int)), none, none, none, none, none, none, none, none, none, none, none, none, none] (.loop (.nm 1) (.rng (.cons (.bi false .max2 (.cons (.lit (.int 2)) (.cons (.bi false .min2 (.cons (.lit (.int 3)) (.cons (.bi false .len (.cons (.var 0) .nil)) .nil))) .nil))) .nil)) body) ([] : Sto) = some (.nx [some (.frz (ns.map .int)), p1, p2, p3, p4, p5, p6, p7, p8, p9, p10, p11, p12, p13], ν') := by
    rw [m_loop, hr, loop1_0]
    exact e
  rw [skip rfl st]
  have ret : evSs T (G W k) (G1 W k) 0 W [some (.frz (ns.map .int)), p1, p2, p3, p4, p5, p6, p7, p8, p9, p10, p11, p12, p13] (.cons (.ret (.lit (.bl true))) .nil) ν' = some (.rt (.bl true), ν') := rfl
  rw [ret]
  exact fin_back (ν := []) (Nat.zero_le _) rfl
end
end K02

theorem PySem.Challenge.cw_everyfreedom_k02_texts_of_numbers_holds : PySem.Challenge.rw_everyfreedom_k02_texts_of_numbers.Holds := by
  exact K02.holds_of 9 (10 ^ 400 + 1) (by decide) (fun ns hl => K02.c_law (k := 0) hl (Nat.lt_succ_self _))
