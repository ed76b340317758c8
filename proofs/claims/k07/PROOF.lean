import PyProof.Rows.All
import Wide.All
import OpenK.AllK
import Wide.FinOn
import HandS.ForMost
import HandS.TupAny
import HandS.TupMul
import HandS.IsInst
import HandS.Conv
import HandS.Call
import HandS.Dict
import KE.KDictPairs
import HandS.TupLe
import HandS.Deep
import HandS.More
import PyProof.DictUpdate
import KE.DataMinMax
import HandS.WordsDict
import HandS.Iter
import PyProof.EqAt
import PyProof.SeqRoads2
import HandS.Replace
import HandS.Text
import HandS.Style
import HandS.Codes
import KE.KRevSl
import HandS.Set
import HandS.SetFor
import HandS.Strs
import HandS.TupSets
import HandS.Zip0
import HandS.Zip
import PyProof.ZipIter
import PyProof.CollectWalk
import HandS.Rev
import HandS.RevTup
import HandS.Flow
import HandS.SetKeys
import HandS.List
import PyProof.AutoSeq1
import PyProof.EqLayable
import PySem.Challenge.RW_showlooker_k07_joined
set_option Elab.async false
set_option linter.all false
set_option maxRecDepth 100000
set_option maxHeartbeats 4000000
/-! MnA: a small core language with an evaluator over plain data, and the checker that a core term stands for a syntax tree. -/
namespace Mn
open PySem

/-! ### data -/
inductive D where
  | non | bl (b : Bool) | int (i : Int) | str (s : List Nat)
  | tup (xs : List D) | lst (xs : List D) | dct (ks : List (List Nat)) (vs : List D)
  deriving Inhabited
/-- what a name holds: plain data, or a list, a dict, a deck that this name alone holds -/
inductive Va where
  | d (x : D) | ls (xs : List D) | dc (kvs : List (List Nat × D)) | dk (cs : List Int) (s n : Int) | dl (cs : List Int) (s : Int) | dd (cs : List Int) (n s : Int) | ll (rows : List (List D)) | scr (ns : List Int)
abbrev Env := List (Option Va)
inductive PV where
  | val (w : Va) | slot (i : Nat)
inductive Fl where
  | nx | rt (w : Va) | bk | ct

/-! ### the core language -/
inductive TN where
  | str | int | bool | tup | lst | dct
  deriving DecidableEq
inductive BN where
  | len | tuple | list | sorted | sum | max | min | all | any | str | int | dict
  deriving DecidableEq
inductive MN where
  | join | get | upper | lower | count | index | split | lindex
  deriving DecidableEq
inductive Tg where
  | one (i : Nat) | many (is : List Nat)
mutual
inductive CE where
  | var (i : Nat) | glb (g : Nat) | lit (x : D)
  | neg (a : CE) | bin (o : Operator) (a b : CE) | cmp (o : CmpOp) (a b : CE) | cmp2 (o p : CmpOp) (a b c : CE)
  | and (as : CEs) | or (as : CEs) | not (a : CE) | ife (c a b : CE)
  | sub (a b : CE) | slc (a : CE) (lo hi : CO)
  | tup (as : CEs) | lst (as : CEs) | dnew
  | cb (f : BN) (as : CEs) | isi (a : CE) (ts : List TN) | cf (f : Nat) (as : CEs) | mt (m : MN) (a : CE) (as : CEs) | popV (i : Nat) | popI (i : Nat) (a : CE) | sdf (i : Nat) (a b : CE)
  | comp (own : List (Str × Nat)) (tg : Tg) (it : CI) (cs : CEs) (e : CE)
  | fz (a : CE) | ssrt (a : CE) | slen (a : CE) | rev (a : CE) | up (a : CE) | lo (a : CE) | dlit (ks : List (List Nat)) (as : CEs) | lzip (as : CEs) | rev1 (a : CE) | orv (a b : CE) | lln | lasE (i : Nat) | popT (i : Nat) | rowT (i : Nat) | keysL (i : Nat) | dl1 (a b : CE) | dg2 (i : Nat) (a b : CE)
inductive CEs where
  | nil | cons (a : CE) (as : CEs)
inductive CO where
  | none | some (a : CE)
inductive CI where
  | it (a : CE) | rng (as : CEs) | zip (as : CEs) | enu (a : CE)
end
mutual
inductive CS where
  | asg (i : Nat) (e : CE) | asgT (is : List Nat) (e : CE) | expr (e : CE) | app (i : Nat) (e : CE) | ext (i : Nat) (e : CE) | setI (i : Nat) (k e : CE) | aug (i : Nat) (o : Operator) (e : CE)
  | ite (c : CE) (a b : CB) | whl (c : CE) (b : CB) | for_ (tg : Tg) (it : CI) (b : CB) | ret (e : CE) | retN | brk | cnt | pass | appN (i : Nat) | appL (i : Nat) (e : CE) | rse | upd (i : Nat) (e : CE) | par (i j : Nat) (a b : CE)
inductive CB where
  | nil | cons (s : CS) (b : CB)
end

/-! ### operations on data -/
def szL : Nat := 16777216
def bnd {α β γ : Type} (r : Option (α × β)) (f : α → β → Option γ) : Option γ := match r with
  | some (a, b) => f a b
  | none => none
@[simp] theorem bnd_some {α β γ : Type} (a : α) (b : β) (f : α → β → Option γ) : bnd (some (a, b)) f = f a b := rfl
@[simp] theorem bnd_none {α β γ : Type} (f : α → β → Option γ) : bnd none f = none := rfl
def fzV : Va → Option D
  | .d x => some x
  | .ls xs => some (.lst xs)
  | .dc kvs => some (.dct (kvs.map (·.1)) (kvs.map (·.2)))
  | .ll rows => some (.lst (rows.map .lst))
  | _ => none
def asB : Va → Option Bool
  | .d (.bl b) => some b
  | _ => none
def asI : Va → Option Int
  | .d (.int i) => some i
  | _ => none
/-- the items of a list or a tuple -/
def asL : Va → Option (List D)
  | .d (.tup xs) => some xs
  | .d (.lst xs) => some xs
  | .ls xs => some xs
  | _ => none
/-- the items of a list -/
def asLl : Va → Option (List D)
  | .d (.lst xs) => some xs
  | .ls xs => some xs
  | _ => none
def getS (env : Env) (i : Nat) : Option Va := (env[i]?).join
def useS (env : Env) (i : Nat) : Option (Va × Env) := match getS env i with
  | some (.d x) => some (.d x, env)
  | some w => some (w, env.set i none)
  | none => none
def fzS (env : Env) (i : Nat) : Option (D × Env) := match getS env i with
  | some (.d x) => some (x, env)
  | some w => (fzV w).map fun x => (x, env.set i (some (.d x)))
  | none => none
def resP (p : PV) (env : Env) : Option Va := match p with
  | .val w => some w
  | .slot i => getS env i
def resPs : List PV → Env → Option (List Va)
  | [], _ => some []
  | p :: ps, env => (resP p env).bind fun w => (resPs ps env).map fun ws => w :: ws

mutual
def D.py : D → PyData
  | .non => .none
  | .bl b => .bool b
  | .int i => .int i
  | .str s => .str ⟨s.toArray⟩
  | .tup xs => .tuple (D.pys xs)
  | .lst xs => .list (D.pys xs)
  | .dct _ _ => .dict []
def D.pys : List D → List PyData
  | [] => []
  | x :: xs => x.py :: D.pys xs
end
def eqD (x y : D) : Bool := PyData.eqv x.py y.py
def okD (x : D) : Bool := SeqAt.shaped x.py

def negS : Va → Option Va
  | .d (.int i) => some (.d (.int (-i)))
  | _ => none
def addS : Va → Va → Option Va
  | .d (.int i), .d (.int j) => some (.d (.int (i + j)))
  | .d (.str a), .d (.str b) => if a.length + b.length ≤ szL then some (.d (.str (a ++ b))) else none
  | .d (.tup a), .d (.tup b) => if a.length + b.length ≤ szL then some (.d (.tup (a ++ b))) else none
  | .ls a, .ls b => if a.length + b.length ≤ szL then some (.ls (a ++ b)) else none
  | .d (.lst a), .ls b => if a.length + b.length ≤ szL then some (.ls (a ++ b)) else none
  | .ls a, .d (.lst b) => if a.length + b.length ≤ szL then some (.ls (a ++ b)) else none
  | .d (.lst a), .d (.lst b) => if a.length + b.length ≤ szL then some (.ls (a ++ b)) else none
  | _, _ => none
def subS : Va → Va → Option Va
  | .d (.int i), .d (.int j) => some (.d (.int (i - j)))
  | _, _ => none
def rep {α : Type} (k : Nat) (xs : List α) : List α := (List.replicate k xs).flatten
def mulS : Va → Va → Option Va
  | .d (.int i), .d (.int j) => if (-(2 ^ 64) < i ∧ i < 2 ^ 64) ∨ (-(2 ^ 64) < j ∧ j < 2 ^ 64) then some (.d (.int (i * j))) else none
  | .ls a, .d (.int k) => if -1000 ≤ k ∧ k ≤ 1000 ∧ a.length ≤ 1000 then some (.ls (rep k.toNat a)) else none
  | .d (.tup a), .d (.int k) => if k = 1 then some (.d (.tup a)) else if k = 0 ∧ a ≠ [] then some (.d (.tup [])) else if a ≠ [] ∧ 2 ≤ k ∧ k ≤ 1000 ∧ a.length ≤ 1000 then some (.d (.tup (rep k.toNat a))) else none
  | _, _ => none
def divS : Va → Va → Option Va
  | .d (.int i), .d (.int j) => if 0 < j ∧ j < 1073741824 then some (.d (.int (i / j))) else none
  | _, _ => none
def modS : Va → Va → Option Va
  | .d (.int i), .d (.int j) => if 0 < j then some (.d (.int (i % j))) else none
  | _, _ => none
def powS : Va → Va → Option Va
  | .d (.int i), .d (.int j) => if 0 ≤ j ∧ j ≤ 1000000 ∧ i.natAbs < 2 ^ 64 then some (.d (.int (i ^ j.toNat))) else none
  | _, _ => none
def binS : Operator → Va → Va → Option Va
  | .Add => addS
  | .Sub => subS
  | .Mult => mulS
  | .FloorDiv => divS
  | .Mod => modS
  | .Pow => powS
  | _ => fun _ _ => none
/-- one text within another: of none or one sign -/
def isIn : List Nat → List Nat → Option Bool
  | [], _ => some true
  | [c], b => some (decide (c ∈ b))
  | _, _ => none
def keyOf {β : Type} : List (List Nat × β) → List Nat → Option β
  | [], _ => none
  | (k, v) :: r, x => if k = x then some v else keyOf r x
def putKey {β : Type} (kvs : List (List Nat × β)) (x : List Nat) (v : β) : List (List Nat × β) :=
  if (kvs.any fun p => decide (p.1 = x)) = true then kvs.map (fun p => if p.1 = x then (p.1, v) else p) else kvs ++ [(x, v)]
def anyEq (x : D) (xs : List D) : Bool := xs.any fun z => eqD z x
def inL (x : D) (xs : List D) : Option Va := if okD x = true ∧ okD (.lst xs) = true then some (.d (.bl (anyEq x xs))) else none
def inS : Va → Va → Option Va
  | .d (.str a), .d (.str b) => (isIn a b).map fun t => .d (.bl t)
  | .d (.str k), .dc kvs => some (.d (.bl (keyOf kvs k).isSome))
  | .d x, .d (.tup xs) => inL x xs
  | .d x, .d (.lst xs) => inL x xs
  | .d x, .ls xs => inL x xs
  | _, _ => none
def notV : Option Va → Option Va
  | some (.d (.bl b)) => some (.d (.bl (!b)))
  | _ => none
/-- the data that == compares: lists are told as data -/
def asD : Va → Option D
  | .d x => some x
  | .ls xs => some (.lst xs)
  | _ => none
/-- a list beside the empty one: only the lengths count -/
def eqN : Va → Va → Option Va
  | .ls xs, .ls [] => some (.d (.bl xs.isEmpty))
  | .d (.lst xs), .ls [] => some (.d (.bl xs.isEmpty))
  | .ll rows, .ls [] => some (.d (.bl rows.isEmpty))
  | _, _ => none
/-- any tuple beside the empty one -/
def eqE : Va → Va → Option Va
  | .d (.tup xs), .d (.tup []) => some (.d (.bl xs.isEmpty))
  | _, _ => none
def eqS (x y : Va) : Option Va := ((eqN x y).or ((asD x).bind fun a => (asD y).bind fun b => if okD a = true ∧ okD b = true then some (.d (.bl (eqD a b))) else none)).or (eqE x y)
def isNone : D → Bool
  | .non => true
  | _ => false
def isS : Va → Va → Option Va
  | .d (.bl a), .d (.bl b) => some (.d (.bl (decide (a = b))))
  | .d x, .d .non => some (.d (.bl (isNone x)))
  | .ls _, .d .non => some (.d (.bl false))
  | .dc _, .d .non => some (.d (.bl false))
  | _, _ => none
def ltS : Va → Va → Option Va
  | .d (.int i), .d (.int j) => some (.d (.bl (decide (i < j))))
  | .d (.str a), .d (.str b) => some (.d (.bl (decide (a < b))))
  | _, _ => none
def leS : Va → Va → Option Va
  | .d (.int i), .d (.int j) => some (.d (.bl (decide (i ≤ j))))
  | .d (.str a), .d (.str b) => some (.d (.bl (!decide (b < a))))
  | _, _ => none
def gtS : Va → Va → Option Va
  | .d (.int i), .d (.int j) => some (.d (.bl (decide (j < i))))
  | _, _ => none
def geS : Va → Va → Option Va
  | .d (.int i), .d (.int j) => some (.d (.bl (decide (j ≤ i))))
  | _, _ => none
def cmpS : CmpOp → Va → Va → Option Va
  | .Eq => eqS
  | .NotEq => fun x y => notV (eqS x y)
  | .Lt => ltS
  | .LtE => leS
  | .Gt => gtS
  | .GtE => geS
  | .Is => isS
  | .IsNot => fun x y => notV (isS x y)
  | .In => inS
  | .NotIn => fun x y => notV (inS x y)
/-- an item by a number of any sign -/
def ixN (n : Nat) (i : Int) : Option Nat := if 0 ≤ i then (if i < n then some i.toNat else none) else if -(n : Int) ≤ i then some (i + n).toNat else none
def atI {α : Type} (xs : List α) (i : Int) : Option α := (ixN xs.length i).bind fun j => xs[j]?
def itemS : Va → Va → Option Va
  | .d (.str s), .d (.int i) => if s.length ≤ szL then (atI s i).map fun c => .d (.str [c]) else none
  | .d (.tup xs), .d (.int i) => (atI xs i).map .d
  | .d (.lst xs), .d (.int i) => (atI xs i).map .d
  | .ls xs, .d (.int i) => (atI xs i).map .d
  | .dc kvs, .d (.str k) => (keyOf kvs k).map .d
  | .d (.dct ks vs), .d (.str k) => (keyOf (ks.zip vs) k).map .d
  | _, _ => none
def sIx (n d : Nat) : Option Int → Nat
  | none => d
  | some v => if v < 0 then (v + (n : Int)).toNat else min v.toNat n
def cut {α : Type} (xs : List α) (lo hi : Option Int) : List α := (xs.drop (sIx xs.length 0 lo)).take (sIx xs.length xs.length hi - sIx xs.length 0 lo)
def cutS (x : Va) (lo hi : Option Int) : Option Va := match x with
  | .d (.str s) => if s.length ≤ szL then some (.d (.str (cut s lo hi))) else none
  | .d (.tup xs) => some (.d (.tup (cut xs lo hi)))
  | .d (.lst xs) => some (.ls (cut xs lo hi))
  | .ls xs => some (.ls (cut xs lo hi))
  | .scr ns => some (.ls ((cut ns lo hi).map .int))
  | _ => none
/-- a rising row of texts -/
def insT (x : List Nat) : List (List Nat) → List (List Nat)
  | [] => [x]
  | y :: r => if y < x then y :: insT x r else x :: y :: r
def sortT : List (List Nat) → List (List Nat)
  | [] => []
  | x :: r => insT x (sortT r)
def strsOf : List D → Option (List (List Nat))
  | [] => some []
  | .str s :: r => (strsOf r).map fun t => s :: t
  | _ :: _ => none
def intsOf : List D → Option (List Int)
  | [] => some []
  | .int i :: r => (intsOf r).map fun t => i :: t
  | _ :: _ => none
def blsOf : List D → Option (List Bool)
  | [] => some []
  | .bl b :: r => (blsOf r).map fun t => b :: t
  | _ :: _ => none
def lenS : Va → Option Va
  | .d (.str s) => if s.length ≤ szL then some (.d (.int s.length)) else none
  | .d (.tup xs) => some (.d (.int xs.length))
  | .d (.lst xs) => some (.d (.int xs.length))
  | .ls xs => some (.d (.int xs.length))
  | .ll rows => some (.d (.int rows.length))
  | .dc kvs => some (.d (.int kvs.length))
  | _ => none
def sortedS (x : Va) : Option Va := match x with
  | .dc kvs => if kvs.length < 64 then some (.ls ((sortT (kvs.map (·.1))).map .str)) else none
  | _ => (asLl x).bind fun xs => (strsOf xs).bind fun ss => if ss.length < 64 then some (.ls ((sortT ss).map .str)) else none
/-- the greatest -/
def maxL : Int → List Int → Int
  | m, [] => m
  | m, x :: r => maxL (if m < x then x else m) r
/-- the entries of dict(a row of pairs) -/
def pairsOf : List D → Option (List (List Nat × D))
  | [] => some []
  | .tup [.str k, v] :: r => (pairsOf r).map fun t => (k, v) :: t
  | _ :: _ => none
def intoKeys {β : Type} (acc : List (List Nat × β)) : List (List Nat × β) → List (List Nat × β)
  | [] => acc
  | (k, v) :: r => intoKeys (putKey acc k v) r
/-- pairs of a text and a thing -/
def prsOf : List D → Option (List (List Nat × D))
  | [] => some []
  | .tup [.str k, x] :: r => (prsOf r).map fun q => (k, x) :: q
  | _ => none
def dictS : Va → Option Va
  | .dc kvs => some (.dc kvs)
  | x => (asL x).bind fun xs => (prsOf xs).map fun kvs => .dc (intoKeys [] kvs)
/-- the least text -/
def minT (k : List Nat) (ks : List (List Nat)) : List Nat := ks.foldl (fun a y => if decide (y < a) = true then y else a) k
def minK : List (List Nat) → Option (List Nat)
  | [] => none
  | k :: ks => some (minT k ks)
def cbS : BN → List Va → Option Va
  | .len, [x] => lenS x
  | .tuple, [x] => (asL x).map fun xs => .d (.tup xs)
  | .list, [x] => (asL x).map fun xs => .ls xs
  | .sorted, [x] => sortedS x
  | .sum, [x] => (asLl x).bind fun xs => (intsOf xs).map fun ns => .d (.int ns.sum)
  | .all, [x] => (asLl x).bind fun xs => (blsOf xs).map fun bs => .d (.bl (bs.all id))
  | .any, [x] => (asLl x).bind fun xs => (blsOf xs).map fun bs => .d (.bl (bs.any id))
  | .max, [x] => (asLl x).bind fun xs => (intsOf xs).bind fun ns => match ns with
    | [] => none
    | n :: r => some (.d (.int (maxL n r)))
  | .max, [.d (.int i), .d (.int j)] => some (.d (.int (if j > i then j else i)))
  | .min, [.d (.int i), .d (.int j)] => some (.d (.int (if j < i then j else i)))
  | .min, [.dc kvs] => (minK (kvs.map (·.1))).map fun k => .d (.str k)
  | .int, [.d (.bl b)] => some (.d (.int (if b then 1 else 0)))
  | .int, [.d (.int i)] => some (.d (.int i))
  | .dict, [x] => dictS x
  | _, _ => none
def tnS : TN → D → Bool
  | .str, .str _ => true
  | .int, .int _ => true
  | .int, .bl _ => true
  | .bool, .bl _ => true
  | .tup, .tup _ => true
  | .lst, .lst _ => true
  | .dct, .dct _ _ => true
  | _, _ => false
def isiS (ts : List TN) : Va → Option Va
  | .d x => some (.d (.bl (ts.any fun t => tnS t x)))
  | .ls _ => some (.d (.bl (ts.any fun t => t = .lst)))
  | _ => none
def joinT (sep : List Nat) : List (List Nat) → List Nat
  | [] => []
  | [x] => x
  | x :: y :: r => x ++ sep ++ joinT sep (y :: r)
def joinS : Va → List Va → Option Va
  | .d (.str a), [x] => (asL x).bind fun xs => (strsOf xs).bind fun ss => if (joinT a ss).length + a.length ≤ szL then some (.d (.str (joinT a ss))) else none
  | _, _ => none
def dgetS : Va → List Va → Option Va
  | .dc kvs, [.d (.str k)] => some (.d ((keyOf kvs k).getD .non))
  | .dc kvs, [.d (.str k), .d x] => some (.d ((keyOf kvs k).getD x))
  | _, _ => none
/-- how often a text stands in a list of texts -/
def cntS : Va → List Va → Option Va
  | w, [.d (.str k)] => (asLl w).bind fun xs => (strsOf xs).map fun ss => .d (.int (ss.count k : Nat))
  | _, _ => none
def lettersA : List Nat := [97, 98, 99, 100, 101, 102, 103, 104, 105, 106, 107, 108, 109, 110, 111, 112, 113, 114, 115, 116, 117, 118, 119, 120, 121, 122]
/-- where a small letter stands among the small letters -/
def idxS : Va → List Va → Option Va
  | .d (.str a), [.d (.str [c])] => if a = lettersA ∧ c ∈ lettersA then some (.d (.int (lettersA.idxOf c : Nat))) else none
  | _, _ => none
/-- the pieces of a text between a sign -/
def splC (c : Nat) : List Nat → List Nat → List (List Nat)
  | acc, [] => [acc]
  | acc, x :: r => if x = c then acc :: splC c [] r else splC c (acc ++ [x]) r
def splS : Va → List Va → Option Va
  | .d (.str a), [.d (.str [c])] => if c < 256 ∧ a.length + 2 ≤ szL then some (.ls ((splC c [] a).map .str)) else none
  | _, _ => none
/-- where a text first stands in a list of texts -/
def lixS : Va → List Va → Option Va
  | w, [.d (.str k)] => (asLl w).bind fun xs => (strsOf xs).bind fun ss => if k ∈ ss then some (.d (.int (ss.idxOf k : Nat))) else none
  | _, _ => none
def mtS : MN → Va → List Va → Option Va
  | .join => joinS
  | .get => dgetS
  | .count => cntS
  | .index => idxS
  | .split => splS
  | .lindex => lixS
  | _ => fun _ _ => none
/-- the kind of thing that has such a method -/
def mtOk : MN → Va → Bool
  | .join, .d (.str _) => true
  | .get, .dc _ => true
  | .count, .ls _ => true
  | .count, .d (.lst _) => true
  | .index, .d (.str _) => true
  | .split, .d (.str _) => true
  | .lindex, .ls _ => true
  | .lindex, .d (.lst _) => true
  | _, _ => false
/-- turned about -/
def revS : Va → Option Va
  | .d (.tup xs) => some (.d (.tup xs.reverse))
  | .d (.str s) => if s.length ≤ szL then some (.d (.str s.reverse)) else none
  | .ls xs => some (.ls xs.reverse)
  | .d (.lst xs) => some (.ls xs.reverse)
  | _ => none
/-- turned about, without the first: t[:0:-1] -/
def rev1S : Va → Option Va
  | .d (.tup xs) => some (.d (.tup (xs.drop 1).reverse))
  | _ => none
def upC (c : Nat) : Nat := if 97 ≤ c ∧ c ≤ 122 then c - 32 else c
def loC (c : Nat) : Nat := if 65 ≤ c ∧ c ≤ 90 then c + 32 else c
def caseS (f : Nat → Nat) : Va → Option Va
  | .d (.str s) => if s.length ≤ 5592405 ∧ s.all (· < 128) = true then some (.d (.str (s.map f))) else none
  | _ => none
/-- the unlike ones -/
def uniqT : List (List Nat) → List (List Nat)
  | [] => []
  | x :: r => if x ∈ r then uniqT r else x :: uniqT r
def ssrtS (x : Va) : Option Va := (asLl x).bind fun xs => (strsOf xs).bind fun ss => if ss.length ≤ 1000 ∧ (uniqT ss).length < 64 then some (.ls ((sortT (uniqT ss)).map .str)) else none
def slenS (x : Va) : Option Va := (asLl x).bind fun xs => (strsOf xs).bind fun ss => if ss.length ≤ 1000 then some (.d (.int (uniqT ss).length)) else none
/-- what a loop walks -/
def itemsD : D → Option (List D)
  | .tup xs => some xs
  | .lst xs => some xs
  | .str s => some (s.map fun c => .str [c])
  | .dct ks _ => some (ks.map .str)
  | _ => none
def rangeL (lo : Int) (n : Nat) : List D := (List.range n).map fun (k : Nat) => .int (lo + k)
def rngS : List Va → Option (List D)
  | [.d (.int j)] => if -(2 ^ 62) ≤ j ∧ j < 2 ^ 62 then some (rangeL 0 j.toNat) else none
  | [.d (.int i), .d (.int j)] => if -(2 ^ 62) ≤ i ∧ i < 2 ^ 62 ∧ -(2 ^ 62) ≤ j ∧ j < 2 ^ 62 then some (rangeL i (j - i).toNat) else none
  | _ => none
def zipD : List D → List D → List D
  | x :: xs, y :: ys => .tup [x, y] :: zipD xs ys
  | _, _ => []
/-- zip of two tuples alike in length; list(zip(..)) of two tuples, of two lists -/
def zipT : List Va → Option (List D)
  | [.d (.tup xs), .d (.tup ys)] => if xs.length = ys.length then some (zipD xs ys) else none
  | _ => none
def zipN : List Va → Option Va
  | [.d (.tup xs), .d (.tup ys)] => if xs.length = ys.length then some (.ls (zipD xs ys)) else none
  | [x, y] => (asLl x).bind fun xs => (asLl y).bind fun ys => if xs.length = ys.length then some (.ls (zipD xs ys)) else none
  | _ => none
def enuD : Nat → List D → List D
  | _, [] => []
  | n, x :: xs => .tup [.int n, x] :: enuD (n + 1) xs

/-! ### the evaluator -/
def opnd (c : CE) (ev : Env → Option (Va × Env)) (env : Env) : Option (PV × Env) := match c with
  | .var i => match getS env i with
    | some _ => some (.slot i, env)
    | none => none
  | _ => bnd (ev env) fun w e => some (.val w, e)
def fopn (c : CE) (ev : Env → Option (Va × Env)) (env : Env) : Option (D × Env) := match c with
  | .var i => fzS env i
  | _ => bnd (ev env) fun w e => (fzV w).map fun x => (x, e)
/-- a tuple, or else .. -/
def orvS (r2 : Env → Option (Va × Env)) : Va → Env → Option (Va × Env)
  | .d (.tup []), e => r2 e
  | .d (.tup (x :: r)), e => some (.d (.tup (x :: r)), e)
  | _, _ => none
def un1 (f : Va → Option Va) (ra : Env → Option (PV × Env)) (env : Env) : Option (Va × Env) :=
  bnd (ra env) fun p e => (resP p e).bind fun x => (f x).map fun w => (w, e)
def un2 (f : Va → Va → Option Va) (ra rb : Env → Option (PV × Env)) (env : Env) : Option (Va × Env) :=
  bnd (ra env) fun p e1 => bnd (rb e1) fun q e2 => (resP p e2).bind fun x => (resP q e2).bind fun y => (f x y).map fun w => (w, e2)
def unN (f : List Va → Option Va) (rs : Env → Option (List PV × Env)) (env : Env) : Option (Va × Env) :=
  bnd (rs env) fun ps e => (resPs ps e).bind fun xs => (f xs).map fun w => (w, e)
/-- a comparison's chain -/
def un3 (f g : Va → Va → Option Va) (ra rb rc : Env → Option (PV × Env)) (env : Env) : Option (Va × Env) :=
  bnd (ra env) fun p e1 => bnd (rb e1) fun q e2 => (resP p e2).bind fun x => (resP q e2).bind fun y => (f x y).bind fun t => (asB t).bind fun b =>
    if b = true then bnd (rc e2) fun r e3 => (resP q e3).bind fun y' => (resP r e3).bind fun z => (g y' z).map fun w => (w, e3) else some (.d (.bl false), e2)
def takeArgs : List PV → Env → Option (List Va × Env)
  | [], env => some ([], env)
  | .val w :: ps, env => bnd (takeArgs ps env) fun ws e => some (w :: ws, e)
  | .slot i :: ps, env => bnd (useS env i) fun w e1 => bnd (takeArgs ps e1) fun ws e => some (w :: ws, e)
def putArgs : List PV → List Va → List Va → Env → Env
  | .slot _ :: ps, .d _ :: ws, _ :: us, env => putArgs ps ws us env
  | .slot i :: ps, _ :: ws, u :: us, env => putArgs ps ws us (env.set i (some u))
  | .val _ :: ps, _ :: ws, _ :: us, env => putArgs ps ws us env
  | _, _, _, env => env
def callS (Φ : Nat → List Va → Option (Va × List Va)) (f : Nat) (ps : List PV) (env : Env) : Option (Va × Env) :=
  bnd (takeArgs ps env) fun ws e1 => bnd (Φ f ws) fun r us => some (r, putArgs ps ws us e1)
def tgS : Tg → D → Env → Option Env
  | .one i, x, env => some (env.set i (some (.d x)))
  | .many is, .tup xs, env => if is.length = xs.length then some ((is.zip xs).foldl (fun e p => e.set p.1 (some (.d p.2))) env) else none
  | .many _, _, _ => none
def wipeS (env : Env) : List Nat → Env
  | [] => env
  | v :: vs => (wipeS env vs).set v none
def compL (turn : D → Env → Option (Option D × Env)) (own : List Nat) : List D → Env → List D → Option (List D × Env)
  | [], env, acc => some (acc, env)
  | x :: xs, env, acc => bnd (turn x env) fun y e => match y with
    | some y => if acc.length < szL then compL turn own xs (wipeS e own) (acc ++ [y]) else none
    | none => compL turn own xs (wipeS e own) acc
def popS (env : Env) (i : Nat) : Option (Va × Env) := match getS env i with
  | some (.ls xs) => match xs.getLast? with
    | some y => some (.d y, env.set i (some (.ls xs.dropLast)))
    | none => none
  | _ => none

/-- a list that this name alone holds -/
def lsAt (env : Env) (i : Nat) : Bool := match getS env i with
  | some (.ls _) => true
  | _ => false
/-- an item by its number, taken out -/
def popIS (env : Env) (i : Nat) (y : D) : Option (Va × Env) := match getS env i, y with
  | some (.ls xs), .int n => if xs.length ≤ szL then (ixN xs.length n).bind fun j => (xs[j]?).map fun z => (.d z, env.set i (some (.ls (xs.eraseIdx j)))) else none
  | _, _ => none
/-- a dict that this name alone holds -/
def dcAt (env : Env) (i : Nat) : Bool := match getS env i with
  | some (.dc _) => true
  | _ => false
/-- what stands at a key, or the thing, laid there -/
def sdfIS (env : Env) (i : Nat) (y z : D) : Option (Va × Env) := match getS env i, y with
  | some (.dc kvs), .str s => if kvs.length < szL then match keyOf kvs s with
    | some x => some (.d x, env)
    | none => some (.d z, env.set i (some (.dc (putKey kvs s z))))
    else none
  | _, _ => none
/-- a list of lists that this name alone holds -/
def llAt (env : Env) (i : Nat) : Option (List (List D)) := match getS env i with
  | some (.ll rows) => some rows
  | _ => none
/-- a dict of one pair, its key reckoned -/
def dl1S (x y : D) (e : Env) : Option (Va × Env) := match x with
  | .str s => some (.dc [(s, y)], e)
  | _ => none
/-- a dict that a name holds, its own or frozen -/
def dictAt (env : Env) (i : Nat) : Option (List (List Nat × D)) := match getS env i with
  | some (.dc kvs) => some kvs
  | some (.d (.dct ks vs)) => some (ks.zip vs)
  | _ => none
def dg2S (env : Env) (i : Nat) (x y : D) : Option (Va × Env) := (dictAt env i).bind fun kvs => match x with
  | .str k => some (.d ((keyOf kvs k).getD y), env)
  | _ => none
def keysLS (env : Env) (i : Nat) : Option (Va × Env) := match getS env i with
  | some (.dc kvs) => some (.ls (kvs.map fun p => .str p.1), env)
  | _ => none
def updS (env : Env) (i : Nat) (y : Va) : Option (Fl × Env) := match getS env i, y with
  | some (.dc kvs), .dc more => if kvs.length + more.length ≤ szL then some (.nx, env.set i (some (.dc (intoKeys kvs more)))) else none
  | _, _ => none
def lasS (env : Env) (i : Nat) : Option (Va × Env) := (llAt env i).bind fun rows => rows.getLast?.map fun r => (.d (.bl r.isEmpty), env)
def popTS (env : Env) (i : Nat) : Option (Va × Env) := (llAt env i).bind fun rows => rows.getLast?.map fun r => (.d (.tup r), env.set i (some (.ll rows.dropLast)))
def rowTS (env : Env) (i : Nat) : Option (Va × Env) := (llAt env i).bind fun rows => rows[0]?.map fun r => (.d (.tup r), env)
def appNS (env : Env) (i : Nat) : Option (Fl × Env) := (llAt env i).bind fun rows => if rows.length < szL then some (.nx, env.set i (some (.ll (rows ++ [[]])))) else none
def appLS (ev : Env → Option (D × Env)) (env : Env) (i : Nat) : Option (Fl × Env) := (llAt env i).bind fun rows => rows.getLast?.bind fun r =>
  bnd (ev (env.set i none)) fun x e1 => if r.length < szL then some (.nx, e1.set i (some (.ll (rows.dropLast ++ [r ++ [x]])))) else none
section
variable (Φ : Nat → List Va → Option (Va × List Va)) (Γ : Nat → Option D)
mutual
def evE : CE → Env → Option (Va × Env)
  | .var i, env => useS env i
  | .glb g, env => (Γ g).map fun x => (.d x, env)
  | .lit x, env => some (.d x, env)
  | .neg a, env => un1 negS (opnd a (evE a)) env
  | .bin o a b, env => un2 (binS o) (opnd a (evE a)) (opnd b (evE b)) env
  | .cmp o a b, env => un2 (cmpS o) (opnd a (evE a)) (opnd b (evE b)) env
  | .cmp2 o p a b c, env => un3 (cmpS o) (cmpS p) (opnd a (evE a)) (opnd b (evE b)) (opnd c (evE c)) env
  | .and as, env => evAnd as env
  | .or as, env => evOr as env
  | .not a, env => bnd (evE a env) fun w e => (asB w).map fun b => (.d (.bl (!b)), e)
  | .ife c a b, env => bnd (evE c env) fun w e => (asB w).bind fun t => if t = true then evE a e else evE b e
  | .sub a b, env => un2 itemS (opnd a (evE a)) (opnd b (evE b)) env
  | .slc a lo hi, env => bnd (opnd a (evE a) env) fun p e1 => bnd (evO lo e1) fun l e2 => bnd (evO hi e2) fun h e3 => (resP p e3).bind fun x => (cutS x l h).map fun w => (w, e3)
  | .tup as, env => bnd (evFs as env) fun xs e => if xs.length ≤ szL then some (.d (.tup xs), e) else none
  | .lst as, env => bnd (evFs as env) fun xs e => if xs.length ≤ szL then some (.ls xs, e) else none
  | .dnew, env => some (.dc [], env)
  | .cb f as, env => unN (cbS f) (evPs as) env
  | .isi a ts, env => un1 (isiS ts) (opnd a (evE a)) env
  | .cf f as, env => bnd (evPs as env) fun ps e => callS Φ f ps e
  | .mt m a as, env => bnd (opnd a (evE a) env) fun p e1 => (resP p e1).bind fun x0 => if mtOk m x0 = false then none else bnd (evPs as e1) fun ps e2 => (resP p e2).bind fun x => (resPs ps e2).bind fun xs => (mtS m x xs).map fun w => (w, e2)
  | .popV i, env => popS env i
  | .popI i a, env => if lsAt env i = true then bnd (fopn a (evE a) env) fun y e1 => popIS e1 i y else none
  | .sdf i a b, env => if dcAt env i = true then bnd (fopn a (evE a) env) fun y e1 => bnd (fopn b (evE b) e1) fun z e2 => sdfIS e2 i y z else none
  | .comp own tg it cs e, env => bnd (evI it env) fun xs e1 =>
      bnd (compL (fun x e2 => (tgS tg x e2).bind fun e3 => bnd (evCs cs e3) fun t e4 => if t = true then bnd (fopn e (evE e) e4) fun y e5 => some (some y, e5) else some (none, e4)) (own.map (·.2)) xs (wipeS e1 (own.map (·.2))) []) fun ys e6 => some (.ls ys, e6)
  | .fz a, env => bnd (fopn a (evE a) env) fun x e => some (.d x, e)
  | .ssrt a, env => un1 ssrtS (opnd a (evE a)) env
  | .slen a, env => un1 slenS (opnd a (evE a)) env
  | .dlit ks as, env => bnd (evFs as env) fun xs e => if ks.length = xs.length ∧ ks.length ≤ 15 then some (.dc (intoKeys [] (ks.zip xs)), e) else none
  | .rev a, env => un1 revS (opnd a (evE a)) env
  | .lzip as, env => unN zipN (evPs as) env
  | .rev1 a, env => un1 rev1S (opnd a (evE a)) env
  | .orv a b, env => bnd (evE a env) (orvS (evE b))
  | .lln, env => some (.ll [[]], env)
  | .lasE i, env => lasS env i
  | .popT i, env => popTS env i
  | .rowT i, env => rowTS env i
  | .keysL i, env => keysLS env i
  | .dg2 i a b, env => if (dictAt env i).isSome = true then bnd (fopn a (evE a) env) fun x e1 => bnd (fopn b (evE b) e1) fun y e2 => dg2S e2 i x y else none
  | .dl1 a b, env => bnd (fopn a (evE a) env) fun x e1 => bnd (fopn b (evE b) e1) fun y e2 => dl1S x y e2
  | .up a, env => un1 (caseS upC) (opnd a (evE a)) env
  | .lo a, env => un1 (caseS loC) (opnd a (evE a)) env
def evAnd : CEs → Env → Option (Va × Env)
  | .nil, _ => none
  | .cons a .nil, env => evE a env
  | .cons a (.cons b r), env => bnd (evE a env) fun w e => (asB w).bind fun t => if t = true then evAnd (.cons b r) e else some (.d (.bl false), e)
def evOr : CEs → Env → Option (Va × Env)
  | .nil, _ => none
  | .cons a .nil, env => evE a env
  | .cons a (.cons b r), env => bnd (evE a env) fun w e => (asB w).bind fun t => if t = true then some (.d (.bl true), e) else evOr (.cons b r) e
def evPs : CEs → Env → Option (List PV × Env)
  | .nil, env => some ([], env)
  | .cons a r, env => bnd (opnd a (evE a) env) fun p e1 => bnd (evPs r e1) fun ps e2 => some (p :: ps, e2)
def evFs : CEs → Env → Option (List D × Env)
  | .nil, env => some ([], env)
  | .cons a r, env => bnd (fopn a (evE a) env) fun p e1 => bnd (evFs r e1) fun ps e2 => some (p :: ps, e2)
def evCs : CEs → Env → Option (Bool × Env)
  | .nil, env => some (true, env)
  | .cons a r, env => bnd (evE a env) fun w e => (asB w).bind fun t => if t = true then evCs r e else some (false, e)
def evO : CO → Env → Option (Option Int × Env)
  | .none, env => some (none, env)
  | .some a, env => bnd (evE a env) fun w e => (asI w).map fun i => (some i, e)
def evI : CI → Env → Option (List D × Env)
  | .it a, env => bnd (fopn a (evE a) env) fun x e => (itemsD x).map fun xs => (xs, e)
  | .rng as, env => bnd (evPs as env) fun ps e => (resPs ps e).bind fun ws => (rngS ws).map fun xs => (xs, e)
  | .zip as, env => bnd (evPs as env) fun ps e => (resPs ps e).bind fun ws => (zipT ws).map fun xs => (xs, e)
  | .enu a, env => bnd (fopn a (evE a) env) fun x e => (itemsD x).map fun xs => (enuD 0 xs, e)
end

/-! ### statements -/
def whlN (c : Env → Option (Va × Env)) (b : Env → Option (Fl × Env)) : Nat → Env → Option (Fl × Env)
  | 0, _ => none
  | n + 1, env => bnd (c env) fun w e => (asB w).bind fun t => if t = true then bnd (b e) fun f e' => match f with
      | .nx => whlN c b n e'
      | .ct => whlN c b n e'
      | .bk => some (.nx, e')
      | .rt w => some (.rt w, e') else some (.nx, e)
open Classical in
noncomputable def whl (c : Env → Option (Va × Env)) (b : Env → Option (Fl × Env)) (env : Env) : Option (Fl × Env) :=
  if h : ∃ n, (whlN c b n env).isSome = true then whlN c b h.choose env else none
def forL (b : D → Env → Option (Fl × Env)) : List D → Env → Option (Fl × Env)
  | [], env => some (.nx, env)
  | x :: xs, env => bnd (b x env) fun f e => match f with
    | .nx => forL b xs e
    | .ct => forL b xs e
    | .bk => some (.nx, e)
    | .rt w => some (.rt w, e)
def appS (env : Env) (i : Nat) (x : D) : Option (Fl × Env) := match getS env i with
  | some (.ls xs) => if xs.length < szL then some (.nx, env.set i (some (.ls (xs ++ [x])))) else none
  | _ => none
def extS (env : Env) (i : Nat) (y : Va) : Option (Fl × Env) := match getS env i with
  | some (.ls xs) => match y with
    | .ls ys => if xs.length + ys.length ≤ szL then some (.nx, env.set i (some (.ls (xs ++ ys)))) else none
    | .d (.tup ys) => if xs.length + ys.length ≤ szL then some (.nx, env.set i (some (.ls (xs ++ ys)))) else none
    | _ => none
  | _ => none
def setIS (env : Env) (i : Nat) (k : Va) (x : D) : Option (Fl × Env) := match getS env i, k with
  | some (.ls xs), .d (.int n) => (ixN xs.length n).map fun j => (.nx, env.set i (some (.ls (xs.set j x))))
  | some (.dc kvs), .d (.str s) => if kvs.length < szL then some (.nx, env.set i (some (.dc (putKey kvs s x)))) else none
  | _, _ => none
def augS (o : Operator) (x y : Va) : Option Va := match o, x, y with
  | .Add, .d (.int i), .d (.int j) => some (.d (.int (i + j)))
  | .Sub, .d (.int i), .d (.int j) => some (.d (.int (i - j)))
  | _, _, _ => none
mutual
noncomputable def exS : CS → Env → Option (Fl × Env)
  | .asg i e, env => bnd (evE Φ Γ e env) fun w e1 => some (.nx, e1.set i (some w))
  | .asgT is e, env => bnd (fopn e (evE Φ Γ e) env) fun x e1 => (tgS (.many is) x e1).map fun e2 => (.nx, e2)
  | .expr e, env => bnd (evE Φ Γ e env) fun _ e1 => some (.nx, e1)
  | .app i e, env => if lsAt env i = true then bnd (fopn e (evE Φ Γ e) env) fun x e1 => appS e1 i x else none
  | .ext i e, env => if lsAt env i = true then bnd (opnd e (evE Φ Γ e) env) fun p e1 => (resP p e1).bind fun y => extS e1 i y else none
  | .setI i k e, env => bnd (fopn e (evE Φ Γ e) env) fun x e1 => if (getS e1 i).isSome = false then none else bnd (opnd k (evE Φ Γ k) e1) fun p e2 => (resP p e2).bind fun y => setIS e2 i y x
  | .aug i o e, env => (getS env i).bind fun x => bnd (evE Φ Γ e env) fun y e1 => (augS o x y).map fun w => (.nx, e1.set i (some w))
  | .ite c a b, env => bnd (evE Φ Γ c env) fun w e => (asB w).bind fun t => if t = true then exB a e else exB b e
  | .whl c b, env => whl (evE Φ Γ c) (exB b) env
  | .for_ tg it b, env => bnd (evI Φ Γ it env) fun xs e1 => forL (fun x e => (tgS tg x e).bind fun e2 => exB b e2) xs e1
  | .ret e, env => bnd (evE Φ Γ e env) fun w e1 => some (.rt w, e1)
  | .retN, env => some (.rt (.d .non), env)
  | .brk, env => some (.bk, env)
  | .cnt, env => some (.ct, env)
  | .pass, env => some (.nx, env)
  | .appN i, env => appNS env i
  | .appL i e, env => appLS (fopn e (evE Φ Γ e)) env i
  | .rse, _ => none
  | .upd i e, env => if dcAt env i = true then bnd (evE Φ Γ e env) fun y e1 => updS e1 i y else none
  | .par i j a b, env => bnd (fopn a (evE Φ Γ a) env) fun x e1 => bnd (fopn b (evE Φ Γ b) e1) fun y e2 => some (.nx, (e2.set i (some (.d x))).set j (some (.d y)))
noncomputable def exB : CB → Env → Option (Fl × Env)
  | .nil, env => some (.nx, env)
  | .cons s r, env => bnd (exS s env) fun f e => match f with
    | .nx => exB r e
    | f => some (f, e)
end
end

/-! ### defs and their calls -/
structure Fn where
  np : Nat
  ns : Nat
  io : List Nat
  body : CB
inductive Df where
  | code (f : Fn) | prim (np : Nat) (p : List Va → Option (Va × List Va))
def Df.np : Df → Nat
  | .code f => f.np
  | .prim n _ => n
structure Tab where
  fns : List (Str × Df)
  consts : List (Str × D)
  blts : List Str
def Tab.con (T : Tab) (g : Nat) : Option D := (T.consts[g]?).map (·.2)
/-- what the callers' objects are behind the call: the plain ones as they were, the others as their parameters hold them -/
def outs (io : List Nat) : Nat → List Va → Env → Option (List Va)
  | _, [], _ => some []
  | j, .d x :: ws, env => (outs io (j + 1) ws env).map fun r => .d x :: r
  | j, _ :: ws, env => if io.contains j = true then (getS env j).bind fun w => (outs io (j + 1) ws env).map fun r => w :: r else none
noncomputable def runFn (T : Tab) (Φ : Nat → List Va → Option (Va × List Va)) (f : Fn) (ws : List Va) : Option (Va × List Va) :=
  bnd (exB Φ T.con f.body (ws.map some ++ List.replicate (f.ns - f.np) none)) fun fl e => match fl with
    | .rt w => (outs f.io 0 ws e).map fun us => (w, us)
    | .nx => (outs f.io 0 ws e).map fun us => (.d .non, us)
    | _ => none
noncomputable def call (T : Tab) : Nat → Nat → List Va → Option (Va × List Va)
  | 0, _, _ => none
  | k + 1, f, ws => match T.fns[f]? with
    | some (_, .code fn) => if ws.length = fn.np then runFn T (call T k) fn ws else none
    | some (_, .prim n p) => if ws.length = n ∧ 8 ≤ k then p ws else none
    | none => none
end Mn
/-! MnB: how plain data stands in the abstract heap; steps; readings as goals of the evaluator. -/
namespace Mn
open PySem L2

def stx (s : List Nat) : Str := ⟨s.toArray⟩
theorem stx_len (s : List Nat) : (stx s).length = s.length := by simp [stx, Str.length]
theorem stx_tl (s : List Nat) : (stx s).cps.toList = s := by simp [stx]
theorem stx_inj {a b : List Nat} (h : stx a = stx b) : a = b := by
  have := congrArg (fun z : Str => z.cps.toList) h
  simpa [stx_tl] using this
theorem szL_eq : szL = sizeLine := by decide

def KL (K : PySem.W.Frag) (a : Addr) (vs : List V) : Prop :=
  ∃ (its : List Value) (n : Nat), K.lookup a = some { cls := .type "list", data := .seq its.toArray n } ∧ its.length ≤ sizeLine ∧ Vals vs its
def FzL (K : PySem.W.Frag) (H : Hp) (a : Addr) (vs : List V) : Prop := (∃ o, H a = some (.frz o (.lst vs))) ∨ KL K a vs
theorem FzL.sq {K : PySem.W.Frag} {H : Hp} {a : Addr} {vs : List V} (h : FzL K H a vs) : SqL K H a vs := by
  rcases h with ⟨o, h⟩ | h
  · exact .inl (.inr ⟨o, h⟩)
  · obtain ⟨its, n, h1, h2, h3⟩ := h
    exact .inr ⟨_, its.toArray, n, h1, rfl, rfl, rfl, by simpa using h2, by simpa using h3⟩
/-- a tuple that stands whole: its object has no dict of its own -/
def TupX (K : PySem.W.Frag) (H : Hp) (a : Addr) (vs : List V) : Prop := (∃ o, H a = some (.frz o (.tup vs)) ∧ o.dict = none) ∨
  ∃ (o : Obj) (its : Array Value) (n : Nat), K.lookup a = some o ∧ o.cls = .type "tuple" ∧ o.dict = none ∧ o.data = .seq its n ∧ its.size ≤ sizeLine ∧ Vals vs its.toList
theorem TupX.sq {K : PySem.W.Frag} {H : Hp} {a : Addr} {vs : List V} (h : TupX K H a vs) : SqT K H a vs := by
  rcases h with ⟨o, h, _⟩ | ⟨o, its, n, h1, h2, _, h4, h5, h6⟩
  · exact .inl (.inr ⟨o, h⟩)
  · exact .inr ⟨o, its, n, h1, h2, h4, h5, h6⟩
mutual
def RepD (K : PySem.W.Frag) (H : Hp) : D → V → Prop
  | .non, v => v = .non
  | .bl b, v => v = .bl b
  | .int i, v => v = .int i
  | .str s, v => v = .str (stx s)
  | .tup xs, v => ∃ a vs, v = .ref a ∧ TupX K H a vs ∧ RepDs K H xs vs
  | .lst xs, v => ∃ a vs, v = .ref a ∧ FzL K H a vs ∧ RepDs K H xs vs
  | .dct ks xs, v => ∃ a o kws, v = .ref a ∧ H a = some (.frz o (.dK kws)) ∧ kws.map (·.1) = ks.map (fun k => (Sum.inr (stx k) : Key)) ∧ RepDs K H xs (kws.map (·.2))
def RepDs (K : PySem.W.Frag) (H : Hp) : List D → List V → Prop
  | [], vs => vs = []
  | x :: xs, vs => ∃ v r, vs = v :: r ∧ RepD K H x v ∧ RepDs K H xs r
end
/-- tuples and frozen things stay -/
def Ext (H H' : Hp) : Prop := (∀ a xs, H a = some (.tup xs) → H' a = some (.tup xs)) ∧ ∀ a o u, H a = some (.frz o u) → H' a = some (.frz o u)
theorem Ext.refl (H : Hp) : Ext H H := ⟨fun _ _ h => h, fun _ _ _ h => h⟩
theorem Ext.trans {H H1 H2 : Hp} (a : Ext H H1) (b : Ext H1 H2) : Ext H H2 := ⟨fun x xs h => b.1 x xs (a.1 x xs h), fun x o u h => b.2 x o u (a.2 x o u h)⟩
section
variable {K : PySem.W.Frag} {H H' : Hp}
theorem Ext.rdt {a : Addr} {xs : List V} (e : Ext H H') (h : SqT K H a xs) : SqT K H' a xs := by
  rcases h with (h | ⟨o, h⟩) | h
  · exact .inl (.inl (e.1 _ _ h))
  · exact .inl (.inr ⟨o, e.2 _ _ _ h⟩)
  · exact .inr h
theorem Ext.tupx {a : Addr} {xs : List V} (e : Ext H H') (h : TupX K H a xs) : TupX K H' a xs := by
  rcases h with ⟨o, h, hd⟩ | h
  · exact .inl ⟨o, e.2 _ _ _ h, hd⟩
  · exact .inr h
theorem Ext.fzl {a : Addr} {xs : List V} (e : Ext H H') (h : FzL K H a xs) : FzL K H' a xs := by
  rcases h with ⟨o, h⟩ | h
  · exact .inl ⟨o, e.2 _ _ _ h⟩
  · exact .inr h
mutual
theorem RepD.ext (e : Ext H H') : ∀ {x : D} {v : V}, RepD K H x v → RepD K H' x v
  | .non, _, h => by simpa [RepD] using h
  | .bl _, _, h => by simpa [RepD] using h
  | .int _, _, h => by simpa [RepD] using h
  | .str _, _, h => by simpa [RepD] using h
  | .tup xs, _, h => by
    simp only [RepD] at h ⊢
    obtain ⟨a, vs, h1, h2, h3⟩ := h
    exact ⟨a, vs, h1, e.tupx h2, RepDs.ext e h3⟩
  | .lst xs, _, h => by
    simp only [RepD] at h ⊢
    obtain ⟨a, vs, h1, h2, h3⟩ := h
    exact ⟨a, vs, h1, e.fzl h2, RepDs.ext e h3⟩
  | .dct ks xs, _, h => by
    simp only [RepD] at h ⊢
    obtain ⟨a, o, kws, h1, h2, h3, h4⟩ := h
    exact ⟨a, o, kws, h1, e.2 _ _ _ h2, h3, RepDs.ext e h4⟩
theorem RepDs.ext (e : Ext H H') : ∀ {xs : List D} {vs : List V}, RepDs K H xs vs → RepDs K H' xs vs
  | [], _, h => by simpa [RepDs] using h
  | x :: xs, _, h => by
    simp only [RepDs] at h ⊢
    obtain ⟨v, r, h1, h2, h3⟩ := h
    exact ⟨v, r, h1, RepD.ext e h2, RepDs.ext e h3⟩
end
theorem RepDs.len : ∀ {xs : List D} {vs : List V}, RepDs K H xs vs → vs.length = xs.length
  | [], _, h => by
    simp only [RepDs] at h
    rw [h] <;> rfl
  | x :: xs, _, h => by
    simp only [RepDs] at h
    obtain ⟨v, r, h1, h2, h3⟩ := h
    rw [h1, List.length_cons, RepDs.len h3, List.length_cons]
theorem RepDs.nil : RepDs K H [] [] := by simp [RepDs]
theorem RepDs.cons {x : D} {xs : List D} {v : V} {vs : List V} (h : RepD K H x v) (t : RepDs K H xs vs) : RepDs K H (x :: xs) (v :: vs) := by
  simp only [RepDs]
  exact ⟨v, vs, rfl, h, t⟩
theorem RepDs.append : ∀ {xs ys : List D} {vs ws : List V}, RepDs K H xs vs → RepDs K H ys ws → RepDs K H (xs ++ ys) (vs ++ ws)
  | [], _, _, _, h, q => by
    simp only [RepDs] at h
    rw [h]
    exact q
  | x :: xs, _, _, _, h, q => by
    simp only [RepDs] at h
    obtain ⟨v, r, rfl, h2, h3⟩ := h
    exact .cons h2 (RepDs.append h3 q)
theorem RepDs.get : ∀ {xs : List D} {vs : List V} {i : Nat} {x : D}, RepDs K H xs vs → xs[i]? = some x → ∃ v, vs[i]? = some v ∧ RepD K H x v
  | [], _, _, _, _, e => by simp at e
  | y :: xs, _, 0, x, h, e => by
    simp only [RepDs] at h
    obtain ⟨v, r, rfl, h2, h3⟩ := h
    simp at e
    subst e
    exact ⟨v, rfl, h2⟩
  | y :: xs, _, i + 1, x, h, e => by
    simp only [RepDs] at h
    obtain ⟨v, r, rfl, h2, h3⟩ := h
    obtain ⟨w, e1, e2⟩ := RepDs.get (i := i) (x := x) h3 (by simpa using e)
    exact ⟨w, by simpa using e1, e2⟩
theorem RepDs.take : ∀ {xs : List D} {vs : List V} (n : Nat), RepDs K H xs vs → RepDs K H (xs.take n) (vs.take n)
  | _, _, 0, _ => by simp [RepDs]
  | [], _, n + 1, h => by
    simp only [RepDs] at h
    simp [RepDs, h]
  | x :: xs, _, n + 1, h => by
    simp only [RepDs] at h
    obtain ⟨v, r, rfl, h2, h3⟩ := h
    simp only [List.take_succ_cons]
    exact .cons h2 (RepDs.take n h3)
theorem RepDs.drop : ∀ {xs : List D} {vs : List V} (n : Nat), RepDs K H xs vs → RepDs K H (xs.drop n) (vs.drop n)
  | _, _, 0, h => by simpa using h
  | [], _, n + 1, h => by
    simp only [RepDs] at h
    simp [RepDs, h]
  | x :: xs, _, n + 1, h => by
    simp only [RepDs] at h
    obtain ⟨v, r, rfl, h2, h3⟩ := h
    simp only [List.drop_succ_cons]
    exact RepDs.drop n h3
theorem RepDs.set {x : D} {v : V} (h : RepD K H x v) : ∀ {xs : List D} {vs : List V} (i : Nat), RepDs K H xs vs → RepDs K H (xs.set i x) (vs.set i v)
  | [], _, _, q => by
    simp only [RepDs] at q
    simp [RepDs, q]
  | y :: xs, _, 0, q => by
    simp only [RepDs] at q
    obtain ⟨w, r, rfl, h2, h3⟩ := q
    exact .cons h h3
  | y :: xs, _, i + 1, q => by
    simp only [RepDs] at q
    obtain ⟨w, r, rfl, h2, h3⟩ := q
    exact .cons h2 (RepDs.set h i h3)
theorem RepDs.dropLast {xs : List D} {vs : List V} (h : RepDs K H xs vs) : RepDs K H xs.dropLast vs.dropLast := by
  rw [List.dropLast_eq_take, List.dropLast_eq_take, h.len]
  exact h.take _
theorem RepDs.times {xs : List D} {vs : List V} (h : RepDs K H xs vs) : ∀ k : Nat, RepDs K H (Mn.rep k xs) (List.replicate k vs).flatten
  | 0 => by simp [Mn.rep, RepDs]
  | k + 1 => by
    unfold Mn.rep
    rw [List.replicate_succ, List.replicate_succ, List.flatten_cons, List.flatten_cons]
    exact h.append (RepDs.times h k)
end

/-- lists, each at an address of its own -/
def RepLs (K : PySem.W.Frag) (H : Hp) : List (List D) → List Addr → Prop
  | [], as => as = []
  | r :: rs, as => ∃ a t vs, as = a :: t ∧ H a = some (.lst vs) ∧ RepDs K H r vs ∧ RepLs K H rs t
section
variable {K : PySem.W.Frag} {H H' : Hp}
theorem RepLs.keep : ∀ {rows : List (List D)} {as : List Addr}, (∀ a ∈ as, H' a = H a) → Ext H H' → RepLs K H rows as → RepLs K H' rows as
  | [], _, _, _, h => h
  | r :: rs, _, k, e, h => by
    obtain ⟨a, t, vs, rfl, h1, h2, h3⟩ := h
    exact ⟨a, t, vs, rfl, (k a (by simp)).trans h1, h2.ext e, RepLs.keep (fun b hb => k b (by simp [hb])) e h3⟩
theorem RepLs.trk : ∀ {rows : List (List D)} {as : List Addr}, RepLs K H rows as → ∀ a ∈ as, H a ≠ none
  | [], _, h => fun a ha => by
    have h' : _ = [] := h
    rw [h'] at ha; cases ha
  | r :: rs, _, h => fun b hb => by
    obtain ⟨a, t, vs, rfl, h1, h2, h3⟩ := h
    rcases List.mem_cons.mp hb with rfl | hb
    · rw [h1]; exact fun z => nomatch z
    · exact RepLs.trk h3 b hb
theorem RepLs.len : ∀ {rows : List (List D)} {as : List Addr}, RepLs K H rows as → as.length = rows.length
  | [], _, h => by
    have h' : _ = [] := h
    rw [h'] <;> rfl
  | r :: rs, _, h => by
    obtain ⟨a, t, vs, rfl, h1, h2, h3⟩ := h
    rw [List.length_cons, RepLs.len h3, List.length_cons]
theorem RepLs.snoc : ∀ {rows : List (List D)} {as : List Addr} {r : List D} {a : Addr} {vs : List V}, RepLs K H rows as → H a = some (.lst vs) → RepDs K H r vs → RepLs K H (rows ++ [r]) (as ++ [a])
  | [], _, _, _, _, h, h1, h2 => by
    have h' : _ = [] := h
    rw [h']
    exact ⟨_, [], _, rfl, h1, h2, rfl⟩
  | r :: rs, _, _, _, _, h, h1, h2 => by
    obtain ⟨a, t, vs, rfl, g1, g2, g3⟩ := h
    exact ⟨a, t ++ [_], vs, rfl, g1, g2, RepLs.snoc g3 h1 h2⟩
theorem RepLs.snoc_inv : ∀ {rows : List (List D)} {as : List Addr} {r : List D}, RepLs K H (rows ++ [r]) as → ∃ t a vs, as = t ++ [a] ∧ RepLs K H rows t ∧ H a = some (.lst vs) ∧ RepDs K H r vs
  | [], _, _, h => by
    obtain ⟨a, t, vs, rfl, g1, g2, g3⟩ := h
    have h' : t = [] := g3
    rw [h']
    exact ⟨[], a, vs, rfl, rfl, g1, g2⟩
  | r :: rs, _, _, h => by
    obtain ⟨a, t, vs, rfl, g1, g2, g3⟩ := h
    obtain ⟨t', a', vs', rfl, q1, q2, q3⟩ := RepLs.snoc_inv (rows := rs) g3
    exact ⟨a :: t', a', vs', rfl, ⟨a, t', vs, rfl, g1, g2, q1⟩, q2, q3⟩
theorem last_split {α : Type} {l : List α} {x : α} (h : l.getLast? = some x) : l = l.dropLast ++ [x] := by
  have hne : l ≠ [] := by intro z; rw [z] at h; simp at h
  have := List.dropLast_concat_getLast hne
  rw [List.getLast?_eq_some_getLast hne] at h
  cases h
  exact this.symm
end
/-! ### names' values -/
def RepV (K : PySem.W.Frag) (H : Hp) : Va → V → List Addr → Prop
  | .d x, v, f => f = [] ∧ RepD K H x v
  | .ls xs, v, f => ∃ a vs, v = .ref a ∧ f = [a] ∧ H a = some (.lst vs) ∧ RepDs K H xs vs
  | .dc kvs, v, f => ∃ a kws, v = .ref a ∧ f = [a] ∧ H a = some (.dK kws) ∧ kws.map (·.1) = kvs.map (fun p => (Sum.inr (stx p.1) : Key)) ∧ RepDs K H (kvs.map (·.2)) (kws.map (·.2))
  | .dk cs s n, v, f => ∃ a c, v = .ref a ∧ f = [a, c] ∧ H a = some (.lst [.ref c, .int s, .int n]) ∧ H c = some (.lst (cs.map V.int))
  | .dl cs s, v, f => ∃ a c, v = .ref a ∧ f = [a, c] ∧ H a = some (.lst [.ref c, .int s]) ∧ H c = some (.lst (cs.map V.int))
  | .dd cs n s, v, f => ∃ a c, v = .ref a ∧ f = [a, c] ∧ H a = some (.dK [(Sum.inr "cells", .ref c), (Sum.inr "at", .int n), (Sum.inr "sum", .int s)]) ∧ H c = some (.lst (cs.map V.int))
  | .ll rows, v, f => ∃ a as, v = .ref a ∧ f = a :: as ∧ H a = some (.lst (as.map V.ref)) ∧ RepLs K H rows as
  | .scr ns, v, f => f = [] ∧ ∃ a, v = .ref a ∧ ((∃ o, H a = some (.frz o (.lst (ns.map V.int)))) ∨ SqL K (fun _ => none) a (ns.map V.int))
section
variable {K : PySem.W.Frag} {H H' : Hp}
theorem RepV.keep {w : Va} {v : V} {f : List Addr} (k : ∀ a ∈ f, H' a = H a) (e : Ext H H') (h : RepV K H w v f) : RepV K H' w v f := by
  cases w with
  | d x => exact ⟨h.1, h.2.ext e⟩
  | ls xs =>
    obtain ⟨a, vs, h1, h2, h3, h4⟩ := h
    exact ⟨a, vs, h1, h2, (k a (by simp [h2])).trans h3, h4.ext e⟩
  | dc kvs =>
    obtain ⟨a, kws, h1, h2, h3, h4, h5⟩ := h
    exact ⟨a, kws, h1, h2, (k a (by simp [h2])).trans h3, h4, h5.ext e⟩
  | dk cs s n =>
    obtain ⟨a, c, h1, h2, h3, h4⟩ := h
    exact ⟨a, c, h1, h2, (k a (by simp [h2])).trans h3, (k c (by simp [h2])).trans h4⟩
  | dl cs s =>
    obtain ⟨a, c, h1, h2, h3, h4⟩ := h
    exact ⟨a, c, h1, h2, (k a (by simp [h2])).trans h3, (k c (by simp [h2])).trans h4⟩
  | dd cs n s =>
    obtain ⟨a, c, h1, h2, h3, h4⟩ := h
    exact ⟨a, c, h1, h2, (k a (by simp [h2])).trans h3, (k c (by simp [h2])).trans h4⟩
  | ll rows =>
    obtain ⟨a, as, h1, h2, h3, h4⟩ := h
    exact ⟨a, as, h1, h2, (k a (by simp [h2])).trans h3, h4.keep (fun b hb => k b (by simp [h2, hb])) e⟩
  | scr ns =>
    obtain ⟨h0, a, h1, h2⟩ := h
    refine ⟨h0, a, h1, ?_⟩
    rcases h2 with ⟨o, h2⟩ | h2
    · exact .inl ⟨o, e.2 _ _ _ h2⟩
    · exact .inr h2
theorem RepV.trk {w : Va} {v : V} {f : List Addr} (h : RepV K H w v f) : ∀ a ∈ f, H a ≠ none := by
  cases w with
  | d x => intro a ha; rw [h.1] at ha; cases ha
  | ls xs =>
    obtain ⟨a, vs, h1, h2, h3, h4⟩ := h
    intro b hb
    rw [h2, List.mem_singleton] at hb
    subst hb
    rw [h3]
    exact fun z => nomatch z
  | dc kvs =>
    obtain ⟨a, kws, h1, h2, h3, h4, h5⟩ := h
    intro b hb
    rw [h2, List.mem_singleton] at hb
    subst hb
    rw [h3]
    exact fun z => nomatch z
  | dk cs s n =>
    obtain ⟨a, c, h1, h2, h3, h4⟩ := h
    intro b hb
    rw [h2] at hb
    simp only [List.mem_cons, List.not_mem_nil, or_false] at hb
    rcases hb with rfl | rfl
    · rw [h3]; exact fun z => nomatch z
    · rw [h4]; exact fun z => nomatch z
  | dl cs s =>
    obtain ⟨a, c, h1, h2, h3, h4⟩ := h
    intro b hb
    rw [h2] at hb
    simp only [List.mem_cons, List.not_mem_nil, or_false] at hb
    rcases hb with rfl | rfl
    · rw [h3]; exact fun z => nomatch z
    · rw [h4]; exact fun z => nomatch z
  | dd cs n s =>
    obtain ⟨a, c, h1, h2, h3, h4⟩ := h
    intro b hb
    rw [h2] at hb
    simp only [List.mem_cons, List.not_mem_nil, or_false] at hb
    rcases hb with rfl | rfl
    · rw [h3]; exact fun z => nomatch z
    · rw [h4]; exact fun z => nomatch z
  | ll rows =>
    obtain ⟨a, as, h1, h2, h3, h4⟩ := h
    intro b hb
    rw [h2] at hb
    rcases List.mem_cons.mp hb with rfl | hb
    · rw [h3]; exact fun z => nomatch z
    · exact h4.trk b hb
  | scr ns => intro a ha; rw [h.1] at ha; cases ha
/-- the names and what they hold; f: the addresses that are held by one name alone -/
def RelE (K : PySem.W.Frag) (H : Hp) : Env → L2.St → List Addr → Prop
  | [], σ, f => σ = [] ∧ f = []
  | none :: r, σ, f => ∃ x t, σ = x :: t ∧ RelE K H r t f
  | some w :: r, σ, f => ∃ v t g h, σ = some v :: t ∧ RepV K H w v g ∧ RelE K H r t h ∧ f.Perm (g ++ h)
theorem RelE.len : ∀ {env : Env} {σ : L2.St} {f : List Addr}, RelE K H env σ f → σ.length = env.length
  | [], _, _, h => by rw [h.1] <;> rfl
  | none :: r, _, _, h => by
    obtain ⟨x, t, e, q⟩ := h
    rw [e, List.length_cons, RelE.len q, List.length_cons]
  | some w :: r, _, _, h => by
    obtain ⟨v, t, g, h', e, _, q, _⟩ := h
    rw [e, List.length_cons, RelE.len q, List.length_cons]
theorem RelE.perm : ∀ {env : Env} {σ : L2.St} {f f' : List Addr}, RelE K H env σ f → f'.Perm f → RelE K H env σ f'
  | [], _, _, _, h, p => ⟨h.1, by
      rw [h.2] at p
      exact p.eq_nil⟩
  | none :: r, _, _, _, h, p => by
    obtain ⟨x, t, e, q⟩ := h
    exact ⟨x, t, e, RelE.perm q p⟩
  | some w :: r, _, _, _, h, p => by
    obtain ⟨v, t, g, h', e, a, q, z⟩ := h
    exact ⟨v, t, g, h', e, a, q, p.trans z⟩
theorem RelE.keep : ∀ {env : Env} {σ : L2.St} {f : List Addr}, (∀ a ∈ f, H' a = H a) → Ext H H' → RelE K H env σ f → RelE K H' env σ f
  | [], _, _, _, _, h => h
  | none :: r, _, _, k, e, h => by
    obtain ⟨x, t, e', q⟩ := h
    exact ⟨x, t, e', RelE.keep k e q⟩
  | some w :: r, _, _, k, e, h => by
    obtain ⟨v, t, g, h', e', a, q, z⟩ := h
    exact ⟨v, t, g, h', e', a.keep (fun b hb => k b (z.mem_iff.mpr (List.mem_append_left _ hb))) e, RelE.keep (fun b hb => k b (z.mem_iff.mpr (List.mem_append_right _ hb))) e q, z⟩
theorem RelE.trk : ∀ {env : Env} {σ : L2.St} {f : List Addr}, RelE K H env σ f → ∀ a ∈ f, H a ≠ none
  | [], _, _, h => fun a ha => by rw [h.2] at ha; cases ha
  | none :: r, _, _, h => by
    obtain ⟨x, t, e', q⟩ := h
    exact RelE.trk q
  | some w :: r, _, _, h => fun b hb => by
    obtain ⟨v, t, g, h', e', a, q, z⟩ := h
    rcases List.mem_append.mp (z.mem_iff.mp hb) with hb | hb
    · exact a.trk b hb
    · exact RelE.trk q b hb
/-- a slot taken out -/
theorem RelE.out : ∀ {env : Env} {σ : L2.St} {f : List Addr} {i : Nat} {w : Va}, RelE K H env σ f → getS env i = some w →
    ∃ v g h, σ[i]? = some (some v) ∧ RepV K H w v g ∧ RelE K H (env.set i none) σ h ∧ f.Perm (g ++ h)
  | [], _, _, i, w, h, e => by simp [getS] at e
  | none :: r, _, _, 0, w, h, e => by simp [getS] at e
  | none :: r, _, _, i + 1, w, h, e => by
    obtain ⟨x, t, rfl, q⟩ := h
    obtain ⟨v, g, h, h1, h2, h3, h4⟩ := RelE.out (i := i) (w := w) q (by simpa [getS] using e)
    exact ⟨v, g, h, by simpa using h1, h2, ⟨x, t, rfl, h3⟩, h4⟩
  | some u :: r, _, _, 0, w, h, e => by
    obtain ⟨v, t, g, h, rfl, a, q, z⟩ := h
    simp [getS] at e
    subst e
    exact ⟨v, g, h, rfl, a, ⟨some v, t, rfl, q⟩, z⟩
  | some u :: r, _, _, i + 1, w, h, e => by
    obtain ⟨v', t, g', h', rfl, a, q, z⟩ := h
    obtain ⟨v, g, h, h1, h2, h3, h4⟩ := RelE.out (i := i) (w := w) q (by simpa [getS] using e)
    refine ⟨v, g, g' ++ h, by simpa using h1, h2, ⟨v', t, g', h, rfl, a, h3, .refl _⟩, z.trans ?_⟩
    exact ((h4.append_left g').trans (by rw [← List.append_assoc, ← List.append_assoc]; exact List.perm_append_comm.append_right h))
/-- a slot forgotten, whatever it held -/
theorem RelE.wipe {env : Env} {σ : L2.St} {f : List Addr} (i : Nat) (h : RelE K H env σ f) : ∃ g h', RelE K H (env.set i none) σ h' ∧ f.Perm (g ++ h') := by
  cases e : getS env i with
  | some w =>
    obtain ⟨v, g, h', _, _, h3, h4⟩ := h.out e
    exact ⟨g, h', h3, h4⟩
  | none =>
    refine ⟨[], f, ?_, .refl _⟩
    have : env.set i none = env := by
      apply List.ext_getElem?
      intro j
      by_cases hj : i = j
      · subst hj
        by_cases hl : i < env.length
        · rw [List.getElem?_set_self hl]
          simp only [getS] at e
          rw [List.getElem?_eq_getElem hl] at e ⊢
          simpa using e.symm
        · rw [List.getElem?_eq_none (by simpa using hl), List.getElem?_eq_none (by simpa using hl)]
      · rw [List.getElem?_set_ne hj]
    rw [this]
    exact h
/-- a slot without a word may hold anything -/
theorem RelE.slot : ∀ {env : Env} {σ : L2.St} {f : List Addr} {i : Nat} (x : Option V), RelE K H (env.set i none) σ f → RelE K H (env.set i none) (σ.set i x) f
  | [], _, _, i, x, h => by
    obtain ⟨rfl, rfl⟩ := h
    exact ⟨by simp, rfl⟩
  | none :: r, _, _, 0, x, h => by
    obtain ⟨y, t, rfl, q⟩ := h
    exact ⟨x, t, rfl, q⟩
  | some u :: r, _, _, 0, x, h => by
    obtain ⟨y, t, rfl, q⟩ := h
    exact ⟨x, t, rfl, q⟩
  | none :: r, _, _, i + 1, x, h => by
    obtain ⟨y, t, rfl, q⟩ := h
    exact ⟨y, _, rfl, RelE.slot (i := i) x q⟩
  | some u :: r, _, _, i + 1, x, h => by
    obtain ⟨v, t, g, h', rfl, a, q, z⟩ := h
    exact ⟨v, _, g, h', rfl, a, RelE.slot (i := i) x q, z⟩
/-- a slot filled -/
theorem RelE.put : ∀ {env : Env} {σ : L2.St} {h : List Addr} {i : Nat} {w : Va} {v : V} {g : List Addr}, RelE K H (env.set i none) σ h → σ[i]? = some (some v) → RepV K H w v g → RelE K H (env.set i (some w)) σ (g ++ h)
  | [], _, _, i, w, v, g, h, e, a => by
    obtain ⟨rfl, rfl⟩ := h
    simp at e
  | none :: r, _, _, 0, w, v, g, h, e, a => by
    obtain ⟨y, t, rfl, q⟩ := h
    simp at e
    subst e
    exact ⟨v, t, g, _, rfl, a, q, .refl _⟩
  | some u :: r, _, _, 0, w, v, g, h, e, a => by
    obtain ⟨y, t, rfl, q⟩ := h
    simp at e
    subst e
    exact ⟨v, t, g, _, rfl, a, q, .refl _⟩
  | none :: r, _, _, i + 1, w, v, g, h, e, a => by
    obtain ⟨y, t, rfl, q⟩ := h
    exact ⟨y, t, rfl, RelE.put (i := i) q (by simpa using e) a⟩
  | some u :: r, _, _, i + 1, w, v, g, h, e, a => by
    obtain ⟨v', t, g', h', rfl, a', q, z⟩ := h
    refine ⟨v', t, g', _, rfl, a', RelE.put (i := i) q (by simpa using e) a, ?_⟩
    refine (z.append_left g).trans ?_
    rw [← List.append_assoc, ← List.append_assoc]
    exact List.perm_append_comm.append_right h'
theorem RelE.put' {env : Env} {σ : L2.St} {h : List Addr} {i : Nat} {w : Va} {v : V} {g : List Addr} (hi : i < env.length) (q : RelE K H (env.set i none) σ h) (a : RepV K H w v g) : RelE K H (env.set i (some w)) (σ.set i (some v)) (g ++ h) := by
  refine RelE.put (q.slot (some v)) ?_ a
  have := q.len
  rw [List.length_set] at this
  rw [List.getElem?_set_self (by omega)]
end

/-! ### steps -/
/-- from a heap with the own addresses f to one with the own addresses f' -/
def Stp (H : Hp) (f : List Addr) (H' : Hp) (f' : List Addr) : Prop := Ext H H' ∧ (∀ a o, H a = some o → a ∉ f → H' a = some o) ∧ ∀ a ∈ f', a ∈ f ∨ H a = none
theorem Stp.refl (H : Hp) (f : List Addr) : Stp H f H f := ⟨Ext.refl H, fun _ _ h _ => h, fun _ h => .inl h⟩
theorem Stp.trans {H H1 H2 : Hp} {f f1 f2 : List Addr} (a : Stp H f H1 f1) (b : Stp H1 f1 H2 f2) : Stp H f H2 f2 := by
  refine ⟨a.1.trans b.1, fun x o h n => ?_, fun x hx => ?_⟩
  · refine b.2.1 x o (a.2.1 x o h n) fun z => ?_
    rcases a.2.2 x z with q | q
    · exact n q
    · rw [q] at h; cases h
  · rcases b.2.2 x hx with q | q
    · exact a.2.2 x q
    · by_cases hf : x ∈ f
      · exact .inl hf
      · refine .inr ?_
        cases e : H x with
        | none => rfl
        | some o =>
          rw [a.2.1 x o e hf] at q
          cases q
theorem Stp.sub {H H' : Hp} {f f' f2 : List Addr} (a : Stp H f H' f') (h : ∀ x ∈ f2, x ∈ f') : Stp H f H' f2 := ⟨a.1, a.2.1, fun x hx => a.2.2 x (h x hx)⟩
/-- nothing of what stood is changed; fr is new -/
def New (H H' : Hp) (fr : List Addr) : Prop := (∀ a o, H a = some o → H' a = some o) ∧ (∀ a ∈ fr, H a = none) ∧ fr.Nodup
theorem New.refl (H : Hp) : New H H [] := ⟨fun _ _ h => h, (fun _ h => by cases h), List.nodup_nil⟩
theorem New.ext {H H' : Hp} {fr : List Addr} (n : New H H' fr) : Ext H H' := ⟨fun a xs h => n.1 a _ h, fun a o u h => n.1 a _ h⟩
theorem New.one {H : Hp} {p : Addr} {o : HO} (h : H p = none) : New H (upd H p o) [p] := ⟨fun a u q => by rw [upd_ne (ne_of_none q h)]; exact q, fun a ha => by rw [List.mem_singleton] at ha; rw [ha]; exact h, by simp⟩
theorem New.pure {H : Hp} {p : Addr} {o : HO} (h : H p = none) : New H (upd H p o) [] := ⟨fun a u q => by rw [upd_ne (ne_of_none q h)]; exact q, (fun a ha => by cases ha), List.nodup_nil⟩
theorem New.at_ {H H' : Hp} {fr : List Addr} (n : New H H' fr) {a : Addr} (h : H a ≠ none) : H' a = H a := by
  cases e : H a with
  | none => exact absurd e h
  | some o => exact n.1 a o e
theorem nodup_app {α : Type} {a b : List α} : (a ++ b).Nodup ↔ a.Nodup ∧ b.Nodup ∧ ∀ x ∈ a, x ∉ b := by
  rw [List.nodup_append]
  constructor
  · rintro ⟨h1, h2, h3⟩
    exact ⟨h1, h2, fun x hx hb => h3 x hx x hb rfl⟩
  · rintro ⟨h1, h2, h3⟩
    exact ⟨h1, h2, fun x hx y hy e => h3 x hx (e ▸ hy)⟩
/-- new things beside what is held -/
theorem New.stp {H H' : Hp} {fr f : List Addr} (n : New H H' fr) (hf : ∀ a ∈ f, H a ≠ none) (nd : f.Nodup) : (fr ++ f).Nodup ∧ Stp H f H' (fr ++ f) := by
  refine ⟨nodup_app.mpr ⟨n.2.2, nd, fun x hx hb => hf x hb (n.2.1 x hx)⟩, n.ext, fun a o h _ => n.1 a o h, fun a ha => ?_⟩
  rcases List.mem_append.mp ha with h | h
  · exact .inr (n.2.1 a h)
  · exact .inl h
/-- two steps, what the first one gave kept beside -/
theorem chain {H H1 H2 : Hp} {f f1 f2 g1 g2 : List Addr} (nd1 : (g1 ++ f1).Nodup) (s1 : Stp H f H1 (g1 ++ f1)) (t1 : ∀ a ∈ g1, H1 a ≠ none) (nd2 : (g2 ++ f2).Nodup) (s2 : Stp H1 f1 H2 (g2 ++ f2)) :
    (g1 ++ (g2 ++ f2)).Nodup ∧ Stp H f H2 (g1 ++ (g2 ++ f2)) ∧ (∀ a ∈ g1, H2 a = H1 a) ∧ Ext H1 H2 := by
  obtain ⟨n1, n2, n3⟩ := nodup_app.mp nd1
  have keep : ∀ a ∈ g1, H2 a = H1 a := fun a ha => by
    cases e : H1 a with
    | none => exact absurd e (t1 a ha)
    | some o => exact s2.2.1 a o e (n3 a ha)
  refine ⟨nodup_app.mpr ⟨n1, nd2, fun x hx hb => ?_⟩, ⟨s1.1.trans s2.1, fun a o h n => ?_, fun a ha => ?_⟩, keep, s2.1⟩
  · rcases s2.2.2 x hb with q | q
    · exact n3 x hx q
    · exact t1 x hx q
  · have h1 := s1.2.1 a o h n
    refine s2.2.1 a o h1 fun z => ?_
    rcases s1.2.2 a (List.mem_append_right _ z) with q | q
    · exact n q
    · rw [q] at h; cases h
  · rcases List.mem_append.mp ha with h | h
    · exact s1.2.2 a (List.mem_append_left _ h)
    · rcases s2.2.2 a h with q | q
      · exact s1.2.2 a (List.mem_append_right _ q)
      · by_cases hf : a ∈ f
        · exact .inl hf
        · refine .inr ?_
          cases e : H a with
          | none => rfl
          | some o =>
            rw [s1.2.1 a o e hf] at q
            cases q

/-! ### readings: run from the names as they are -/
def tG {α β : Type} (K : PySem.W.Frag) (R : Hp → L2.St → α → β → List Addr → Prop) (run : Env → Option (α × Env)) : L2.St → Hp → (β → Hp → Prop) → Prop :=
  fun σ H Q => ∃ env f a env', RelE K H env σ f ∧ f.Nodup ∧ run env = some (a, env') ∧ ∀ b H' f' g, RelE K H' env' σ f' → R H' σ a b g → (g ++ f').Nodup → Stp H f H' (g ++ f') → Q b H'
def RV_ (K : PySem.W.Frag) : Hp → L2.St → Va → V → List Addr → Prop := fun H _ w v g => RepV K H w v g
def RP_ (K : PySem.W.Frag) : Hp → L2.St → PV → V → List Addr → Prop := fun H σ p v g => match p with
  | .val w => RepV K H w v g
  | .slot i => g = [] ∧ σ[i]? = some (some v)
def RPs_ (K : PySem.W.Frag) : Hp → L2.St → List PV → List V → List Addr → Prop
  | _, _, [], vs, g => vs = [] ∧ g = []
  | H, σ, p :: ps, vs, g => ∃ v r g1 g2, vs = v :: r ∧ RP_ K H σ p v g1 ∧ RPs_ K H σ ps r g2 ∧ g = g1 ++ g2
def RD_ (K : PySem.W.Frag) : Hp → L2.St → D → V → List Addr → Prop := fun H _ x v g => g = [] ∧ RepD K H x v
def RDs_ (K : PySem.W.Frag) : Hp → L2.St → List D → List V → List Addr → Prop := fun H _ x v g => g = [] ∧ RepDs K H x v
def RB_ : Hp → L2.St → Bool → Bool → List Addr → Prop := fun _ _ x v g => g = [] ∧ v = x
def RO_ : Hp → L2.St → Option Int → Option Int → List Addr → Prop := fun _ _ x v g => g = [] ∧ v = x
section
variable {K : PySem.W.Frag} {H H' : Hp} {σ : L2.St}
theorem RP_.keep {p : PV} {v : V} {g : List Addr} (k : ∀ a ∈ g, H' a = H a) (e : Ext H H') (h : RP_ K H σ p v g) : RP_ K H' σ p v g := by
  cases p with
  | val w => exact RepV.keep (w := w) k e h
  | slot i => exact h
theorem RP_.trk {p : PV} {v : V} {g : List Addr} (h : RP_ K H σ p v g) : ∀ a ∈ g, H a ≠ none := by
  cases p with
  | val w => exact RepV.trk (w := w) h
  | slot i => intro a ha; rw [h.1] at ha; cases ha
theorem RPs_.keep : ∀ {ps : List PV} {vs : List V} {g : List Addr}, (∀ a ∈ g, H' a = H a) → Ext H H' → RPs_ K H σ ps vs g → RPs_ K H' σ ps vs g
  | [], _, _, _, _, h => h
  | p :: ps, _, _, k, e, h => by
    obtain ⟨v, r, g1, g2, h1, h2, h3, h4⟩ := h
    exact ⟨v, r, g1, g2, h1, h2.keep (fun a ha => k a (by rw [h4]; exact List.mem_append_left _ ha)) e, RPs_.keep (fun a ha => k a (by rw [h4]; exact List.mem_append_right _ ha)) e h3, h4⟩
theorem RPs_.trk : ∀ {ps : List PV} {vs : List V} {g : List Addr}, RPs_ K H σ ps vs g → ∀ a ∈ g, H a ≠ none
  | [], _, _, h => fun a ha => by rw [h.2] at ha; cases ha
  | p :: ps, _, _, h => fun a ha => by
    obtain ⟨v, r, g1, g2, h1, h2, h3, h4⟩ := h
    rw [h4] at ha
    rcases List.mem_append.mp ha with q | q
    · exact h2.trk a q
    · exact RPs_.trk h3 a q
/-- an operand, looked at when all are there -/
theorem RP_.res {p : PV} {v : V} {g f : List Addr} {env : Env} {w : Va} (h : RP_ K H σ p v g) (r : RelE K H env σ f) (e : resP p env = some w) : ∃ g', RepV K H w v g' := by
  cases p with
  | val u =>
    have : u = w := by simpa [resP] using e
    subst this
    exact ⟨g, h⟩
  | slot i =>
    obtain ⟨v', g', h', e1, h2, _, _⟩ := r.out (i := i) (w := w) e
    obtain ⟨_, e2⟩ := h
    rw [e1] at e2
    cases e2
    exact ⟨g', h2⟩
inductive RepVs (K : PySem.W.Frag) (H : Hp) : List Va → List V → Prop
  | nil : RepVs K H [] []
  | cons {w : Va} {ws : List Va} {v : V} {vs : List V} {g : List Addr} : RepV K H w v g → RepVs K H ws vs → RepVs K H (w :: ws) (v :: vs)
theorem RPs_.res : ∀ {ps : List PV} {vs : List V} {g f : List Addr} {env : Env} {ws : List Va}, RPs_ K H σ ps vs g → RelE K H env σ f → resPs ps env = some ws → RepVs K H ws vs
  | [], _, _, _, _, _, h, r, e => by
    simp only [resPs, Option.some.injEq] at e
    rw [h.1, ← e]
    exact .nil
  | p :: ps, _, _, _, env, ws, h, r, e => by
    obtain ⟨v, t, g1, g2, h1, h2, h3, h4⟩ := h
    simp only [resPs, Option.bind_eq_some_iff, Option.map_eq_some_iff] at e
    obtain ⟨w, e1, ws', e2, rfl⟩ := e
    obtain ⟨g', q⟩ := h2.res r e1
    rw [h1]
    exact .cons q (RPs_.res h3 r e2)
end
end Mn
/-! MnC0: a tuple once, or not at all. -/
namespace Mn
open PySem L2
open PyProof.Rows in
theorem tuple_mul1 (l : Addr) (items : Array Value) (n : Nat) (dd : Option Addr) (sl : Array (Option Value)) (u : Tok) :
    Meets (Builtin.«tuple.__mul__» ⟨[.ref l, .int 1 u], []⟩) (fun _ R s => s.heap.get? l = some { cls := .type "tuple", dict := dd, data := .seq items n, slots := sl } ∧ R (.ok (.ret (Value.ref l))) s) :=
  .of_wp fun prog w A R s h => by
    obtain ⟨hp, g, d, tk, os⟩ := s
    obtain ⟨hl, h⟩ := h
    have f1 := AutoSeq1.idx_int
    wp_walk using wpAny_loadPart' hl
    exact ⟨_, rfl, h⟩
open PyProof.Rows in
theorem tuple_mul0 (l : Addr) (items : Array Value) (n : Nat) (dd : Option Addr) (sl : Array (Option Value)) (u : Tok) (c1 : (items.isEmpty || (0 : Int) == 1) = false) :
    Meets (Builtin.«tuple.__mul__» ⟨[.ref l, .int 0 u], []⟩) (fun _ R s => s.heap.get? l = some { cls := .type "tuple", dict := dd, data := .seq items n, slots := sl } ∧
      R (.ok (.ret (Value.ref s.heap.objs.size))) { s with heap := s.heap.push { cls := Value.type "tuple", data := Data.seq #[] }, toks := s.toks }) :=
  .of_wp fun prog w A R s h => by
    obtain ⟨hp, g, d, tk, os⟩ := s
    obtain ⟨hl, h⟩ := h
    have f1 := AutoSeq1.idx_int
    wp_walk using wpAny_loadPart' hl
    repeat (first
      | (refine wpAny_ite_false (decide_eq_false (by rw [c1]; exact Bool.false_ne_true)) ?_; wp_walk using wpAny_loadPart' hl))
    exact ⟨_, rfl, h⟩
section
variable {X : Cx}
open PyProof.Rows in
theorem op_repT1 : OpR X (binaryOp .Mult) (fun x y H Q => ∃ l xs, x = .ref l ∧ y = .int 1 ∧ SqT X.K H l xs ∧ Q (.ref l) H) := by
  intro pins s σ H x y v u Q I rx ry h
  obtain ⟨l, xs, rfl, rfl, hT, q⟩ := h
  cases rx
  obtain ⟨t, rfl⟩ := ry
  obtain ⟨its, r, ⟨⟨cls, dd, data, sl⟩, ho, hc, n, hd⟩, hs⟩ := I.tuple hT
  simp only at hc hd
  subst hc hd
  refine wpAny_binaryOp_repeat_ref (T := "tuple") (U := "int") (by decide) ⟨_, ho, rfl⟩ (fun s' => typeIs_int s' 1 t) noFill_tuple_mul F.fills_int_mul F.slot_int_rmul repeat_tuple F.slot_int_index.lookup
    (call_meets F.slot_int_rmul (typeIs_int s 1 t) F.entry_int_rmul (F.args_int_rmul_2 _ _) (int_rmul_tuple 1 t l its.toArray n dd sl)
      ⟨ho, rfl, ⟨_, ho, rfl⟩, call_meets F.slot_tuple_mul ⟨_, ho, rfl⟩ F.entry_tuple_mul (F.args_tuple_mul_2 _ _) (tuple_mul1 l its.toArray n dd sl t) ⟨ho, ?_⟩⟩)
  exact ⟨.ref l, H, I, rfl, q⟩
open PyProof.Rows in
theorem op_repT0 : OpR X (binaryOp .Mult) (fun x y H Q => ∃ l xs, x = .ref l ∧ y = .int 0 ∧ SqT X.K H l xs ∧ xs ≠ [] ∧ ∀ p, H p = none → Q (.ref p) (upd H p (.tup []))) := by
  intro pins s σ H x y v u Q I rx ry h
  obtain ⟨l, xs, rfl, rfl, hT, hne, q⟩ := h
  cases rx
  obtain ⟨t, rfl⟩ := ry
  obtain ⟨its, r, ⟨⟨cls, dd, data, sl⟩, ho, hc, n, hd⟩, hs⟩ := I.tuple hT
  simp only at hc hd
  subst hc hd
  have hle : its.length = xs.length := r.length.symm
  have hi : its.toArray.isEmpty = false := by
    cases its with
    | nil => exact absurd (List.eq_nil_of_length_eq_zero hle.symm) hne
    | cons a b => rfl
  refine wpAny_binaryOp_repeat_ref (T := "tuple") (U := "int") (by decide) ⟨_, ho, rfl⟩ (fun s' => typeIs_int s' 0 t) noFill_tuple_mul F.fills_int_mul F.slot_int_rmul repeat_tuple F.slot_int_index.lookup
    (call_meets F.slot_int_rmul (typeIs_int s 0 t) F.entry_int_rmul (F.args_int_rmul_2 _ _) (int_rmul_tuple 0 t l its.toArray n dd sl)
      ⟨ho, rfl, ⟨_, ho, rfl⟩, call_meets F.slot_tuple_mul ⟨_, ho, rfl⟩ F.entry_tuple_mul (F.args_tuple_mul_2 _ _) (tuple_mul0 l its.toArray n dd sl t (by rw [hi]; rfl)) ⟨ho, ?_⟩⟩)
  exact ⟨.ref s.heap.objs.size, _, I.laid (t' := s.toks) (o := .tup []) (fun b ob q => Heap.get?_push_of_some _ q) (Nat.le_refl _) (show ObjOk X.prog X.w _ _ _ (.tup []) from ⟨Nat.zero_le _, [], .nil, IsTup.new _ _⟩), rfl, q _ (I.hok.fresh (Nat.le_refl _))⟩
end
end Mn
/-! MnB2: tuples that stand whole in the heap: how they are made; dict(a tuple of pairs). -/
namespace Mn
open PySem L2
section
open PySem.Spec PyProof.Rows
variable {X : Cx}
/-- a tuple's object, as it is laid -/
def tupO (us : List Value) : Obj := { cls := .type "tuple", data := .seq us.toArray }
theorem laidT {pins : List (Addr × Obj)} {σ : L2.St} {H : Hp} {s : Shared} {xs : List V} {us : List Value} {t' : Nat} (I : L2.Inv X pins σ H s) (r : Vals xs us) (hz : xs.length ≤ sizeLine) :
    L2.Inv X pins σ (upd H s.heap.objs.size (.frz (tupO us) (.tup xs))) { s with heap := s.heap.push (tupO us), toks := t' } :=
  I.laid (fun b u e => Heap.get?_push_of_some _ e) (Nat.le_refl _) ⟨Heap.get?_push_size _ rfl, hz, us, r, IsTup.new _ _⟩
/-- what is asked behind a tuple that is made -/
def QT (Q : VK) (H : Hp) (xs : List V) : Prop := ∀ p o, H p = none → o.dict = none → Q (.ref p) (upd H p (.frz o (.tup xs)))
theorem pex_tup {es : List Expr} {t : TA} {x1} {pos : Pos} (h : PA X es t) : PE X (.Tuple es x1 pos) (fun σ H Q => t σ H fun xs H1 => xs.length ≤ sizeLine ∧ QT Q H1 xs) := by
  refine ⟨fun pins s σ H Q I hq => ?_⟩
  refine wpAny_Tuple_spliced (thn (h.run pos pins s σ H _ I hq) fun us s1 ⟨xs, H1, I1, r, z, q⟩ => ⟨by rw [← r.length]; exact z, ?_⟩)
  have hf : H1 s1.heap.objs.size = none := I1.hok.fresh (Nat.le_refl _)
  exact ⟨.ref s1.heap.objs.size, _, laidT (t' := s1.toks) I1 r z, rfl, q _ _ hf rfl⟩
theorem opx_cat : OpR X (binaryOp .Add) (fun x y H Q => ∃ a b xs ys, x = .ref a ∧ y = .ref b ∧ SqT X.K H a xs ∧ SqT X.K H b ys ∧ xs.length + ys.length ≤ sizeLine ∧
    (xs = [] → Q (.ref b) H) ∧ (xs ≠ [] → ys = [] → Q (.ref a) H) ∧ (xs ≠ [] → ys ≠ [] → QT Q H (xs ++ ys))) := by
  intro pins s σ H x y v u Q I rx ry h
  obtain ⟨a, b, xs, ys, rfl, rfl, ha, hb, hz, q0, q1, q2⟩ := h
  by_cases hx : xs = []
  · exact op_catA pins s σ H _ _ v u Q I rx ry ⟨a, b, xs, ys, rfl, rfl, ha, hb, hz, q0, q1, fun z => absurd hx z⟩
  · cases rx
    cases ry
    obtain ⟨its, r1, p1, _⟩ := I.tuple ha
    obtain ⟨its2, r2, p2, _⟩ := I.tuple hb
    refine HT.cat_tup p1 p2 (fun z => hx (r1.nil_iff.mp z)) (fun z => ⟨.ref a, H, I, rfl, q1 hx (r2.nil_iff.mp z)⟩) (fun z => ?_) (by rw [← r1.length, ← r2.length]; exact hz)
    exact ⟨.ref s.heap.objs.size, _, laidT (t' := s.toks) I (r1.append r2) (by rw [List.length_append]; exact hz), rfl, q2 hx (fun w => z (r2.nil_iff.mpr w)) _ _ (I.hok.fresh (Nat.le_refl _)) rfl⟩
theorem slx_tup : SlR X (fun x lo hi H Q => ∃ a xs, x = .ref a ∧ SqT X.K H a xs ∧ (HT.sIx xs.length 0 lo = 0 ∧ HT.sIx xs.length xs.length hi = xs.length → Q (.ref a) H) ∧
    (¬ (HT.sIx xs.length 0 lo = 0 ∧ HT.sIx xs.length xs.length hi = xs.length) → QT Q H (cutV xs lo hi))) := by
  intro pins s σ H x v vl vu lo hi sl Q I rx hs pl pu h
  obtain ⟨a, xs, rfl, hx, q1, q2⟩ := h
  by_cases hw : HT.sIx xs.length 0 lo = 0 ∧ HT.sIx xs.length xs.length hi = xs.length
  · exact sl_tupA pins s σ H _ v vl vu lo hi sl Q I rx hs pl pu ⟨a, xs, rfl, hx, q1, fun z => absurd hw z⟩
  · cases rx
    obtain ⟨its, r, ht, hz⟩ := I.tuple hx
    have hlen : its.toArray.size = xs.length := by rw [List.size_toArray]; exact r.length.symm
    refine ⟨"tuple", _, PyProof.Rows.slot_tuple_getitem.lookup, ht.typeIs, ?_⟩
    refine HT.getItem_tuple_cut ht hs pl pu (by rw [hlen]; exact hw) ?_ (by rw [hlen]; exact hz)
    rw [hlen]
    exact ⟨.ref s.heap.objs.size, _, laidT (t' := s.toks) I ((r.drop (HT.sIx xs.length 0 lo)).take (HT.sIx xs.length xs.length hi - HT.sIx xs.length 0 lo)) (Nat.le_trans (cutV_length xs lo hi) hz), rfl, q2 hw _ _ (I.hok.fresh (Nat.le_refl _)) rfl⟩
theorem callx_tuple : CallR X (.type "tuple") (fun xs H Q => ∃ p ys, xs = [.ref p] ∧ ((SqL X.K H p ys ∧ QT Q H ys) ∨ (SqT X.K H p ys ∧ Q (.ref p) H))) := by
  intro pins s σ H xs us Q I r h
  obtain ⟨p, ys, rfl, h⟩ := h
  obtain ⟨u, rfl, rx⟩ := vals1 r
  cases rx
  rcases h with ⟨hq, q⟩ | ⟨hq, q⟩
  · obtain ⟨its, r', pl, hz⟩ := I.list hq
    have hlen := r'.length
    refine call_tuple_list pl.isList (fun h' kp => ?_) (by simp only [List.size_toArray] <;> omega)
    have I1 : L2.Inv X pins σ H { s with heap := h' } := I.kept (t' := s.toks) kp
    exact ⟨.ref h'.objs.size, _, laidT (t' := s.toks) I1 r' hz, rfl, q _ _ (I1.hok.fresh (Nat.le_refl _)) rfl⟩
  · obtain ⟨its, r', pl, hz⟩ := I.tuple hq
    exact call_tuple_same pl ⟨.ref p, H, I, rfl, q⟩
theorem opx_repT : OpR X (binaryOp .Mult) (fun x y H Q => ∃ l k xs, x = .ref l ∧ y = .int k ∧ SqT X.K H l xs ∧ xs ≠ [] ∧ 2 ≤ k ∧ k ≤ 1000 ∧ xs.length ≤ 1000 ∧ QT Q H (List.replicate k.toNat xs).flatten) := by
  intro pins s σ H x y v u Q I rx ry h
  obtain ⟨l, k, xs, rfl, rfl, hT, hne, h1, h2, hz, q⟩ := h
  cases rx
  obtain ⟨t, rfl⟩ := ry
  obtain ⟨its, r, ⟨⟨cls, dd, data, sl⟩, ho, hc, n, hd⟩, hs⟩ := I.tuple hT
  simp only at hc hd
  subst hc hd
  have hle : its.length = xs.length := r.length.symm
  have hn : its ≠ [] := fun e => hne (by
    rw [e] at hle
    exact List.eq_nil_of_length_eq_zero hle.symm)
  have hi : its.toArray.isEmpty = false := by
    cases its with
    | nil => exact absurd rfl hn
    | cons a b => rfl
  have hsz0 : its.toArray.size = xs.length := by rw [List.size_toArray, hle]
  have hm : ((its.toArray.size : Nat) : Int) * k ≤ 1000000 := by
    rw [hsz0]
    have a1 : ((xs.length : Nat) : Int) * k ≤ 1000 * k := Int.mul_le_mul_of_nonneg_right (by omega) (by omega)
    omega
  have flen : (List.replicate k.toNat its).flatten.length ≤ sizeLine := by
    rw [PyProof.Rows.lm_len_rep_flat, hle, sizeLine_eq]
    have a1 : k.toNat * xs.length ≤ 1000 * 1000 := Nat.mul_le_mul (by omega) hz
    omega
  have c0 : (decide (k < -(2 ^ 63)) || decide (k ≥ 2 ^ 63)) = false := by
    rw [decide_eq_false (by omega), decide_eq_false (by omega)] <;> rfl
  have c1 : (its.toArray.isEmpty || k == 1) = false := by
    rw [hi, Bool.false_or]
    exact beq_eq_false_iff_ne.mpr (by omega)
  have c2 : (decide (k ≤ 0) || its.toArray.isEmpty) = false := by
    rw [hi, Bool.or_false]
    exact decide_eq_false (by omega)
  have c4 : Builtin.Tuple.tupleTooMany (((its.toArray.size : Nat) : Int) * k) = false := by
    unfold Builtin.Tuple.tupleTooMany
    rw [sizeLine_eq]
    exact decide_eq_false (by omega)
  refine wpAny_binaryOp_repeat_ref (T := "tuple") (U := "int") (by decide) ⟨_, ho, rfl⟩ (fun s' => typeIs_int s' k t) noFill_tuple_mul F.fills_int_mul F.slot_int_rmul repeat_tuple F.slot_int_index.lookup
    (call_meets F.slot_int_rmul (typeIs_int s k t) F.entry_int_rmul (F.args_int_rmul_2 _ _) (int_rmul_tuple k t l its.toArray n dd sl)
      ⟨ho, rfl, ⟨_, ho, rfl⟩, call_meets F.slot_tuple_mul ⟨_, ho, rfl⟩ F.entry_tuple_mul (F.args_tuple_mul_2 _ _) (tuple_mulW l its.toArray n dd sl k t c0 c1 c2 (by omega) c4 (by rw [size_rep, List.size_toArray]; exact flen)) ⟨ho, ?_⟩⟩)
  rw [size_rep]
  refine ⟨.ref s.heap.objs.size, _, laidT (t' := s.toks) I (r.rep k.toNat) ?_, rfl, q _ _ (I.hok.fresh (Nat.le_refl _)) rfl⟩
  rw [PyProof.Rows.lm_len_rep_flat, sizeLine_eq]
  have a1 : k.toNat * xs.length ≤ 1000 * 1000 := Nat.mul_le_mul (by omega) hz
  omega
theorem opx_repT0 : OpR X (binaryOp .Mult) (fun x y H Q => ∃ l xs, x = .ref l ∧ y = .int 0 ∧ SqT X.K H l xs ∧ xs ≠ [] ∧ QT Q H []) := by
  intro pins s σ H x y v u Q I rx ry h
  obtain ⟨l, xs, rfl, rfl, hT, hne, q⟩ := h
  cases rx
  obtain ⟨t, rfl⟩ := ry
  obtain ⟨its, r, ⟨⟨cls, dd, data, sl⟩, ho, hc, n, hd⟩, hs⟩ := I.tuple hT
  simp only at hc hd
  subst hc hd
  have hle : its.length = xs.length := r.length.symm
  have hi : its.toArray.isEmpty = false := by
    cases its with
    | nil => exact absurd (List.eq_nil_of_length_eq_zero hle.symm) hne
    | cons a b => rfl
  refine wpAny_binaryOp_repeat_ref (T := "tuple") (U := "int") (by decide) ⟨_, ho, rfl⟩ (fun s' => typeIs_int s' 0 t) noFill_tuple_mul F.fills_int_mul F.slot_int_rmul repeat_tuple F.slot_int_index.lookup
    (call_meets F.slot_int_rmul (typeIs_int s 0 t) F.entry_int_rmul (F.args_int_rmul_2 _ _) (int_rmul_tuple 0 t l its.toArray n dd sl)
      ⟨ho, rfl, ⟨_, ho, rfl⟩, call_meets F.slot_tuple_mul ⟨_, ho, rfl⟩ F.entry_tuple_mul (F.args_tuple_mul_2 _ _) (tuple_mul0 l its.toArray n dd sl t (by rw [hi]; rfl)) ⟨ho, ?_⟩⟩)
  exact ⟨.ref s.heap.objs.size, _, laidT (t' := s.toks) I .nil (Nat.zero_le _), rfl, q _ _ (I.hok.fresh (Nat.le_refl _)) rfl⟩
/-! ### dict(a tuple of pairs) -/
theorem tupX_at {pins : List (Addr × Obj)} {σ : L2.St} {H : Hp} {s : Shared} {a : Addr} {xs : List V} (I : L2.Inv X pins σ H s) (h : TupX X.K H a xs) : ∃ its : List Value, Vals xs its ∧ PlainSeq "tuple" s.heap a its.toArray ∧ xs.length ≤ sizeLine := by
  rcases h with ⟨o, h, hdn⟩ | ⟨o, its, n, h1, h2, h3, h4, h5, h6⟩
  · obtain ⟨e, hz, its, r, o', e', hc, n, hd⟩ := I.hok a _ h
    rw [e] at e'
    cases e'
    exact ⟨its, r, ⟨o, n, e, hc, hdn, hd⟩, hz⟩
  · refine ⟨its.toList, h6, ⟨o, n, I.kIn a o h1, h2, h3, by simpa using h4⟩, ?_⟩
    have e := h6.length
    simp only [Array.length_toList] at e
    omega
theorem pairs_at {pins : List (Addr × Obj)} {σ : L2.St} {H : Hp} {s : Shared} (I : L2.Inv X pins σ H s) : ∀ {ps : List Addr} {kvs : List (Key × V)}, Paired (fun p kv => SqT X.K H p [kV kv.1, kv.2]) ps kvs →
    ∃ (prs : List (Key × Value)) (uvs : List (Value × Value)), KV kvs prs ∧ prs.length = ps.length ∧ uvs.length = ps.length ∧ ∀ (j : Nat) (p : Value × Value), uvs[j]? = some p → ∃ (b : Addr) (k : Key), ps[j]? = some b ∧ IsTup s.heap b #[p.1, p.2] ∧ prs[j]? = some (k, p.2) ∧ keyIs k p.1 = true
  | _, _, .nil => ⟨[], [], .nil, rfl, rfl, fun j q e => by simp at e⟩
  | _, _, .cons (a := p) (b := kv) h t => by
    obtain ⟨prs, uvs, r, hl, hl2, hp⟩ := pairs_at I t
    obtain ⟨its, rv, ht, _⟩ := I.tuple h
    obtain ⟨u, y, ei, ru, ry⟩ := vals2 rv
    subst ei
    refine ⟨(kv.1, y) :: prs, (u, y) :: uvs, .cons ⟨rfl, ry⟩ r, by rw [List.length_cons, List.length_cons, hl], by rw [List.length_cons, List.length_cons, hl2], fun j q e => ?_⟩
    cases j with
    | zero =>
      have e' : (u, y) = q := Option.some.inj e
      subst e'
      exact ⟨p, kv.1, rfl, ht, rfl, kV_is (P := X.prog) (w := X.w) ru⟩
    | succ j =>
      obtain ⟨b, k, e1, e2, e3, e4⟩ := hp j q (by simpa using e)
      exact ⟨b, k, by simpa using e1, e2, by simpa using e3, e4⟩
theorem call_dictT (hcalm : X.calm = true) : CallR X (.type "dict") (fun xs H Q => ∃ (a : Addr) (ps : List Addr) (kvs : List (Key × V)), xs = [.ref a] ∧ TupX X.K H a (ps.map V.ref) ∧ Paired (fun p kv => SqT X.K H p [kV kv.1, kv.2]) ps kvs ∧
    ∀ p, H p = none → Q (.ref p) (upd H p (.dK (mergeK [] kvs)))) := by
  intro pins s σ H xs us Q I r q
  obtain ⟨a, ps, kvs, ex, hq, hp, q⟩ := q
  subst ex
  obtain ⟨u, eu, rx⟩ := vals1 r
  subst eu
  cases rx
  obtain ⟨its, rv, pl, hz⟩ := tupX_at I hq
  have ei := refs_at rv
  subst ei
  rw [List.length_map] at hz
  obtain ⟨prs, uvs, rel, hl, hl2, hpr⟩ := pairs_at I hp
  have hit : PairItems s.heap (ps.map Value.ref).toArray (fun j => ps.getD j 0) uvs := by
    refine ⟨by simp [hl2], fun j k v hj => ?_⟩
    obtain ⟨b, k', e1, ⟨o, e2, e3, n, e4⟩, _, _⟩ := hpr j (k, v) hj
    refine ⟨by simp [e1, List.getD], .inl ⟨o, ?_, e3, n, e4⟩⟩
    simpa [List.getD, e1] using e2
  refine PySem.call_dict_pairs (knd := mixKind X.prog X.w) (kvs := prs) (PairArg.tuple a _ _ uvs) (I.ok.hd hcalm) ⟨pl, hit⟩ ⟨by rw [hl, hl2], fun i key v hr => ?_⟩ (by rw [hl2]; exact hz) fun h' tk hd' k => ?_
  · obtain ⟨b, k', e1, e2, e3, e4⟩ := hpr i (key, v) hr
    exact ⟨k', e3, e4⟩
  · have hm : (s.heap.objs.size == sysModules) = false := beq_eq_false_iff_ne.mpr (Nat.ne_of_gt I.big)
    have hlen : (mergeK [] kvs).length ≤ sizeLine := by
      refine Nat.le_trans (length_mergeK kvs []) ?_
      rw [List.length_nil, Nat.zero_add, rel.length, hl]
      exact hz
    exact ⟨.ref s.heap.objs.size, upd H s.heap.objs.size (.dK (mergeK [] kvs)), I.laid (t' := tk) (fun b o e => k b o (by simp) e) (Nat.le_refl _) (show ObjOk X.prog X.w _ _ _ (.dK (mergeK [] kvs)) from ⟨hlen, hm, merged [] prs, KV.merge rel .nil, hd'⟩), rfl, q _ (I.hok.fresh (Nat.le_refl _))⟩
end
end Mn
/-! MnC: the operations, each held to the machine's. -/
namespace Mn
open PySem L2

def rS1 (K : PySem.W.Frag) (f : Va → Option Va) : V → Hp → VK → Prop := fun x H Q => ∃ w g u, RepV K H w x g ∧ f w = some u ∧ ∀ v H' fr, RepV K H' u v fr → New H H' fr → Q v H'
def rS2 (K : PySem.W.Frag) (f : Va → Va → Option Va) : R2 := fun x y H Q => ∃ w1 w2 g1 g2 u, RepV K H w1 x g1 ∧ RepV K H w2 y g2 ∧ f w1 w2 = some u ∧ ∀ v H' fr, RepV K H' u v fr → New H H' fr → Q v H'
def rSN (K : PySem.W.Frag) (f : List Va → Option Va) : List V → Hp → VK → Prop := fun xs H Q => ∃ ws u, RepVs K H ws xs ∧ f ws = some u ∧ ∀ v H' fr, RepV K H' u v fr → New H H' fr → Q v H'
def rSM (K : PySem.W.Frag) (f : Va → List Va → Option Va) : V → List V → Hp → VK → Prop := fun x xs H Q => ∃ w ws g u, RepV K H w x g ∧ RepVs K H ws xs ∧ f w ws = some u ∧ ∀ v H' fr, RepV K H' u v fr → New H H' fr → Q v H'
section
variable {K : PySem.W.Frag} {H : Hp} {v : V} {g : List Addr}
theorem rep_int {i : Int} (h : RepV K H (.d (.int i)) v g) : v = .int i := by
  have := h.2
  simpa [RepD] using this
theorem rep_bl {b : Bool} (h : RepV K H (.d (.bl b)) v g) : v = .bl b := by
  have := h.2
  simpa [RepD] using this
theorem rep_str {s : List Nat} (h : RepV K H (.d (.str s)) v g) : v = .str (stx s) := by
  have := h.2
  simpa [RepD] using this
theorem rep_non (h : RepV K H (.d .non) v g) : v = .non := by
  have := h.2
  simpa [RepD] using this
theorem rep_tup {xs : List D} (h : RepV K H (.d (.tup xs)) v g) : ∃ a vs, v = .ref a ∧ TupX K H a vs ∧ RepDs K H xs vs := by
  have := h.2
  simpa [RepD] using this
theorem rep_lst {xs : List D} (h : RepV K H (.d (.lst xs)) v g) : ∃ a vs, v = .ref a ∧ FzL K H a vs ∧ RepDs K H xs vs := by
  have := h.2
  simpa [RepD] using this
theorem mk_int (i : Int) : RepV K H (.d (.int i)) (.int i) [] := ⟨rfl, by simp [RepD]⟩
theorem mk_bl (b : Bool) : RepV K H (.d (.bl b)) (.bl b) [] := ⟨rfl, by simp [RepD]⟩
theorem mk_str (s : List Nat) : RepV K H (.d (.str s)) (.str (stx s)) [] := ⟨rfl, by simp [RepD]⟩
theorem mk_non : RepV K H (.d .non) .non [] := ⟨rfl, by simp [RepD]⟩
theorem mkT {p : Addr} {o : Obj} {vs : List V} (hd : o.dict = none) : TupX K (upd H p (.frz o (.tup vs))) p vs := .inl ⟨o, upd_same, hd⟩
theorem mk_tup {xs : List D} {a : Addr} {vs : List V} (h : TupX K H a vs) (r : RepDs K H xs vs) : RepV K H (.d (.tup xs)) (.ref a) [] := ⟨rfl, by simp only [RepD]; exact ⟨a, vs, rfl, h, r⟩⟩
theorem mk_d {x : D} (h : RepD K H x v) : RepV K H (.d x) v [] := ⟨rfl, h⟩
/-- a list: held alone, or frozen -/
def LsA (K : PySem.W.Frag) (H : Hp) (a : Addr) (vs : List V) : Prop := H a = some (.lst vs) ∨ FzL K H a vs
theorem LsA.sq {a : Addr} {vs : List V} (h : LsA K H a vs) : SqL K H a vs := by
  rcases h with h | h
  · exact SqL.of h
  · exact h.sq
theorem rep_asL {w : Va} {xs : List D} (e : asL w = some xs) (h : RepV K H w v g) : ∃ a vs, v = .ref a ∧ (SqL K H a vs ∨ TupX K H a vs) ∧ RepDs K H xs vs := by
  unfold asL at e
  split at e <;> cases e
  · obtain ⟨a, vs, h1, h2, h3⟩ := rep_tup h
    exact ⟨a, vs, h1, .inr h2, h3⟩
  · obtain ⟨a, vs, h1, h2, h3⟩ := rep_lst h
    exact ⟨a, vs, h1, .inl h2.sq, h3⟩
  · obtain ⟨a, vs, h1, h2, h3, h4⟩ := h
    exact ⟨a, vs, h1, .inl (SqL.of h3), h4⟩
theorem RepVs.one {w : Va} {vs : List V} (h : RepVs K H [w] vs) : ∃ v g, vs = [v] ∧ RepV K H w v g := by
  cases h with
  | cons h t => cases t; exact ⟨_, _, rfl, h⟩
theorem RepVs.two {w u : Va} {vs : List V} (h : RepVs K H [w, u] vs) : ∃ v y g g', vs = [v, y] ∧ RepV K H w v g ∧ RepV K H u y g' := by
  cases h with
  | cons h t =>
    obtain ⟨y, g', rfl, q⟩ := t.one
    exact ⟨_, _, _, _, rfl, h, q⟩
theorem RepDs.ext_new {H' : Hp} {fr : List Addr} {xs : List D} {vs : List V} (n : New H H' fr) (h : RepDs K H xs vs) : RepDs K H' xs vs := h.ext n.ext
theorem strs_rep : ∀ {xs : List D} {ss : List (List Nat)} {vs : List V}, strsOf xs = some ss → RepDs K H xs vs → vs = (ss.map stx).map V.str
  | [], ss, vs, e, h => by
    simp only [strsOf, Option.some.injEq] at e
    subst e
    simpa [RepDs] using h
  | .str s :: r, ss, vs, e, h => by
    simp only [strsOf, Option.map_eq_some_iff] at e
    obtain ⟨t, e1, rfl⟩ := e
    simp only [RepDs, RepD] at h
    obtain ⟨v, q, rfl, rfl, h3⟩ := h
    rw [strs_rep e1 h3] <;> rfl
  | .non :: _, _, _, e, _ => by simp [strsOf] at e
  | .bl _ :: _, _, _, e, _ => by simp [strsOf] at e
  | .int _ :: _, _, _, e, _ => by simp [strsOf] at e
  | .tup _ :: _, _, _, e, _ => by simp [strsOf] at e
  | .lst _ :: _, _, _, e, _ => by simp [strsOf] at e
  | .dct _ _ :: _, _, _, e, _ => by simp [strsOf] at e
theorem rep_strs : ∀ ss : List (List Nat), RepDs K H (ss.map D.str) ((ss.map stx).map V.str)
  | [] => by simp [RepDs]
  | s :: r => by
    simp only [List.map_cons]
    exact .cons (by simp [RepD]) (rep_strs r)
theorem rep_ints : ∀ ns : List Int, RepDs K H (ns.map D.int) (ns.map V.int)
  | [] => by simp [RepDs]
  | s :: r => by
    simp only [List.map_cons]
    exact .cons (by simp [RepD]) (rep_ints r)
theorem ints_rep : ∀ {xs : List D} {ss : List Int} {vs : List V}, intsOf xs = some ss → RepDs K H xs vs → vs = ss.map V.int
  | [], ss, vs, e, h => by
    simp only [intsOf, Option.some.injEq] at e
    subst e
    simpa [RepDs] using h
  | .int s :: r, ss, vs, e, h => by
    simp only [intsOf, Option.map_eq_some_iff] at e
    obtain ⟨t, e1, rfl⟩ := e
    simp only [RepDs, RepD] at h
    obtain ⟨v, q, rfl, rfl, h3⟩ := h
    rw [ints_rep e1 h3] <;> rfl
  | .non :: _, _, _, e, _ => by simp [intsOf] at e
  | .bl _ :: _, _, _, e, _ => by simp [intsOf] at e
  | .str _ :: _, _, _, e, _ => by simp [intsOf] at e
  | .tup _ :: _, _, _, e, _ => by simp [intsOf] at e
  | .lst _ :: _, _, _, e, _ => by simp [intsOf] at e
  | .dct _ _ :: _, _, _, e, _ => by simp [intsOf] at e
theorem bls_rep : ∀ {xs : List D} {ss : List Bool} {vs : List V}, blsOf xs = some ss → RepDs K H xs vs → vs = ss.map V.bl
  | [], ss, vs, e, h => by
    simp only [blsOf, Option.some.injEq] at e
    subst e
    simpa [RepDs] using h
  | .bl s :: r, ss, vs, e, h => by
    simp only [blsOf, Option.map_eq_some_iff] at e
    obtain ⟨t, e1, rfl⟩ := e
    simp only [RepDs, RepD] at h
    obtain ⟨v, q, rfl, rfl, h3⟩ := h
    rw [bls_rep e1 h3] <;> rfl
  | .non :: _, _, _, e, _ => by simp [blsOf] at e
  | .int _ :: _, _, _, e, _ => by simp [blsOf] at e
  | .str _ :: _, _, _, e, _ => by simp [blsOf] at e
  | .tup _ :: _, _, _, e, _ => by simp [blsOf] at e
  | .lst _ :: _, _, _, e, _ => by simp [blsOf] at e
  | .dct _ _ :: _, _, _, e, _ => by simp [blsOf] at e
/-- plain data as the library's -/
theorem SqL_of_FzL {a : Addr} {vs : List V} (h : FzL K H a vs) : SqL K H a vs := h.sq
mutual
theorem RepD.dp : ∀ {x : D} {v : V}, RepD K H x v → okD x = true → Dp K H v x.py
  | .non, _, h, _ => by simp only [RepD] at h; subst h; exact .non
  | .bl b, _, h, _ => by simp only [RepD] at h; subst h; exact .bl b
  | .int i, _, h, _ => by simp only [RepD] at h; subst h; exact .int i
  | .str s, _, h, _ => by simp only [RepD] at h; subst h; exact .str _
  | .tup xs, _, h, o => by
    simp only [RepD] at h
    obtain ⟨a, vs, rfl, h2, h3⟩ := h
    refine .tup h2.sq (RepDs.dp h3 ?_)
    simp only [okD, SeqAt.shaped, D.py, PyData.canLay0, Bool.and_eq_true, decide_eq_true_eq] at o
    exact o.1
  | .lst xs, _, h, o => by
    simp only [RepD] at h
    obtain ⟨a, vs, rfl, h2, h3⟩ := h
    refine .lst h2.sq (RepDs.dp h3 ?_)
    simp only [okD, SeqAt.shaped, D.py, PyData.canLay0, Bool.and_eq_true, decide_eq_true_eq] at o
    exact o.1
  | .dct ks xs, _, h, o => by
    simp [okD, SeqAt.shaped, D.py, PyData.canLay0] at o
theorem RepDs.dp : ∀ {xs : List D} {vs : List V}, RepDs K H xs vs → PyData.canLayAll0 (D.pys xs) = true → DpAll K H vs (D.pys xs)
  | [], _, h, _ => by simp only [RepDs] at h; subst h; exact .nil
  | x :: xs, _, h, o => by
    simp only [RepDs] at h
    obtain ⟨v, r, rfl, h2, h3⟩ := h
    simp only [D.pys, PyData.canLayAll0, Bool.and_eq_true] at o
    exact .cons (RepD.dp0 h2 o.1) (RepDs.dp h3 o.2)
theorem RepD.dp0 : ∀ {x : D} {v : V}, RepD K H x v → PyData.canLay0 x.py = true → Dp K H v x.py
  | .non, _, h, _ => by simp only [RepD] at h; subst h; exact .non
  | .bl b, _, h, _ => by simp only [RepD] at h; subst h; exact .bl b
  | .int i, _, h, _ => by simp only [RepD] at h; subst h; exact .int i
  | .str s, _, h, _ => by simp only [RepD] at h; subst h; exact .str _
  | .tup xs, _, h, o => by
    simp only [RepD] at h
    obtain ⟨a, vs, rfl, h2, h3⟩ := h
    refine .tup h2.sq (RepDs.dp h3 ?_)
    simpa [D.py, PyData.canLay0] using o
  | .lst xs, _, h, o => by
    simp only [RepD] at h
    obtain ⟨a, vs, rfl, h2, h3⟩ := h
    refine .lst h2.sq (RepDs.dp h3 ?_)
    simpa [D.py, PyData.canLay0] using o
  | .dct ks xs, _, h, o => by
    simp [D.py, PyData.canLay0] at o
end
theorem rep_asD {w : Va} {x : D} (e : asD w = some x) (h : RepV K H w v g) (o : okD x = true) : Dp K H v x.py := by
  unfold asD at e
  split at e <;> cases e
  · exact h.2.dp o
  · obtain ⟨a, vs, rfl, h2, h3, h4⟩ := h
    simp only [D.py]
    refine .lst (SqL.of h3) (h4.dp ?_)
    simp only [okD, SeqAt.shaped, D.py, PyData.canLay0, Bool.and_eq_true, decide_eq_true_eq] at o
    exact o.1
end

section
variable {X : Cx}
/-! ### arithmetic -/
theorem lsX {pins : List (Addr × Obj)} {σ : L2.St} {H : Hp} {s : Shared} {a : Addr} {vs : List V} (I : Inv X pins σ H s) (h : LsA X.K H a vs) :
    ∃ (its : List Value) (n : Nat), Vals vs its ∧ s.heap.get? a = some { cls := .type "list", data := .seq its.toArray n } ∧ vs.length ≤ sizeLine := by
  rcases h with h | ⟨o, h⟩ | ⟨its, n, h1, h2, h3⟩
  · obtain ⟨z, its, n, r, e⟩ := I.hok a _ h
    exact ⟨its, n, r, e, z⟩
  · obtain ⟨_, z, its, n, r, e⟩ := I.hok a _ h
    exact ⟨its, n, r, e, z⟩
  · exact ⟨its, n, h3, I.kIn a _ h1, by rw [h3.length]; exact h2⟩
theorem op_catL : OpR X (binaryOp .Add) (fun x y H Q => ∃ a b xs zs, x = .ref a ∧ y = .ref b ∧ LsA X.K H a xs ∧ LsA X.K H b zs ∧ xs.length + zs.length ≤ sizeLine ∧ ∀ p, H p = none → Q (.ref p) (upd H p (.lst (xs ++ zs)))) := by
  intro pins s σ H x y v u Q I rx ry h
  obtain ⟨l, b, xs, zs, rfl, rfl, hH, hB, hz, q⟩ := h
  cases rx
  cases ry
  obtain ⟨its, n, r, e, _⟩ := lsX I hH
  obtain ⟨its2, n2, r2, e2, _⟩ := lsX I hB
  have l1 := r.length
  have l2 := r2.length
  refine PySem.P.add_list e e2 ?_ (by simp only [List.size_toArray]; omega)
  rw [show its.toArray ++ its2.toArray = (its ++ its2).toArray by simp]
  exact ⟨.ref _, _, I.lnew (t' := s.toks) (r.append r2) (by rw [List.length_append]; omega), rfl, q _ I.fresh⟩
theorem op_addS : OpR X (binaryOp .Add) (rS2 X.K addS) := by
  intro pins s σ H x y v u Q I rx ry h
  obtain ⟨w1, w2, g1, g2, w, h1, h2, hf, q⟩ := h
  have cat : ∀ {xs ys : List D} {a b : Addr} {vs ws : List V}, x = .ref a → y = .ref b → LsA X.K H a vs → LsA X.K H b ws → RepDs X.K H xs vs → RepDs X.K H ys ws → (if xs.length + ys.length ≤ szL then some (Va.ls (xs ++ ys)) else none) = some w →
      wpAny (model X.prog X.w) X.A (binaryOp .Add v u) (EP X pins σ Q) X.xe s := fun {xs ys a b vs ws} ex ey la lb r1 r2 hf => by
    split at hf
    · rename_i hz
      cases hf
      refine op_catL pins s σ H x y v u Q I rx ry ⟨a, b, vs, ws, ex, ey, la, lb, by rw [r1.len, r2.len]; exact hz, fun p hp => ?_⟩
      exact q _ _ [p] ⟨p, _, rfl, rfl, upd_same, (r1.append r2).ext (New.one hp).ext⟩ (New.one hp)
    · cases hf
  unfold addS at hf
  split at hf
  · cases hf
    exact op_add pins s σ H x y v u Q I rx ry ⟨_, _, rep_int h1, rep_int h2, q _ _ [] (mk_int _) (New.refl H)⟩
  · split at hf
    · rename_i a b hz
      cases hf
      refine op_add_str pins s σ H x y v u Q I rx ry ⟨_, _, rep_str h1, rep_str h2, by rw [stx_len, stx_len]; exact hz, ?_⟩
      have e : (stx a ++ stx b : Str) = stx (a ++ b) := by
        show Str.mk (a.toArray ++ b.toArray) = Str.mk (a ++ b).toArray
        simp
      rw [e]
      exact q _ _ [] (mk_str _) (New.refl H)
    · cases hf
  · split at hf
    · rename_i xs ys hz
      cases hf
      obtain ⟨a, vs, e1, t1, r1⟩ := rep_tup h1
      obtain ⟨b, ws, e2, t2, r2⟩ := rep_tup h2
      refine opx_cat pins s σ H x y v u Q I rx ry ⟨a, b, vs, ws, e1, e2, t1.sq, t2.sq, by rw [r1.len, r2.len]; exact hz, fun z => ?_, fun z1 z2 => ?_, fun z1 z2 p o hp hd => ?_⟩
      · subst z
        have : xs = [] := List.length_eq_zero_iff.mp (by rw [← r1.len] <;> rfl)
        subst this
        exact q _ _ [] (mk_tup t2 r2) (New.refl H)
      · subst z2
        have : ys = [] := List.length_eq_zero_iff.mp (by rw [← r2.len] <;> rfl)
        subst this
        rw [List.append_nil] at q
        exact q _ _ [] (mk_tup t1 r1) (New.refl H)
      · exact q _ _ [] (mk_tup (mkT hd) ((r1.append r2).ext (New.pure hp).ext)) (New.pure hp)
    · cases hf
  · obtain ⟨a, vs, e1, _, t1, r1⟩ := h1
    obtain ⟨b, ws, e2, _, t2, r2⟩ := h2
    exact cat e1 e2 (.inl t1) (.inl t2) r1 r2 hf
  · obtain ⟨a, vs, e1, t1, r1⟩ := rep_lst h1
    obtain ⟨b, ws, e2, _, t2, r2⟩ := h2
    exact cat e1 e2 (.inr t1) (.inl t2) r1 r2 hf
  · obtain ⟨a, vs, e1, _, t1, r1⟩ := h1
    obtain ⟨b, ws, e2, t2, r2⟩ := rep_lst h2
    exact cat e1 e2 (.inl t1) (.inr t2) r1 r2 hf
  · obtain ⟨a, vs, e1, t1, r1⟩ := rep_lst h1
    obtain ⟨b, ws, e2, t2, r2⟩ := rep_lst h2
    exact cat e1 e2 (.inr t1) (.inr t2) r1 r2 hf
  · cases hf
theorem op_subS : OpR X (binaryOp .Sub) (rS2 X.K subS) := by
  intro pins s σ H x y v u Q I rx ry h
  obtain ⟨w1, w2, g1, g2, w, h1, h2, hf, q⟩ := h
  unfold subS at hf
  split at hf <;> cases hf
  exact op_sub pins s σ H x y v u Q I rx ry ⟨_, _, rep_int h1, rep_int h2, q _ _ [] (mk_int _) (New.refl H)⟩
theorem op_mulS : OpR X (binaryOp .Mult) (rS2 X.K mulS) := by
  intro pins s σ H x y v u Q I rx ry h
  obtain ⟨w1, w2, g1, g2, w, h1, h2, hf, q⟩ := h
  unfold mulS at hf
  split at hf
  · split at hf
    · rename_i hc
      cases hf
      exact op_mul pins s σ H x y v u Q I rx ry ⟨_, _, rep_int h1, rep_int h2, hc, q _ _ [] (mk_int _) (New.refl H)⟩
    · cases hf
  · split at hf
    · rename_i xs k hc
      cases hf
      obtain ⟨a, vs, e1, _, t1, r1⟩ := h1
      refine op_rep pins s σ H x y v u Q I rx ry ⟨a, k, vs, e1, rep_int h2, t1, by omega, by omega, ?_, fun p hp => ?_⟩
      · rw [r1.len, sizeLine_eq]
        calc xs.length * k.toNat ≤ 1000 * 1000 := Nat.mul_le_mul hc.2.2 (by omega)
          _ ≤ 16777216 := by decide
      · exact q _ _ [p] ⟨p, _, rfl, rfl, upd_same, (r1.times _).ext (New.one hp).ext⟩ (New.one hp)
    · cases hf
  · rename_i xs k
    split at hf
    · rename_i hk
      cases hf
      subst hk
      obtain ⟨a, vs, e1, t1, r1⟩ := rep_tup h1
      exact op_repT1 pins s σ H x y v u Q I rx ry ⟨a, vs, e1, rep_int h2, t1.sq, by rw [← e1]; exact q _ _ [] (by rw [e1]; exact mk_tup t1 r1) (New.refl H)⟩
    split at hf
    · rename_i hk
      cases hf
      obtain ⟨rfl, hne⟩ := hk
      obtain ⟨a, vs, e1, t1, r1⟩ := rep_tup h1
      refine opx_repT0 pins s σ H x y v u Q I rx ry ⟨a, vs, e1, rep_int h2, t1.sq, fun z => hne ?_, fun p o hp hd => q _ _ [] (mk_tup (mkT hd) RepDs.nil) (New.pure hp)⟩
      subst z
      exact List.length_eq_zero_iff.mp (by rw [← r1.len] <;> rfl)
    split at hf
    · rename_i hc
      cases hf
      obtain ⟨a, vs, e1, t1, r1⟩ := rep_tup h1
      refine opx_repT pins s σ H x y v u Q I rx ry ⟨a, k, vs, e1, rep_int h2, t1.sq, fun z => hc.1 ?_, hc.2.1, hc.2.2.1, by rw [r1.len]; exact hc.2.2.2, fun p o hp hd => ?_⟩
      · subst z
        exact List.length_eq_zero_iff.mp (by rw [← r1.len] <;> rfl)
      · exact q _ _ [] (mk_tup (mkT hd) ((r1.times _).ext (New.pure hp).ext)) (New.pure hp)
    · cases hf
  · cases hf
theorem op_divS : OpR X (binaryOp .FloorDiv) (rS2 X.K divS) := by
  intro pins s σ H x y v u Q I rx ry h
  obtain ⟨w1, w2, g1, g2, w, h1, h2, hf, q⟩ := h
  unfold divS at hf
  split at hf
  · split at hf
    · rename_i hc
      cases hf
      exact op_fdiv pins s σ H x y v u Q I rx ry ⟨_, _, rep_int h1, rep_int h2, hc, q _ _ [] (mk_int _) (New.refl H)⟩
    · cases hf
  · cases hf
theorem op_modS : OpR X (binaryOp .Mod) (rS2 X.K modS) := by
  intro pins s σ H x y v u Q I rx ry h
  obtain ⟨w1, w2, g1, g2, w, h1, h2, hf, q⟩ := h
  unfold modS at hf
  split at hf
  · split at hf
    · rename_i hc
      cases hf
      exact op_mod pins s σ H x y v u Q I rx ry ⟨_, _, rep_int h1, rep_int h2, hc, q _ _ [] (mk_int _) (New.refl H)⟩
    · cases hf
  · cases hf
theorem op_powS : OpR X (binaryOp .Pow) (rS2 X.K powS) := by
  intro pins s σ H x y v u Q I rx ry h
  obtain ⟨w1, w2, g1, g2, w, h1, h2, hf, q⟩ := h
  unfold powS at hf
  split at hf
  · split at hf
    · rename_i hc
      cases hf
      exact op_pow pins s σ H x y v u Q I rx ry ⟨_, _, rep_int h1, rep_int h2, hc, q _ _ [] (mk_int _) (New.refl H)⟩
    · cases hf
  · cases hf
theorem op_bin (o : Operator) : OpR X (binaryOp o) (rS2 X.K (binS o)) := by
  cases o <;> first
    | exact op_addS | exact op_subS | exact op_mulS | exact op_divS | exact op_modS | exact op_powS
    | (intro pins s σ H x y v u Q I rx ry h
       obtain ⟨w1, w2, g1, g2, w, h1, h2, hf, q⟩ := h
       exact absurd (show (none : Option Va) = some w from hf) (fun z => nomatch z))
theorem un_negS : UnR X (unaryOp .USub) (rS1 X.K negS) := by
  intro pins s σ H x v Q I rx h
  obtain ⟨w, g, u, h1, hf, q⟩ := h
  unfold negS at hf
  split at hf <;> cases hf
  exact un_neg pins s σ H x v Q I rx ⟨_, rep_int h1, q _ _ [] (mk_int _) (New.refl H)⟩

/-! ### comparisons -/
theorem eqN_inv {x y w : Va} (h : eqN x y = some w) : ∃ b, ((∃ xs : List D, ((x = .ls xs) ∨ x = .d (.lst xs)) ∧ b = xs.isEmpty) ∨ ∃ rows : List (List D), x = .ll rows ∧ b = rows.isEmpty) ∧ y = .ls [] ∧ w = .d (.bl b) := by
  unfold eqN at h
  split at h <;> cases h
  · exact ⟨_, .inl ⟨_, .inl rfl, rfl⟩, rfl, rfl⟩
  · exact ⟨_, .inl ⟨_, .inr rfl, rfl⟩, rfl, rfl⟩
  · exact ⟨_, .inr ⟨_, rfl, rfl⟩, rfl, rfl⟩
theorem or_inv {α : Type} {a b : Option α} {c : α} (h : a.or b = some c) : a = some c ∨ b = some c := by
  cases a with
  | none => exact .inr (by simpa using h)
  | some x => exact .inl (by simpa using h)
theorem nil_rc {pins : List (Addr × Obj)} {σ : L2.St} {H : Hp} {s : Shared} (I : L2.Inv X pins σ H s) (hu : X.A.units < cLine) {x : Va} {b : Bool} {v1 v2 : V} {u1 u2 : Value} {g1 g2 : List Addr} (hx : (∃ xs : List D, ((x = .ls xs) ∨ x = .d (.lst xs)) ∧ b = xs.isEmpty) ∨ ∃ rows : List (List D), x = .ll rows ∧ b = rows.isEmpty) (h1 : RepV X.K H x v1 g1) (h2 : RepV X.K H (.ls []) v2 g2) (r1 : RelV v1 u1) (r2 : RelV v2 u2) :
    SeqAt.RcAt X.A s u1 u2 b ∧ SeqAt.RcNeAt X.A s u1 u2 (!b) := by
  obtain ⟨a, vs, rfl, sq, rd⟩ : ∃ a vs, v1 = .ref a ∧ SqL X.K H a vs ∧ b = vs.isEmpty := by
    rcases hx with ⟨xs, rfl | rfl, rfl⟩ | ⟨rows, rfl, rfl⟩
    · obtain ⟨a, vs, h1, h2, h3, h4⟩ := h1
      refine ⟨a, vs, h1, SqL.of h3, ?_⟩
      have := h4.len
      cases vs <;> cases xs <;> simp_all
    · obtain ⟨a, vs, h1, h2, h3⟩ := rep_lst h1
      refine ⟨a, vs, h1, h2.sq, ?_⟩
      have := h3.len
      cases vs <;> cases xs <;> simp_all
    · obtain ⟨a, as, h1, h2, h3, h4⟩ := h1
      refine ⟨a, _, h1, SqL.of h3, ?_⟩
      have := h4.len
      cases as <;> cases rows <;> simp_all
  obtain ⟨b', ws, rfl, _, h3, h4⟩ := h2
  have hw : ws = [] := by simpa [RepDs] using h4
  subst hw
  obtain rfl : u1 = Value.ref a := r1
  obtain rfl : u2 = Value.ref b' := r2
  obtain ⟨its, rv, p, _⟩ := I.list sq
  obtain ⟨its2, rv2, p2, _⟩ := I.list (SqL.of h3)
  have hl := rv.length
  have hl2 := rv2.length
  subst rd
  cases vs with
  | nil =>
    have e : its.toArray.size = its2.toArray.size := by simp only [List.size_toArray]; simp only [List.length_nil] at hl hl2; omega
    have e0 : its.toArray.size = 0 := by simp only [List.size_toArray]; simp only [List.length_nil] at hl; omega
    have q1 := SeqAt.RcAt.lists (e := fun _ => true) p.isList p2.isList e hu (fun j h1' _ => absurd h1' (by rw [e0]; exact Nat.not_lt_zero _))
    have q2 := SeqAt.RcNeAt.lists (e := fun _ => true) p.isList p2.isList e hu (fun j h1' _ => absurd h1' (by rw [e0]; exact Nat.not_lt_zero _))
    rw [e0] at q1 q2
    exact ⟨q1, q2⟩
  | cons y ys =>
    have e : (its.toArray.size != its2.toArray.size) = true := by
      simp only [List.size_toArray, bne_iff_ne, ne_eq]
      simp only [List.length_nil, List.length_cons] at hl hl2
      omega
    exact ⟨SeqAt.RcAt.lists_lengths p.isList p2.isList e hu, SeqAt.RcNeAt.lists_lengths p.isList p2.isList e hu⟩
theorem eqE_inv {x y w : Va} (h : eqE x y = some w) : ∃ xs, x = .d (.tup xs) ∧ y = .d (.tup []) ∧ w = .d (.bl xs.isEmpty) := by
  unfold eqE at h
  split at h <;> cases h
  exact ⟨_, rfl, rfl, rfl⟩
theorem tup0_rc {pins : List (Addr × Obj)} {σ : L2.St} {H : Hp} {s : Shared} (I : L2.Inv X pins σ H s) (hu : X.A.units < cLine) {xs : List D} {v1 v2 : V} {u1 u2 : Value} {g1 g2 : List Addr} (h1 : RepV X.K H (.d (.tup xs)) v1 g1) (h2 : RepV X.K H (.d (.tup [])) v2 g2) (r1 : RelV v1 u1) (r2 : RelV v2 u2) :
    SeqAt.RcAt X.A s u1 u2 xs.isEmpty ∧ SeqAt.RcNeAt X.A s u1 u2 (!xs.isEmpty) := by
  obtain ⟨a, vs, rfl, t1, rd⟩ := rep_tup h1
  obtain ⟨b, ws, rfl, t2, rd2⟩ := rep_tup h2
  have hw : ws = [] := by simpa [RepDs] using rd2
  subst hw
  obtain rfl : u1 = Value.ref a := r1
  obtain rfl : u2 = Value.ref b := r2
  obtain ⟨its, rv, p, _⟩ := tupX_at I t1
  obtain ⟨its2, rv2, p2, _⟩ := tupX_at I t2
  have hl := rv.length
  have hl2 := rv2.length
  have hlen := rd.len
  have e2 : its2.toArray.size = 0 := by simp only [List.size_toArray]; simp only [List.length_nil] at hl2; omega
  have q1 := SeqAt.RcAt.tuples (e := fun _ => true) (A := X.A) (let ⟨o, n, e, c, _, d⟩ := p; ⟨o, e, c, n, d⟩) (let ⟨o, n, e, c, _, d⟩ := p2; ⟨o, e, c, n, d⟩) hu (fun j _ h2' => absurd h2' (by rw [e2]; exact Nat.not_lt_zero _))
  have q2 := SeqAt.RcNeAt.tuples (e := fun _ => true) (A := X.A) (let ⟨o, n, e, c, _, d⟩ := p; ⟨o, e, c, n, d⟩) (let ⟨o, n, e, c, _, d⟩ := p2; ⟨o, e, c, n, d⟩) hu (fun j _ h2' => absurd h2' (by rw [e2]; exact Nat.not_lt_zero _))
  have e3 : ((List.range (min its.toArray.size its2.toArray.size)).all (fun _ => true) && its.toArray.size == its2.toArray.size) = xs.isEmpty := by
    rw [e2]
    cases xs with
    | nil =>
      have : its.toArray.size = 0 := by simp only [List.size_toArray]; simp only [List.length_nil] at hlen; omega
      simp [this]
    | cons y ys =>
      have : its.toArray.size ≠ 0 := by simp only [List.size_toArray]; simp only [List.length_cons] at hlen; omega
      simpa using this
  rw [e3] at q1 q2
  exact ⟨q1, q2⟩
theorem op_eqS (hu : X.A.units + 64 < cLine) : OpR X (compareOp .Eq) (rS2 X.K eqS) := by
  intro pins s σ H x y v u Q I rx ry h
  obtain ⟨w1, w2, g1, g2, w, h1, h2, hf, q⟩ := h
  rcases or_inv hf with hf | hf
  rotate_left
  · obtain ⟨xs, rfl, rfl, rfl⟩ := eqE_inv hf
    exact (tup0_rc I (by omega) h1 h2 rx ry).1 X.prog X.w _ _ ⟨.bl xs.isEmpty, H, I, rfl, q _ _ [] (mk_bl _) (New.refl H)⟩
  rcases or_inv hf with hf | hf
  · obtain ⟨xs, hx, rfl, rfl⟩ := eqN_inv hf
    exact (nil_rc I (by omega) hx h1 h2 rx ry).1 X.prog X.w _ _ ⟨.bl xs, H, I, rfl, q _ _ [] (mk_bl _) (New.refl H)⟩
  simp only [Option.bind_eq_some_iff] at hf
  obtain ⟨a, ea, b, eb, hf⟩ := hf
  split at hf
  · rename_i hc
    cases hf
    exact op_eqD hu pins s σ H x y v u Q I rx ry ⟨_, _, rep_asD ea h1 hc.1, rep_asD eb h2 hc.2, hc.1, hc.2, q _ _ [] (mk_bl _) (New.refl H)⟩
  · cases hf
theorem op_neS (hu : X.A.units + 64 < cLine) : OpR X (compareOp .NotEq) (rS2 X.K fun x y => notV (eqS x y)) := by
  intro pins s σ H x y v u Q I rx ry h
  obtain ⟨w1, w2, g1, g2, w, h1, h2, hf, q⟩ := h
  cases e : eqS w1 w2 with
  | none => simp [e, notV] at hf
  | some t =>
    simp only [e] at hf
    rcases or_inv e with e | e
    rotate_left
    · obtain ⟨xs, rfl, rfl, rfl⟩ := eqE_inv e
      simp only [notV, Option.some.injEq] at hf
      subst hf
      exact (tup0_rc I (by omega) h1 h2 rx ry).2 X.prog X.w _ _ ⟨.bl (!xs.isEmpty), H, I, rfl, q _ _ [] (mk_bl _) (New.refl H)⟩
    rcases or_inv e with e | e
    · obtain ⟨xs, hx, rfl, rfl⟩ := eqN_inv e
      simp only [notV, Option.some.injEq] at hf
      subst hf
      exact (nil_rc I (by omega) hx h1 h2 rx ry).2 X.prog X.w _ _ ⟨.bl (!xs), H, I, rfl, q _ _ [] (mk_bl _) (New.refl H)⟩
    simp only [Option.bind_eq_some_iff] at e
    obtain ⟨a, ea, b, eb, e⟩ := e
    split at e
    · rename_i hc
      cases e
      simp only [notV, Option.some.injEq] at hf
      subst hf
      exact op_neD hu pins s σ H x y v u Q I rx ry ⟨_, _, rep_asD ea h1 hc.1, rep_asD eb h2 hc.2, hc.1, hc.2, q _ _ [] (mk_bl _) (New.refl H)⟩
    · cases e
theorem op_ltS : OpR X (compareOp .Lt) (rS2 X.K ltS) := by
  intro pins s σ H x y v u Q I rx ry h
  obtain ⟨w1, w2, g1, g2, w, h1, h2, hf, q⟩ := h
  unfold ltS at hf
  split at hf <;> cases hf
  · exact op_lt pins s σ H x y v u Q I rx ry ⟨_, _, rep_int h1, rep_int h2, q _ _ [] (mk_bl _) (New.refl H)⟩
  · exact op_lt_str pins s σ H x y v u Q I rx ry ⟨_, _, rep_str h1, rep_str h2, by rw [stx_tl, stx_tl]; exact q _ _ [] (mk_bl _) (New.refl H)⟩
theorem op_leS : OpR X (compareOp .LtE) (rS2 X.K leS) := by
  intro pins s σ H x y v u Q I rx ry h
  obtain ⟨w1, w2, g1, g2, w, h1, h2, hf, q⟩ := h
  unfold leS at hf
  split at hf <;> cases hf
  · exact op_le pins s σ H x y v u Q I rx ry ⟨_, _, rep_int h1, rep_int h2, q _ _ [] (mk_bl _) (New.refl H)⟩
  · exact op_le_str pins s σ H x y v u Q I rx ry ⟨_, _, rep_str h1, rep_str h2, by rw [stx_tl, stx_tl]; exact q _ _ [] (mk_bl _) (New.refl H)⟩
theorem op_gtS : OpR X (compareOp .Gt) (rS2 X.K gtS) := by
  intro pins s σ H x y v u Q I rx ry h
  obtain ⟨w1, w2, g1, g2, w, h1, h2, hf, q⟩ := h
  unfold gtS at hf
  split at hf <;> cases hf
  exact op_gt pins s σ H x y v u Q I rx ry ⟨_, _, rep_int h1, rep_int h2, q _ _ [] (mk_bl _) (New.refl H)⟩
theorem op_geS : OpR X (compareOp .GtE) (rS2 X.K geS) := by
  intro pins s σ H x y v u Q I rx ry h
  obtain ⟨w1, w2, g1, g2, w, h1, h2, hf, q⟩ := h
  unfold geS at hf
  split at hf <;> cases hf
  exact op_ge pins s σ H x y v u Q I rx ry ⟨_, _, rep_int h1, rep_int h2, q _ _ [] (mk_bl _) (New.refl H)⟩
theorem none_rep {K : PySem.W.Frag} {H : Hp} {x : D} {v : V} (h : RepD K H x v) : decide (v = .non) = isNone x := by
  cases x with
  | non => simp only [RepD] at h; subst h; rfl
  | bl b => simp only [RepD] at h; subst h; rfl
  | int i => simp only [RepD] at h; subst h; rfl
  | str s => simp only [RepD] at h; subst h; rfl
  | tup xs => simp only [RepD] at h; obtain ⟨a, vs, rfl, _⟩ := h; rfl
  | lst xs => simp only [RepD] at h; obtain ⟨a, vs, rfl, _⟩ := h; rfl
  | dct ks xs => simp only [RepD] at h; obtain ⟨a, o, kws, rfl, _⟩ := h; rfl
theorem isS_rep {K : PySem.W.Frag} {H : Hp} {w1 w2 w : Va} {x y : V} {g1 g2 : List Addr} (h1 : RepV K H w1 x g1) (h2 : RepV K H w2 y g2) (hf : isS w1 w2 = some w) : (∃ a b, x = .bl a ∧ y = .bl b ∧ w = .d (.bl (decide (a = b)))) ∨ (y = .non ∧ w = .d (.bl (decide (x = .non)))) := by
  unfold isS at hf
  split at hf
  · cases hf
    exact .inl ⟨_, _, rep_bl h1, rep_bl h2, rfl⟩
  · rename_i z _
    cases hf
    exact .inr ⟨rep_non h2, by rw [none_rep h1.2]⟩
  · cases hf
    obtain ⟨a, vs, rfl, _⟩ := h1
    exact .inr ⟨rep_non h2, rfl⟩
  · cases hf
    obtain ⟨a, vs, rfl, _⟩ := h1
    exact .inr ⟨rep_non h2, rfl⟩
  · cases hf
theorem op_isS : OpR X (compareOp .Is) (rS2 X.K isS) := by
  intro pins s σ H x y v u Q I rx ry h
  obtain ⟨w1, w2, g1, g2, w, h1, h2, hf, q⟩ := h
  rcases isS_rep h1 h2 hf with ⟨a, b, e1, e2, rfl⟩ | ⟨e1, rfl⟩
  · exact op_is_bl pins s σ H x y v u Q I rx ry ⟨a, b, e1, e2, q _ _ [] (mk_bl _) (New.refl H)⟩
  · exact op_isN pins s σ H x y v u Q I rx ry ⟨e1, q _ _ [] (mk_bl _) (New.refl H)⟩
theorem op_isnS : OpR X (compareOp .IsNot) (rS2 X.K fun x y => notV (isS x y)) := by
  intro pins s σ H x y v u Q I rx ry h
  obtain ⟨w1, w2, g1, g2, w, h1, h2, hf, q⟩ := h
  cases e : isS w1 w2 with
  | none => simp [e, notV] at hf
  | some t =>
    rcases isS_rep h1 h2 e with ⟨a, b, e1, e2, rfl⟩ | ⟨e1, rfl⟩
    · simp only [e, notV, Option.some.injEq] at hf
      subst hf
      exact op_isnot_bl pins s σ H x y v u Q I rx ry ⟨a, b, e1, e2, q _ _ [] (mk_bl _) (New.refl H)⟩
    · simp only [e, notV, Option.some.injEq] at hf
      subst hf
      exact op_notN pins s σ H x y v u Q I rx ry ⟨e1, q _ _ [] (mk_bl _) (New.refl H)⟩
end
end Mn
/-! MnC2: more operations, each held to the machine's. -/
namespace Mn
open PySem L2
section
variable {X : Cx}
/-! ### in -/
theorem dpT_iff {K : PySem.W.Frag} {H : Hp} {xs : List D} {vs : List V} (o : okD (.lst xs) = true) (r : RepDs K H xs vs) : DpAll K H vs (D.pys xs) := by
  refine r.dp ?_
  simp only [okD, SeqAt.shaped, D.py, PyData.canLay0, Bool.and_eq_true, decide_eq_true_eq] at o
  exact o.1
theorem any_py (x : D) : ∀ xs : List D, (D.pys xs).any (fun z => PyData.eqv z x.py) = anyEq x xs
  | [] => rfl
  | y :: r => by
    have ih := any_py x r
    simp only [D.pys, List.any_cons, ih, anyEq, eqD]
theorem keyOf_val {K : PySem.W.Frag} {H : Hp} : ∀ {kvs : List (List Nat × D)} {kws : List (Key × V)} {k : List Nat}, kws.map (·.1) = kvs.map (fun p => (Sum.inr (stx p.1) : Key)) → RepDs K H (kvs.map (·.2)) (kws.map (·.2)) →
    (∀ x, keyOf kvs k = some x → ∃ v, valV kws (Sum.inr (stx k)) = some v ∧ RepD K H x v) ∧ (keyOf kvs k = none → valV kws (Sum.inr (stx k)) = none)
  | [], kws, k, e, r => by
    have : kws = [] := by simpa using e
    subst this
    exact ⟨fun x h => by simp [keyOf] at h, fun _ => rfl⟩
  | (j, x) :: kvs, [], k, e, r => by simp at e
  | (j, x) :: kvs, (j', v) :: kws, k, e, r => by
    simp only [List.map_cons, List.cons.injEq] at e
    simp only [List.map_cons, RepDs] at r
    obtain ⟨e1, e2⟩ := e
    obtain ⟨v', t, r1, r2, r3⟩ := r
    simp only [List.cons.injEq] at r1
    obtain ⟨rfl, rfl⟩ := r1
    subst e1
    obtain ⟨ih1, ih2⟩ := keyOf_val (k := k) e2 r3
    by_cases h : j = k
    · subst h
      refine ⟨fun y hy => ?_, fun hy => ?_⟩
      · simp only [keyOf, if_true, Option.some.injEq] at hy
        subst hy
        exact ⟨v, valV_pos rfl, r2⟩
      · simp [keyOf] at hy
    · have hne : ¬ (Sum.inr (stx j) : Key) = Sum.inr (stx k) := fun z => h (stx_inj (Sum.inr.inj z))
      refine ⟨fun y hy => ?_, fun hy => ?_⟩
      · simp only [keyOf, h, if_false] at hy
        obtain ⟨v', h1, h2⟩ := ih1 y hy
        exact ⟨v', by rw [valV_neg (p := (Sum.inr (stx j), v)) hne]; exact h1, h2⟩
      · simp only [keyOf, h, if_false] at hy
        rw [valV_neg (p := (Sum.inr (stx j), v)) hne]
        exact ih2 hy
theorem dc_get {K : PySem.W.Frag} {H : Hp} {kvs : List (List Nat × D)} {v : V} {g : List Addr} (h : RepV K H (.dc kvs) v g) (k : List Nat) : ∃ a o, v = .ref a ∧ DGet H a (.str (stx k)) o ∧ (∀ x, keyOf kvs k = some x → ∃ y, o = some y ∧ RepD K H x y) ∧ (keyOf kvs k = none → o = none) := by
  obtain ⟨a, kws, h1, h2, h3, h4, h5⟩ := h
  obtain ⟨q1, q2⟩ := keyOf_val (k := k) h4 h5
  exact ⟨a, _, h1, DGet.k (k := Sum.inr (stx k)) h3, q1, q2⟩
theorem dc_isSome {K : PySem.W.Frag} {H : Hp} {kvs : List (List Nat × D)} {k : List Nat} {o : Option V} (h1 : ∀ x, keyOf kvs k = some x → ∃ y, o = some y ∧ RepD K H x y) (h2 : keyOf kvs k = none → o = none) : o.isSome = (keyOf kvs k).isSome := by
  cases e : keyOf kvs k with
  | none => rw [h2 e] <;> rfl
  | some x =>
    obtain ⟨y, rfl, _⟩ := h1 x e
    rfl
theorem op_inT (hu : X.A.units + 65 < cLine) : OpR X (compareOp .In) (fun x y H Q => ∃ d ds, Dp X.K H x d ∧ Dp X.K H y (.tuple ds) ∧ SeqAt.shaped d = true ∧ SeqAt.shaped (.tuple ds) = true ∧ Q (.bl (ds.any fun z => PyData.eqv z d)) H) := by
  intro pins s σ H x y v u Q I rx ry h
  obtain ⟨d, ds, hd, he, sd, se, q⟩ := h
  obtain ⟨as, r1⟩ := Dp.reads I d x v hd rx
  obtain ⟨bs, r2⟩ := Dp.reads I (.tuple ds) y u he ry
  exact SeqAt.in_tuple_reads r2 r1 (SeqAt.canLay_of_shaped se) (SeqAt.canLay_of_shaped sd) (by have h1 := SeqAt.depth_of_shaped sd; have h2 := Nat.min_le_right (PyData.depthAll ds) d.depth; omega) ⟨.bl _, H, I, rfl, q⟩
theorem op_notInT (hu : X.A.units + 65 < cLine) : OpR X (compareOp .NotIn) (fun x y H Q => ∃ d ds, Dp X.K H x d ∧ Dp X.K H y (.tuple ds) ∧ SeqAt.shaped d = true ∧ SeqAt.shaped (.tuple ds) = true ∧ Q (.bl (!ds.any fun z => PyData.eqv z d)) H) := by
  intro pins s σ H x y v u Q I rx ry h
  obtain ⟨d, ds, hd, he, sd, se, q⟩ := h
  obtain ⟨as, r1⟩ := Dp.reads I d x v hd rx
  obtain ⟨bs, r2⟩ := Dp.reads I (.tuple ds) y u he ry
  exact SeqAt.notIn_tuple_reads r2 r1 (SeqAt.canLay_of_shaped se) (SeqAt.canLay_of_shaped sd) (by have h1 := SeqAt.depth_of_shaped sd; have h2 := Nat.min_le_right (PyData.depthAll ds) d.depth; omega) ⟨.bl _, H, I, rfl, q⟩
theorem isIn_occ {a b : List Nat} {t : Bool} (h : isIn a b = some t) : (!(Builtin.Str.occurrences (stx b) (stx a) 0 (stx b).length 1).isEmpty) = t := by
  match a, h with
  | [], h =>
    simp only [isIn, Option.some.injEq] at h
    subst h
    refine (PySem.StrLaws.found_iff _ _).mpr ⟨0, ?_, ?_⟩
    · rw [stx_len, stx_len]
      simp
    · simp [Builtin.Str.subAt, stx, Str.length]
  | [c], h =>
    simp only [isIn, Option.some.injEq] at h
    subst h
    have := PySem.StrLaws.found_one (stx b) c
    rw [stx_tl] at this
    exact this
theorem op_inS (hu : X.A.units + 65 < cLine) : OpR X (compareOp .In) (rS2 X.K inS) := by
  intro pins s σ H x y v u Q I rx ry h
  obtain ⟨w1, w2, g1, g2, w, h1, h2, hf, q⟩ := h
  unfold inS at hf
  split at hf
  · simp only [Option.map_eq_some_iff] at hf
    obtain ⟨t, e, rfl⟩ := hf
    refine op_in_str pins s σ H x y v u Q I rx ry ⟨_, _, rep_str h1, rep_str h2, ?_⟩
    rw [isIn_occ e]
    exact q _ _ [] (mk_bl _) (New.refl H)
  · rename_i k kvs
    cases hf
    obtain ⟨a, o, e1, e2, e3, e4⟩ := dc_get h2 k
    subst e1
    obtain rfl : u = Value.ref a := ry
    have ex := rep_str h1
    subst ex
    refine d_in (by omega) I e2 rx fun s3 I3 => ⟨.bl o.isSome, H, I3, rfl, ?_⟩
    rw [dc_isSome e3 e4]
    exact q _ _ [] (mk_bl _) (New.refl H)
  · rename_i x0 xs
    unfold inL at hf
    split at hf
    · rename_i hc
      cases hf
      obtain ⟨a, vs, e1, t1, r1⟩ := rep_tup h2
      have o2 : SeqAt.shaped (.tuple (D.pys xs)) = true := by
        have := hc.2
        simpa [okD, SeqAt.shaped, D.py, PyData.canLay0, PyData.depth] using this
      refine op_inT hu pins s σ H x y v u Q I rx ry ⟨_, _, h1.2.dp hc.1, by rw [e1]; exact .tup t1.sq (dpT_iff hc.2 r1), hc.1, o2, ?_⟩
      rw [any_py]
      exact q _ _ [] (mk_bl _) (New.refl H)
    · cases hf
  · rename_i x0 xs
    unfold inL at hf
    split at hf
    · rename_i hc
      cases hf
      obtain ⟨a, vs, e1, t1, r1⟩ := rep_lst h2
      refine op_inD hu pins s σ H x y v u Q I rx ry ⟨_, _, h1.2.dp hc.1, by rw [e1]; exact .lst t1.sq (dpT_iff hc.2 r1), hc.1, hc.2, ?_⟩
      rw [any_py]
      exact q _ _ [] (mk_bl _) (New.refl H)
    · cases hf
  · rename_i x0 xs
    unfold inL at hf
    split at hf
    · rename_i hc
      cases hf
      obtain ⟨a, vs, e1, _, t1, r1⟩ := h2
      refine op_inD hu pins s σ H x y v u Q I rx ry ⟨_, _, h1.2.dp hc.1, by rw [e1]; exact .lst (SqL.of t1) (dpT_iff hc.2 r1), hc.1, hc.2, ?_⟩
      rw [any_py]
      exact q _ _ [] (mk_bl _) (New.refl H)
    · cases hf
  · cases hf
theorem op_ninS (hu : X.A.units + 65 < cLine) : OpR X (compareOp .NotIn) (rS2 X.K fun x y => notV (inS x y)) := by
  intro pins s σ H x y v u Q I rx ry h
  obtain ⟨w1, w2, g1, g2, w, h1, h2, hf, q⟩ := h
  cases e : inS w1 w2 with
  | none => simp [e, notV] at hf
  | some t0 =>
    simp only [e] at hf
    unfold inS at e
    split at e
    · simp only [Option.map_eq_some_iff] at e
      obtain ⟨t, e, rfl⟩ := e
      simp only [notV, Option.some.injEq] at hf
      subst hf
      refine op_notin_str pins s σ H x y v u Q I rx ry ⟨_, _, rep_str h1, rep_str h2, ?_⟩
      rw [isIn_occ e]
      exact q _ _ [] (mk_bl _) (New.refl H)
    · rename_i k kvs
      cases e
      simp only [notV, Option.some.injEq] at hf
      subst hf
      obtain ⟨a, o, e1, e2, e3, e4⟩ := dc_get h2 k
      subst e1
      obtain rfl : u = Value.ref a := ry
      have ex := rep_str h1
      subst ex
      refine d_notIn (by omega) I e2 rx fun s3 I3 => ⟨.bl (!o.isSome), H, I3, rfl, ?_⟩
      rw [dc_isSome e3 e4]
      exact q _ _ [] (mk_bl _) (New.refl H)
    · rename_i x0 xs
      unfold inL at e
      split at e
      · rename_i hc
        cases e
        simp only [notV, Option.some.injEq] at hf
        subst hf
        obtain ⟨a, vs, e1, t1, r1⟩ := rep_tup h2
        have o2 : SeqAt.shaped (.tuple (D.pys xs)) = true := by
          have := hc.2
          simpa [okD, SeqAt.shaped, D.py, PyData.canLay0, PyData.depth] using this
        refine op_notInT hu pins s σ H x y v u Q I rx ry ⟨_, _, h1.2.dp hc.1, by rw [e1]; exact .tup t1.sq (dpT_iff hc.2 r1), hc.1, o2, ?_⟩
        rw [any_py]
        exact q _ _ [] (mk_bl _) (New.refl H)
      · cases e
    · rename_i x0 xs
      unfold inL at e
      split at e
      · rename_i hc
        cases e
        simp only [notV, Option.some.injEq] at hf
        subst hf
        obtain ⟨a, vs, e1, t1, r1⟩ := rep_lst h2
        refine op_notInD hu pins s σ H x y v u Q I rx ry ⟨_, _, h1.2.dp hc.1, by rw [e1]; exact .lst t1.sq (dpT_iff hc.2 r1), hc.1, hc.2, ?_⟩
        rw [any_py]
        exact q _ _ [] (mk_bl _) (New.refl H)
      · cases e
    · rename_i x0 xs
      unfold inL at e
      split at e
      · rename_i hc
        cases e
        simp only [notV, Option.some.injEq] at hf
        subst hf
        obtain ⟨a, vs, e1, _, t1, r1⟩ := h2
        refine op_notInD hu pins s σ H x y v u Q I rx ry ⟨_, _, h1.2.dp hc.1, by rw [e1]; exact .lst (SqL.of t1) (dpT_iff hc.2 r1), hc.1, hc.2, ?_⟩
        rw [any_py]
        exact q _ _ [] (mk_bl _) (New.refl H)
      · cases e
    · cases e
theorem op_cmp (hu : X.A.units + 65 < cLine) (o : CmpOp) : OpR X (compareOp o) (rS2 X.K (cmpS o)) := by
  have hu2 : X.A.units + 64 < cLine := by omega
  cases o
  · exact op_eqS hu2
  · exact op_neS hu2
  · exact op_ltS
  · exact op_leS
  · exact op_gtS
  · exact op_geS
  · exact op_isS
  · exact op_isnS
  · exact op_inS hu
  · exact op_ninS hu
end
end Mn
/-! MnC1: dicts out of pairs. -/
namespace Mn
open PySem L2
theorem put_rep {K : PySem.W.Frag} {H : Hp} {kvs : List (List Nat × D)} {kws : List (Key × V)} {x : D} {v : V} (z : List Nat) (rk : kws.map (·.1) = kvs.map (fun p => (Sum.inr (stx p.1) : Key))) (r : RepDs K H (kvs.map (·.2)) (kws.map (·.2))) (rx : RepD K H x v) :
    (putK kws (Sum.inr (stx z)) v).map (·.1) = (putKey kvs z x).map (fun p => (Sum.inr (stx p.1) : Key)) ∧ RepDs K H ((putKey kvs z x).map (·.2)) ((putK kws (Sum.inr (stx z)) v).map (·.2)) := by
  have he : ∀ a : List Nat, decide ((Sum.inr (stx a) : Key) = Sum.inr (stx z)) = decide (a = z) := fun a => by
    by_cases h : a = z
    · subst h; simp
    · have : ¬ (Sum.inr (stx a) : Key) = Sum.inr (stx z) := fun q => h (stx_inj (Sum.inr.inj q))
      simp [h, this]
  have hany : (kws.any fun kv => decide (kv.1 = (Sum.inr (stx z) : Key))) = kvs.any fun p => decide (p.1 = z) := by
    have e1 : (kws.any fun kv => decide (kv.1 = (Sum.inr (stx z) : Key))) = (kws.map (·.1)).any fun q => decide (q = Sum.inr (stx z)) := by rw [List.any_map]; rfl
    rw [e1, rk, List.any_map]
    congr 1
    funext p
    exact he p.1
  unfold putK putKey
  rw [hany]
  by_cases hc : (kvs.any fun p => decide (p.1 = z)) = true
  · rw [if_pos hc, if_pos hc]
    clear hany hc
    induction kvs generalizing kws with
    | nil =>
      cases kws with
      | nil => exact ⟨rfl, RepDs.nil⟩
      | cons => simp at rk
    | cons p ps ih =>
      cases kws with
      | nil => simp at rk
      | cons q qs =>
        simp only [List.map_cons, List.cons.injEq] at rk
        simp only [List.map_cons, RepDs] at r
        obtain ⟨v1, t, e1, r1, r2⟩ := r
        simp only [List.cons.injEq] at e1
        obtain ⟨rfl, rfl⟩ := e1
        obtain ⟨i1, i2⟩ := ih rk.2 r2
        have hq : (q.1 = Sum.inr (stx z)) ↔ p.1 = z := by
          rw [rk.1]
          have := he p.1
          exact decide_eq_decide.mp this
        by_cases hz : p.1 = z
        · have hq' := hq.mpr hz
          simp only [List.map_cons, if_pos hz, if_pos hq']
          exact ⟨by rw [i1, rk.1], RepDs.cons rx i2⟩
        · have hq' : ¬ q.1 = Sum.inr (stx z) := fun y => hz (hq.mp y)
          simp only [List.map_cons, if_neg hz, if_neg hq']
          exact ⟨by rw [i1, rk.1], RepDs.cons r1 i2⟩
  · rw [if_neg hc, if_neg hc, List.map_append, List.map_append, List.map_append, List.map_append, rk]
    exact ⟨rfl, r.append (.cons rx .nil)⟩
theorem prs_rep {K : PySem.W.Frag} {H : Hp} : ∀ {xs : List D} {vs : List V} {kvs : List (List Nat × D)}, RepDs K H xs vs → prsOf xs = some kvs →
    ∃ (ps : List Addr) (kws : List (Key × V)), vs = ps.map V.ref ∧ Paired (fun p kv => SqT K H p [kV kv.1, kv.2]) ps kws ∧ kws.map (·.1) = kvs.map (fun p => (Sum.inr (stx p.1) : Key)) ∧ RepDs K H (kvs.map (·.2)) (kws.map (·.2))
  | [], vs, kvs, h, e => by
    simp only [RepDs] at h
    simp only [prsOf, Option.some.injEq] at e
    subst h e
    exact ⟨[], [], rfl, .nil, rfl, RepDs.nil⟩
  | .tup [.str k, x] :: r, vs, kvs, h, e => by
    simp only [RepDs] at h
    obtain ⟨v, r', rfl, h2, h3⟩ := h
    simp only [prsOf, Option.map_eq_some_iff] at e
    obtain ⟨q, e1, rfl⟩ := e
    obtain ⟨ps, kws, rfl, h4, h5, h6⟩ := prs_rep h3 e1
    simp only [RepD, RepDs] at h2
    obtain ⟨a, us, rfl, h7, u1, r1, rfl, rfl, u2, r2, rfl, h8, rfl⟩ := h2
    exact ⟨a :: ps, (Sum.inr (stx k), u2) :: kws, rfl, .cons h7.sq h4, by simp [h5], .cons h8 h6⟩
  | .non :: _, _, _, _, e => by simp [prsOf] at e
  | .bl _ :: _, _, _, _, e => by simp [prsOf] at e
  | .int _ :: _, _, _, _, e => by simp [prsOf] at e
  | .str _ :: _, _, _, _, e => by simp [prsOf] at e
  | .lst _ :: _, _, _, _, e => by simp [prsOf] at e
  | .dct _ _ :: _, _, _, _, e => by simp [prsOf] at e
  | .tup [] :: _, _, _, _, e => by simp [prsOf] at e
  | .tup [_] :: _, _, _, _, e => by simp [prsOf] at e
  | .tup (_ :: _ :: _ :: _) :: _, _, _, _, e => by simp [prsOf] at e
  | .tup [.non, _] :: _, _, _, _, e => by simp [prsOf] at e
  | .tup [.bl _, _] :: _, _, _, _, e => by simp [prsOf] at e
  | .tup [.int _, _] :: _, _, _, _, e => by simp [prsOf] at e
  | .tup [.tup _, _] :: _, _, _, _, e => by simp [prsOf] at e
  | .tup [.lst _, _] :: _, _, _, _, e => by simp [prsOf] at e
  | .tup [.dct _ _, _] :: _, _, _, _, e => by simp [prsOf] at e
theorem mergeK_rep {K : PySem.W.Frag} {H : Hp} : ∀ {more : List (List Nat × D)} {mws : List (Key × V)} {kvs : List (List Nat × D)} {kws : List (Key × V)}, mws.map (·.1) = more.map (fun p => (Sum.inr (stx p.1) : Key)) → RepDs K H (more.map (·.2)) (mws.map (·.2)) →
    kws.map (·.1) = kvs.map (fun p => (Sum.inr (stx p.1) : Key)) → RepDs K H (kvs.map (·.2)) (kws.map (·.2)) →
    (mergeK kws mws).map (·.1) = (intoKeys kvs more).map (fun p => (Sum.inr (stx p.1) : Key)) ∧ RepDs K H ((intoKeys kvs more).map (·.2)) ((mergeK kws mws).map (·.2))
  | [], [], kvs, kws, _, _, h1, h2 => ⟨h1, h2⟩
  | [], _ :: _, _, _, h, _, _, _ => by simp at h
  | _ :: _, [], _, _, h, _, _, _ => by simp at h
  | (k, x) :: more, (kk, v) :: mws, kvs, kws, h, hr, h1, h2 => by
    simp only [List.map_cons, List.cons.injEq] at h
    obtain ⟨rfl, h⟩ := h
    simp only [List.map_cons, RepDs, List.cons.injEq] at hr
    obtain ⟨v', r', ⟨rfl, rfl⟩, hr1, hr2⟩ := hr
    obtain ⟨p1, p2⟩ := put_rep k h1 h2 hr1
    have := mergeK_rep (more := more) (mws := mws) h hr2 p1 p2
    exact this
section
variable {X : Cx}
theorem cr_dict (hc : X.calm = true) : CallR X (.type "dict") (fun xs H Q => ∃ x w, RepVs X.K H [x] xs ∧ dictS x = some w ∧ ∀ v H' fr, RepV X.K H' w v fr → New H H' fr → Q v H') := by
  intro pins s σ H xs us Q I r h
  obtain ⟨x, w, hws, hf, q⟩ := h
  obtain ⟨v, g, rfl, h1⟩ := hws.one
  unfold dictS at hf
  split at hf
  · rename_i kvs
    cases hf
    obtain ⟨a, kws, e1, e2, e3, e4, e5⟩ := h1
    refine call_dictD pins s σ H _ us Q I r ⟨a, kws, by rw [e1], .inl e3, fun p hp => ?_⟩
    exact q _ _ [p] ⟨p, _, rfl, rfl, upd_same, e4, e5.ext (New.one hp).ext⟩ (New.one hp)
  · simp only [Option.bind_eq_some_iff, Option.map_eq_some_iff] at hf
    obtain ⟨ys, e, kvs, ek, rfl⟩ := hf
    obtain ⟨a, vs, e1, t1, r1⟩ := rep_asL e h1
    obtain ⟨ps, kws, rfl, h4, h5, h6⟩ := prs_rep r1 ek
    obtain ⟨m1, m2⟩ := mergeK_rep (kvs := []) (kws := []) h5 h6 rfl RepDs.nil
    have fin : ∀ p, H p = none → Q (.ref p) (upd H p (.dK (mergeK [] kws))) := fun p hp => q _ _ [p] ⟨p, _, rfl, rfl, upd_same, m1, m2.ext (New.one hp).ext⟩ (New.one hp)
    rcases t1 with t1 | t1
    · exact call_dictP hc pins s σ H _ us Q I r ⟨a, ps, kws, by rw [e1], t1, h4, fin⟩
    · exact call_dictT hc pins s σ H _ us Q I r ⟨a, ps, kws, by rw [e1], t1, h4, fin⟩
end
end Mn
/-! MnC6: d.update(e) of two dicts. -/
namespace Mn
open PySem L2
def rDupd : V → List V → Hp → VK → Prop := fun x xs H Q => ∃ (a b : Addr) (kvs more : List (Key × V)), x = .ref a ∧ xs = [.ref b] ∧ a ≠ b ∧ H a = some (.dK kvs) ∧ H b = some (.dK more) ∧ kvs.length + more.length ≤ sizeLine ∧ Q .non (upd H a (.dK (mergeK kvs more)))
theorem mt_dupdK {X : Cx} : MtM X "dict.update" rDupd := by
  intro pins s σ H x vs v us Q I rx rv h
  obtain ⟨a, b, kvs, more, rfl, rfl, hne, hA, hB, hz, q⟩ := h
  cases rx
  obtain ⟨u, rfl, ru⟩ := vals1 rv
  cases ru
  obtain ⟨z, hd, ws, rel, dd⟩ := dk_of I.hok hA
  obtain ⟨z2, hd2, ms, rel2, dd2⟩ := dk_of I.hok hB
  have hl1 := rel.length
  have hl2 := rel2.length
  refine call_meetsIn PySem.F.slot_dict_update dd.typeIs PySem.F.entry_dict_update (PySem.F.args_dict_update_2 _ _) (meets_dict_update (mixKind X.prog X.w) a b hne hd2) ⟨ws, ms, dd, dd2, by omega, fun h' dd' dd2' hs => ?_⟩
  have he : ∃ q, h'.get? a = some q := let ⟨q, _, _, hq, _⟩ := dd'; ⟨q, hq⟩
  have hl : (mergeK kvs more).length ≤ sizeLine := by
    have := length_mergeK more kvs
    omega
  exact ⟨.non, upd H a (.dK (mergeK kvs more)), d_write I (by rw [hA]; exact True.intro) hs he (dk_new hl hd (KV.merge rel2 rel) dd'), rfl, q⟩
end Mn
/-! MnC5: min of a dict whose keys are texts. -/
namespace Mn
open PySem L2
def minStr (k0 : Str) (ks : List Str) : Str := ks.foldl (fun a y => if decide (y.cps.toList < a.cps.toList) = true then y else a) k0
theorem call_minD {X : Cx} (hcalm : X.calm = true) : CallR X (.builtin "min") (fun xs H Q => ∃ (a : Addr) (kvs : List (Key × V)) (k0 : Str) (ks : List Str), xs = [.ref a] ∧ Rd H a (.dK kvs) ∧ kvs.map (·.1) = (k0 :: ks).map Sum.inr ∧ Q (.str (minStr k0 ks)) H) := by
  intro pins s σ H xs us Q I r q
  obtain ⟨a, kvs, k0, ks, ex, hd, hks, q⟩ := q
  subst ex
  obtain ⟨u, eu, rx⟩ := vals1 r
  subst eu
  cases rx
  obtain ⟨z, lo, vs, rel, dd⟩ := dk_rd I.hok hd
  obtain ⟨ep, hat⟩ := dd.dictAt
  have hkeys : vs.map (·.1) = (k0 :: ks).map Sum.inr := rel.keys.symm.trans hks
  have hl : vs.length = ks.length + 1 := by
    have e := congrArg List.length hkeys
    rw [List.length_map, List.length_map] at e
    exact e
  have hP : ∀ (i : Nat) (v : Value), (∃ (k : Key) (x : Value), vs[i]? = some (k, x) ∧ (mixKind X.prog X.w).is k v = true) → ∃ t, v = .str ((k0 :: ks).getD i "") t := fun i v h => by
    obtain ⟨k, x, e1, e2⟩ := h
    have e3 : (vs.map (·.1))[i]? = some k := by rw [List.getElem?_map, e1]; rfl
    rw [hkeys, List.getElem?_map] at e3
    cases e4 : (k0 :: ks)[i]? with
    | none => rw [e4] at e3; cases e3
    | some y =>
      rw [e4] at e3
      have e5 : Sum.inr y = k := Option.some.inj e3
      subst e5
      obtain ⟨t, ev⟩ := Value.isStrOf_shape (x := y) (v := v) e2
      refine ⟨t, ?_⟩
      rw [ev, List.getD_eq_getElem?_getD, e4]
      rfl
  refine PySem.call_min_walkH (wpAny_pyIter_dict (A := X.A.in1) lo hat ?_)
  refine ⟨_, _, _, _, _, _, _, s.heap, (fun i j => decide (((k0 :: ks).getD i "").cps.toList < ((k0 :: ks).getD j "").cps.toList)), rfl, (Walks.dictKeys (A := X.A.in1) (I.ok.hd hcalm) _ a (Nat.ne_of_lt hat.lt_size) vs ep).toS, ⟨⟨_, Heap.get?_push_size _ rfl, rfl, rfl⟩, hat.push _⟩, fun b hb => ?_, by omega, fun b o e hb => ?_, fun b o e => Heap.get?_push_of_some _ e, ?_, fun v s' hPv m => ?_⟩
  · show b < (s.heap.push _).objs.size
    rw [Heap.size_push]
    rcases List.mem_cons.mp hb with rfl | hb
    · exact Nat.lt_succ_self _
    · rcases List.mem_cons.mp hb with rfl | hb
      · exact Nat.lt_succ_of_lt hat.lt_size
      · cases hb
  · exact absurd (Heap.lt_size e) ((List.mem_singleton.mp hb) ▸ Nat.lt_irrefl _)
  · intro i j vi vj s1 Q1 E1 _ hi hj hq
    obtain ⟨t, rfl⟩ := hP i vi hi
    obtain ⟨t', rfl⟩ := hP j vj hj
    exact P.lt_str hq
  · obtain ⟨h', tk, rfl, hk'⟩ := PySem.W.moved_old rfl rfl m
    obtain ⟨t, rfl⟩ := hP _ v hPv
    have e1 : vs.length - 1 = ks.length := by omega
    have e2 := (PySem.W.argBest_fold (fun x y : Str => decide (x.cps.toList < y.cps.toList)) "" k0 ks ks.length (Nat.le_refl _)).2
    rw [List.take_length] at e2
    rw [e1, e2]
    exact ⟨.str (minStr k0 ks), H, I.kept hk', ⟨t, rfl⟩, q⟩
end Mn
/-! MnC3: items, slices, built-in calls, kinds, methods. -/
namespace Mn
open PySem L2
theorem min_stx : ∀ (ks : List (List Nat)) (k : List Nat), minStr (stx k) (ks.map stx) = stx (minT k ks)
  | [], k => rfl
  | y :: ks, k => by
    have e : (if decide ((stx y).cps.toList < (stx k).cps.toList) = true then stx y else stx k) = stx (if decide (y < k) = true then y else k) := by
      rw [stx_tl, stx_tl]
      split <;> rfl
    have ih := min_stx ks (if decide (y < k) = true then y else k)
    unfold minStr minT at ih ⊢
    rw [List.map_cons, List.foldl_cons, List.foldl_cons, e]
    exact ih
section
variable {X : Cx}
theorem atI_rep {K : PySem.W.Frag} {H : Hp} {xs : List D} {vs : List V} {i : Int} {x : D} (r : RepDs K H xs vs) (h : Mn.atI xs i = some x) : ∃ v, L2.atI vs i = some v ∧ RepD K H x v := by
  unfold Mn.atI at h
  simp only [Option.bind_eq_some_iff] at h
  obtain ⟨j, h1, h2⟩ := h
  obtain ⟨v, e1, e2⟩ := r.get h2
  refine ⟨v, ?_, e2⟩
  unfold L2.atI
  rw [r.len]
  show (Mn.ixN xs.length i).bind _ = _
  rw [h1]
  exact e1
theorem ix_itemS (hu : X.A.units + 1 < cLine) : IxR X (rS2 X.K itemS) := by
  intro value slice pins s σ H x y v u Q I rx ry h hs
  obtain ⟨w1, w2, g1, g2, w, h1, h2, hf, q⟩ := h
  unfold itemS at hf
  split at hf
  · rename_i z i
    split at hf
    · rename_i hz
      simp only [Option.map_eq_some_iff] at hf
      obtain ⟨c, e, rfl⟩ := hf
      refine ix_str value slice pins s σ H x y v u Q I rx ry ⟨_, i, c, rep_str h1, rep_int h2, by rw [stx_len]; exact hz, ?_, ?_⟩ hs
      · rw [stx_tl]
        exact e
      · exact q _ _ [] (mk_str _) (New.refl H)
    · cases hf
  · rename_i xs i
    simp only [Option.map_eq_some_iff] at hf
    obtain ⟨c, e, rfl⟩ := hf
    obtain ⟨a, vs, e1, t1, r1⟩ := rep_tup h1
    obtain ⟨y', f1, f2⟩ := atI_rep r1 e
    exact ix_tup value slice pins s σ H x y v u Q I rx ry ⟨a, vs, i, y', e1, rep_int h2, t1.sq, f1, q _ _ [] (mk_d f2) (New.refl H)⟩ hs
  · rename_i xs i
    simp only [Option.map_eq_some_iff] at hf
    obtain ⟨c, e, rfl⟩ := hf
    obtain ⟨a, vs, e1, t1, r1⟩ := rep_lst h1
    obtain ⟨y', f1, f2⟩ := atI_rep r1 e
    exact ix_list value slice pins s σ H x y v u Q I rx ry ⟨a, vs, i, y', e1, rep_int h2, t1.sq, f1, q _ _ [] (mk_d f2) (New.refl H)⟩ hs
  · rename_i xs i
    simp only [Option.map_eq_some_iff] at hf
    obtain ⟨c, e, rfl⟩ := hf
    obtain ⟨a, vs, e1, _, t1, r1⟩ := h1
    obtain ⟨y', f1, f2⟩ := atI_rep r1 e
    exact ix_list value slice pins s σ H x y v u Q I rx ry ⟨a, vs, i, y', e1, rep_int h2, SqL.of t1, f1, q _ _ [] (mk_d f2) (New.refl H)⟩ hs
  · rename_i kvs k
    simp only [Option.map_eq_some_iff] at hf
    obtain ⟨c, e, rfl⟩ := hf
    obtain ⟨a, o, e1, e2, e3, e4⟩ := dc_get h1 k
    obtain ⟨y', rfl, f2⟩ := e3 c e
    subst e1
    obtain rfl : v = Value.ref a := rx
    have ex := rep_str h2
    subst ex
    exact PyProof.Rows.tail_any (dict_typeIs I e2) PySem.F.slot_dict_getitem.lookup (d_getItem hu I e2 ry fun w' s3 I3 rw' => ⟨y', H, I3, rw', q _ _ [] (mk_d f2) (New.refl H)⟩) hs
  · rename_i ks zs k
    simp only [Option.map_eq_some_iff] at hf
    obtain ⟨c, e, rfl⟩ := hf
    have h1' := h1.2
    simp only [RepD] at h1'
    obtain ⟨a, o, kws, e1, e2, e3, e4⟩ := h1'
    have hl : ks.length = zs.length := by
      have a1 := congrArg List.length e3
      have a2 := e4.len
      simp only [List.length_map] at a1 a2
      omega
    have hz1 : (ks.zip zs).map (fun p => (Sum.inr (stx p.1) : Key)) = ks.map (fun k => (Sum.inr (stx k) : Key)) := by
      have : (ks.zip zs).map (·.1) = ks := List.map_fst_zip (by omega)
      conv => rhs; rw [← this]
      rw [List.map_map]
      rfl
    have hz2 : (ks.zip zs).map (·.2) = zs := List.map_snd_zip (by omega)
    obtain ⟨q1, q2⟩ := keyOf_val (kvs := ks.zip zs) (k := k) (e3.trans hz1.symm) (by rw [hz2]; exact e4)
    obtain ⟨y', f1, f2⟩ := q1 c e
    have dg : DGet H a (.str (stx k)) (some y') := by
      rw [← f1]
      exact .inl ⟨kws, Sum.inr (stx k), .inr ⟨o, e2⟩, rfl, rfl⟩
    subst e1
    obtain rfl : v = Value.ref a := rx
    have ex := rep_str h2
    subst ex
    exact PyProof.Rows.tail_any (dict_typeIs I dg) PySem.F.slot_dict_getitem.lookup (d_getItem hu I dg ry fun w' s3 I3 rw' => ⟨y', H, I3, rw', q _ _ [] (mk_d f2) (New.refl H)⟩) hs
  · cases hf
theorem sIx_eq (n d : Nat) (o : Option Int) : Mn.sIx n d o = HT.sIx n d o := by cases o <;> rfl
theorem cut_rep {K : PySem.W.Frag} {H : Hp} {xs : List D} {vs : List V} (lo hi : Option Int) (r : RepDs K H xs vs) : RepDs K H (cut xs lo hi) (cutV vs lo hi) := by
  unfold cut cutV
  rw [r.len, sIx_eq, sIx_eq]
  exact (r.drop _).take _
def rSSl (K : PySem.W.Frag) : V → Option Int → Option Int → Hp → VK → Prop := fun x lo hi H Q => ∃ w g u, RepV K H w x g ∧ cutS w lo hi = some u ∧ ∀ v H' fr, RepV K H' u v fr → New H H' fr → Q v H'
theorem sl_cutS : SlR X (rSSl X.K) := by
  intro pins s σ H x v vl vu lo hi sl Q I rx hs pl pu h
  obtain ⟨w, g, u, h1, hf, q⟩ := h
  unfold Mn.cutS at hf
  split at hf
  · rename_i z
    split at hf
    · rename_i hz
      cases hf
      refine sl_str pins s σ H x v vl vu lo hi sl Q I rx hs pl pu ⟨_, rep_str h1, by rw [stx_len]; exact hz, ?_⟩
      have e : L2.cutS (stx z) lo hi = stx (cut z lo hi) := by
        unfold L2.cutS cut stx
        simp only [Str.length, List.size_toArray, sIx_eq]
      rw [e]
      exact q _ _ [] (mk_str _) (New.refl H)
    · cases hf
  · rename_i xs
    cases hf
    obtain ⟨a, vs, e1, t1, r1⟩ := rep_tup h1
    refine slx_tup pins s σ H x v vl vu lo hi sl Q I rx hs pl pu ⟨a, vs, e1, t1.sq, fun hw => ?_, fun hw p o hp hd => ?_⟩
    · have e : cut xs lo hi = xs := by
        unfold cut
        rw [r1.len] at hw
        rw [sIx_eq, sIx_eq, hw.1, hw.2]
        simp
      rw [e] at q
      exact q _ _ [] (mk_tup t1 r1) (New.refl H)
    · exact q _ _ [] (mk_tup (mkT hd) ((cut_rep lo hi r1).ext (New.pure hp).ext)) (New.pure hp)
  · rename_i xs
    cases hf
    obtain ⟨a, vs, e1, t1, r1⟩ := rep_lst h1
    refine sl_list pins s σ H x v vl vu lo hi sl Q I rx hs pl pu ⟨a, vs, e1, t1.sq, fun p hp => ?_⟩
    exact q _ _ [p] ⟨p, _, rfl, rfl, upd_same, (cut_rep lo hi r1).ext (New.one hp).ext⟩ (New.one hp)
  · rename_i xs
    cases hf
    obtain ⟨a, vs, e1, _, t1, r1⟩ := h1
    refine sl_list pins s σ H x v vl vu lo hi sl Q I rx hs pl pu ⟨a, vs, e1, SqL.of t1, fun p hp => ?_⟩
    exact q _ _ [p] ⟨p, _, rfl, rfl, upd_same, (cut_rep lo hi r1).ext (New.one hp).ext⟩ (New.one hp)
  · rename_i ns
    cases hf
    obtain ⟨_, a, e1, hS⟩ := h1
    have sq : SqL X.K H a (ns.map V.int) := by
      rcases hS with ⟨o, h⟩ | h
      · exact .inl (.inr ⟨o, h⟩)
      · rcases h with (h | ⟨o, h⟩) | h
        · cases h
        · cases h
        · exact .inr h
    have r1 : RepDs X.K H (ns.map D.int) (ns.map V.int) := rep_ints ns
    have ec : (cut ns lo hi).map D.int = cut (ns.map D.int) lo hi := by
      unfold cut
      rw [List.length_map, ← List.map_drop, ← List.map_take]
    refine sl_list pins s σ H x v vl vu lo hi sl Q I rx hs pl pu ⟨a, _, e1, sq, fun p hp => ?_⟩
    rw [ec] at q
    exact q _ _ [p] ⟨p, _, rfl, rfl, upd_same, (cut_rep lo hi r1).ext (New.one hp).ext⟩ (New.one hp)
  · cases hf

/-! ### built-in calls -/
def bnVal : BN → Value
  | .len => .builtin "len"
  | .tuple => .type "tuple"
  | .list => .type "list"
  | .sorted => .builtin "sorted"
  | .sum => .builtin "sum"
  | .max => .builtin "max"
  | .min => .builtin "min"
  | .all => .builtin "all"
  | .any => .builtin "any"
  | .str => .type "str"
  | .int => .type "int"
  | .dict => .type "dict"
theorem rep_asLl {K : PySem.W.Frag} {H : Hp} {v : V} {g : List Addr} {w : Va} {xs : List D} (e : asLl w = some xs) (h : RepV K H w v g) : ∃ a vs, v = .ref a ∧ SqL K H a vs ∧ RepDs K H xs vs := by
  unfold asLl at e
  split at e <;> cases e
  · obtain ⟨a, vs, h1, h2, h3⟩ := rep_lst h
    exact ⟨a, vs, h1, h2.sq, h3⟩
  · obtain ⟨a, vs, h1, h2, h3, h4⟩ := h
    exact ⟨a, vs, h1, SqL.of h3, h4⟩
theorem insT_perm (x : List Nat) : ∀ l : List (List Nat), (insT x l).Perm (x :: l)
  | [] => .refl _
  | y :: r => by
    unfold insT
    split
    · exact ((insT_perm x r).cons y).trans (.swap x y r)
    · exact .refl _
theorem sortT_perm : ∀ l : List (List Nat), (sortT l).Perm l
  | [] => .refl _
  | x :: r => (insT_perm x (sortT r)).trans ((sortT_perm r).cons x)
theorem insT_rise (x : List Nat) : ∀ l : List (List Nat), l.Pairwise (fun a b => ¬ b < a) → (insT x l).Pairwise (fun a b => ¬ b < a)
  | [], _ => by simp [insT]
  | y :: r, h => by
    have h' := List.pairwise_cons.mp h
    unfold insT
    split
    · rename_i hy
      refine List.pairwise_cons.mpr ⟨fun z hz => ?_, insT_rise x r h'.2⟩
      rcases List.mem_cons.mp ((insT_perm x r).mem_iff.mp hz) with rfl | hz
      · exact fun q => List.lt_irrefl _ (List.lt_trans q hy)
      · exact h'.1 z hz
    · rename_i hy
      refine List.pairwise_cons.mpr ⟨fun z hz => ?_, h⟩
      rcases List.mem_cons.mp hz with rfl | hz
      · exact hy
      · intro q
        rcases List.le_total y x with l | l
        · exact h'.1 z hz (by
            rcases Classical.em (y < x) with m | m
            · exact absurd m hy
            · have : x = y := List.le_antisymm m l
              subst this
              exact q)
        · exact h'.1 z hz (by
            rcases Classical.em (x < y) with m | m
            · exact List.lt_trans q m
            · have : x = y := List.le_antisymm l m
              subst this
              exact q)
theorem sortT_rise : ∀ l : List (List Nat), (sortT l).Pairwise (fun a b => ¬ b < a)
  | [] => .nil
  | x :: r => insT_rise x _ (sortT_rise r)
theorem rising_pw : ∀ (p : Str) (l : List Str), PyProof.Rows.risingS p l = true → (p :: l).Pairwise (fun a b => ¬ b.cps.toList < a.cps.toList)
  | p, [], _ => by simp
  | p, x :: r, h => by
    simp only [PyProof.Rows.risingS, Bool.and_eq_true, Bool.not_eq_true', PyProof.Rows.ltCps_eq, decide_eq_false_iff_not] at h
    have ih := rising_pw x r h.2
    have ih' := List.pairwise_cons.mp ih
    refine List.pairwise_cons.mpr ⟨fun z hz => ?_, ih⟩
    rcases List.mem_cons.mp hz with rfl | hz
    · exact h.1
    · intro q
      have h2 := ih'.1 z hz
      rcases Classical.em (x.cps.toList < z.cps.toList) with m | m
      · exact h.1 (List.lt_trans m q)
      · have e : x.cps.toList = z.cps.toList := List.le_antisymm h2 m
        rw [e] at h
        exact h.1 q
theorem sorted_uniq {ys : List Str} {ss : List (List Nat)} (p : ys.Perm (ss.map stx)) (h : PyProof.Rows.sortedS ys = true) : ys = (sortT ss).map stx := by
  have pw : ys.Pairwise (fun a b => ¬ b.cps.toList < a.cps.toList) := by
    cases ys with
    | nil => exact .nil
    | cons x r => exact rising_pw x r h
  have p2 : ys.Perm ((sortT ss).map stx) := p.trans ((sortT_perm ss).symm.map stx)
  refine p2.eq_of_pairwise (le := fun a b => ¬ b.cps.toList < a.cps.toList) (fun a b _ _ h1 h2 => ?_) pw ?_
  · have e : a.cps.toList = b.cps.toList := List.le_antisymm h1 h2
    have e2 : a.cps = b.cps := by simpa using e
    cases a
    cases b
    simp at e2
    rw [e2]
  · rw [List.pairwise_map]
    exact (sortT_rise ss).imp fun {a b} q => by rw [stx_tl, stx_tl]; exact q
theorem maxL_mem : ∀ (m : Int) (l : List Int), maxL m l ∈ m :: l ∧ ∀ y ∈ m :: l, y ≤ maxL m l
  | m, [] => by simp [maxL]
  | m, x :: r => by
    unfold maxL
    obtain ⟨h1, h2⟩ := maxL_mem (if m < x then x else m) r
    refine ⟨?_, fun y hy => ?_⟩
    · rcases List.mem_cons.mp h1 with e | e
      · rw [e]
        split <;> simp
      · simp [e]
    · have h0 := h2 (if m < x then x else m) List.mem_cons_self
      rcases List.mem_cons.mp hy with rfl | hy
      · split at h0 <;> split <;> omega
      · rcases List.mem_cons.mp hy with rfl | hy
        · split at h0 <;> split <;> omega
        · exact h2 y (List.mem_cons_of_mem _ hy)
theorem cr_all_of (hc : X.calm = true) (f : BN) : CallR X (bnVal f) (rSN X.K (cbS f)) := by
  intro pins s σ H xs us Q I r h
  obtain ⟨ws, w, hws, hf, q⟩ := h
  unfold cbS at hf
  split at hf
  · -- len
    rename_i x
    obtain ⟨v, g, rfl, h1⟩ := hws.one
    unfold lenS at hf
    split at hf
    · split at hf
      · rename_i z hz
        cases hf
        refine call_len_str pins s σ H _ us Q I r ⟨_, by rw [rep_str h1], by rw [stx_len]; exact hz, ?_⟩
        rw [stx_len]
        exact q _ _ [] (mk_int _) (New.refl H)
      · cases hf
    · cases hf
      obtain ⟨a, vs, e1, t1, r1⟩ := rep_tup h1
      refine call_len_seq pins s σ H _ us Q I r ⟨a, vs, by rw [e1], .inr t1.sq, ?_⟩
      rw [r1.len]
      exact q _ _ [] (mk_int _) (New.refl H)
    · cases hf
      obtain ⟨a, vs, e1, t1, r1⟩ := rep_lst h1
      refine call_len_seq pins s σ H _ us Q I r ⟨a, vs, by rw [e1], .inl t1.sq, ?_⟩
      rw [r1.len]
      exact q _ _ [] (mk_int _) (New.refl H)
    · cases hf
      obtain ⟨a, vs, e1, _, t1, r1⟩ := h1
      refine call_len_seq pins s σ H _ us Q I r ⟨a, vs, by rw [e1], .inl (SqL.of t1), ?_⟩
      rw [r1.len]
      exact q _ _ [] (mk_int _) (New.refl H)
    · cases hf
      obtain ⟨a, as, e1, _, t1, r1⟩ := h1
      refine call_len_seq pins s σ H _ us Q I r ⟨a, _, by rw [e1], .inl (SqL.of t1), ?_⟩
      rw [List.length_map, r1.len]
      exact q _ _ [] (mk_int _) (New.refl H)
    · rename_i kvs
      cases hf
      obtain ⟨a, kws, e1, _, t1, rk, r1⟩ := h1
      refine call_lenD pins s σ H _ us Q I r ⟨a, kws, by rw [e1], t1, ?_⟩
      have hl : kws.length = kvs.length := by simpa using congrArg List.length rk
      rw [hl]
      exact q _ _ [] (mk_int _) (New.refl H)
    · cases hf
  · -- tuple
    obtain ⟨v, g, rfl, h1⟩ := hws.one
    simp only [Option.map_eq_some_iff] at hf
    obtain ⟨xs, e, rfl⟩ := hf
    obtain ⟨a, vs, e1, t1, r1⟩ := rep_asL e h1
    refine callx_tuple pins s σ H _ us Q I r ⟨a, vs, by rw [e1], ?_⟩
    rcases t1 with t1 | t1
    · exact .inl ⟨t1, fun l o hl hd => q _ _ [] (mk_tup (mkT hd) (r1.ext (New.pure hl).ext)) (New.pure hl)⟩
    · exact .inr ⟨t1.sq, q _ _ [] (mk_tup t1 r1) (New.refl H)⟩
  · -- list
    obtain ⟨v, g, rfl, h1⟩ := hws.one
    simp only [Option.map_eq_some_iff] at hf
    obtain ⟨xs, e, rfl⟩ := hf
    obtain ⟨a, vs, e1, t1, r1⟩ := rep_asL e h1
    exact call_list_of pins s σ H _ us Q I r ⟨a, vs, by rw [e1], t1.imp id TupX.sq, fun l hl => q _ _ [l] ⟨l, vs, rfl, rfl, upd_same, r1.ext (New.one hl).ext⟩ (New.one hl)⟩
  · -- sorted
    obtain ⟨v, g, rfl, h1⟩ := hws.one
    unfold sortedS at hf
    split at hf
    · rename_i kvs
      split at hf
      · rename_i hz
        cases hf
        obtain ⟨a, kws, e1, e2, e3, e4, e5⟩ := h1
        refine call_sortedD hc pins s σ H _ us Q I r ⟨a, kws, (kvs.map (·.1)).map stx, by rw [e1], .inl e3, by rw [e4]; simp, by simpa using hz, fun ys p py sy hp => ?_⟩
        have e6 := sorted_uniq py sy
        subst e6
        exact q _ _ [p] ⟨p, _, rfl, rfl, upd_same, (rep_strs _).ext (New.one hp).ext⟩ (New.one hp)
      · cases hf
    · simp only [Option.bind_eq_some_iff] at hf
      obtain ⟨xs, e, ss, es, hf⟩ := hf
      split at hf
      · rename_i hz
        cases hf
        obtain ⟨a, vs, e1, t1, r1⟩ := rep_asLl e h1
        have e2 := strs_rep es r1
        subst e2
        refine cr_sortedS pins s σ H _ us Q I r ⟨a, ss.map stx, by rw [e1], t1, by simpa using hz, fun ys p py sy hp => ?_⟩
        have e6 := sorted_uniq py sy
        subst e6
        exact q _ _ [p] ⟨p, _, rfl, rfl, upd_same, (rep_strs _).ext (New.one hp).ext⟩ (New.one hp)
      · cases hf
  · -- sum
    obtain ⟨v, g, rfl, h1⟩ := hws.one
    simp only [Option.bind_eq_some_iff, Option.map_eq_some_iff] at hf
    obtain ⟨xs, e, ss, es, rfl⟩ := hf
    obtain ⟨a, vs, e1, t1, r1⟩ := rep_asLl e h1
    have e2 := ints_rep es r1
    subst e2
    exact cr_sum hc pins s σ H _ us Q I r ⟨a, ss, by rw [e1], t1, q _ _ [] (mk_int _) (New.refl H)⟩
  · -- all
    obtain ⟨v, g, rfl, h1⟩ := hws.one
    simp only [Option.bind_eq_some_iff, Option.map_eq_some_iff] at hf
    obtain ⟨xs, e, ss, es, rfl⟩ := hf
    obtain ⟨a, vs, e1, t1, r1⟩ := rep_asLl e h1
    have e2 := bls_rep es r1
    subst e2
    exact cr_all hc pins s σ H _ us Q I r ⟨a, ss, by rw [e1], t1, q _ _ [] (mk_bl _) (New.refl H)⟩
  · -- any
    obtain ⟨v, g, rfl, h1⟩ := hws.one
    simp only [Option.bind_eq_some_iff, Option.map_eq_some_iff] at hf
    obtain ⟨xs, e, ss, es, rfl⟩ := hf
    obtain ⟨a, vs, e1, t1, r1⟩ := rep_asLl e h1
    have e2 := bls_rep es r1
    subst e2
    exact cr_any hc pins s σ H _ us Q I r ⟨a, ss, by rw [e1], t1, q _ _ [] (mk_bl _) (New.refl H)⟩
  · -- max of a list
    obtain ⟨v, g, rfl, h1⟩ := hws.one
    simp only [Option.bind_eq_some_iff] at hf
    obtain ⟨xs, e, ss, es, hf⟩ := hf
    split at hf
    · cases hf
    · rename_i n r'
      cases hf
      obtain ⟨a, vs, e1, t1, r1⟩ := rep_asLl e h1
      have e2 := ints_rep es r1
      subst e2
      refine cr_max hc pins s σ H _ us Q I r ⟨a, n :: r', by rw [e1], t1, by simp, fun m hm hle => ?_⟩
      obtain ⟨m1, m2⟩ := maxL_mem n r'
      have : m = maxL n r' := Int.le_antisymm (m2 m hm) (hle _ m1)
      subst this
      exact q _ _ [] (mk_int _) (New.refl H)
  · obtain ⟨v, y, g, g', rfl, h1, h2⟩ := hws.two
    cases hf
    exact call_max2 hc pins s σ H _ us Q I r ⟨_, _, by rw [rep_int h1, rep_int h2], q _ _ [] (mk_int _) (New.refl H)⟩
  · obtain ⟨v, y, g, g', rfl, h1, h2⟩ := hws.two
    cases hf
    exact call_min2 hc pins s σ H _ us Q I r ⟨_, _, by rw [rep_int h1, rep_int h2], q _ _ [] (mk_int _) (New.refl H)⟩
  · -- min of a dict
    rename_i kvs
    obtain ⟨v, g, rfl, h1⟩ := hws.one
    obtain ⟨a, kws, e1, e2, e3, e4, e5⟩ := h1
    obtain ⟨m, hm, hf⟩ := Option.map_eq_some_iff.mp hf
    cases hf
    cases hk : kvs.map (·.1) with
    | nil => rw [hk] at hm; cases hm
    | cons k0 ks =>
      rw [hk] at hm
      cases hm
      have e6 : kws.map (·.1) = (stx k0 :: ks.map stx).map Sum.inr := by
        have : kvs.map (fun p => (Sum.inr (stx p.1) : Key)) = (kvs.map (·.1)).map fun k => Sum.inr (stx k) := by rw [List.map_map]; rfl
        rw [e4, this, hk]
        simp
      refine call_minD hc pins s σ H _ us Q I r ⟨a, kws, stx k0, ks.map stx, by rw [e1], .inl e3, e6, ?_⟩
      rw [min_stx]
      exact q _ _ [] (mk_str _) (New.refl H)
  · obtain ⟨v, g, rfl, h1⟩ := hws.one
    cases hf
    exact call_int1 pins s σ H _ us Q I r (.inr ⟨_, by rw [rep_bl h1], q _ _ [] (mk_int _) (New.refl H)⟩)
  · obtain ⟨v, g, rfl, h1⟩ := hws.one
    cases hf
    exact call_int1 pins s σ H _ us Q I r (.inl ⟨_, by rw [rep_int h1], q _ _ [] (mk_int _) (New.refl H)⟩)
  · exact cr_dict hc pins s σ H _ us Q I r ⟨_, w, hws, hf, q⟩
  · cases hf
end
end Mn
/-! MnM: the checker that a core term stands for a tree; freezing; kinds; methods. -/
namespace Mn
open PySem L2

/-! ### trees -/
def vName : Expr → Option Str
  | .Name x _ => some x
  | _ => none
theorem vName_of {e : Expr} {x : Str} (h : vName e = some x) : ∃ p, e = .Name x p := by
  cases e <;> simp [vName] at h
  subst h
  exact ⟨_, rfl⟩
def vConst : Expr → Option Const
  | .Constant c _ _ => some c
  | _ => none
theorem vConst_of {e : Expr} {c : Const} (h : vConst e = some c) : ∃ k p, e = .Constant c k p := by
  cases e <;> simp [vConst] at h
  subst h
  exact ⟨_, _, rfl⟩
def vUn : Expr → Option (UnaryOp × Expr)
  | .UnaryOp o a _ => some (o, a)
  | _ => none
theorem vUn_of {e a : Expr} {o : UnaryOp} (h : vUn e = some (o, a)) : ∃ p, e = .UnaryOp o a p := by
  cases e <;> simp [vUn] at h
  obtain ⟨rfl, rfl⟩ := h
  exact ⟨_, rfl⟩
def vBin : Expr → Option (Expr × Operator × Expr)
  | .BinOp a o b _ => some (a, o, b)
  | _ => none
theorem vBin_of {e a b : Expr} {o : Operator} (h : vBin e = some (a, o, b)) : ∃ p, e = .BinOp a o b p := by
  cases e <;> simp [vBin] at h
  obtain ⟨rfl, rfl, rfl⟩ := h
  exact ⟨_, rfl⟩
def vCmp1 : Expr → Option (Expr × CmpOp × Expr)
  | .Compare a [o] [b] _ => some (a, o, b)
  | _ => none
theorem vCmp1_of {e a b : Expr} {o : CmpOp} (h : vCmp1 e = some (a, o, b)) : ∃ p, e = .Compare a [o] [b] p := by
  unfold vCmp1 at h
  split at h <;> simp at h
  obtain ⟨rfl, rfl, rfl⟩ := h
  exact ⟨_, rfl⟩
def vCmp2 : Expr → Option (Expr × CmpOp × CmpOp × Expr × Expr)
  | .Compare a [o, p] [b, c] _ => some (a, o, p, b, c)
  | _ => none
theorem vCmp2_of {e a b c : Expr} {o p : CmpOp} (h : vCmp2 e = some (a, o, p, b, c)) : ∃ q, e = .Compare a [o, p] [b, c] q := by
  unfold vCmp2 at h
  split at h <;> simp at h
  obtain ⟨rfl, rfl, rfl, rfl, rfl⟩ := h
  exact ⟨_, rfl⟩
def vBool : Expr → Option (BoolOp × List Expr)
  | .BoolOp o xs _ => some (o, xs)
  | _ => none
theorem vBool_of {e : Expr} {o : BoolOp} {xs : List Expr} (h : vBool e = some (o, xs)) : ∃ p, e = .BoolOp o xs p := by
  cases e <;> simp [vBool] at h
  obtain ⟨rfl, rfl⟩ := h
  exact ⟨_, rfl⟩
def vIf : Expr → Option (Expr × Expr × Expr)
  | .IfExp c a b _ => some (c, a, b)
  | _ => none
theorem vIf_of {e a b c : Expr} (h : vIf e = some (c, a, b)) : ∃ p, e = .IfExp c a b p := by
  cases e <;> simp [vIf] at h
  obtain ⟨rfl, rfl, rfl⟩ := h
  exact ⟨_, rfl⟩
def vSub : Expr → Option (Expr × Expr)
  | .Subscript a s _ => some (a, s)
  | _ => none
theorem vSub_of {e a s : Expr} (h : vSub e = some (a, s)) : ∃ p, e = .Subscript a s p := by
  cases e <;> simp [vSub] at h
  obtain ⟨rfl, rfl⟩ := h
  exact ⟨_, rfl⟩
def vSlice : Expr → Option (Option Expr × Option Expr)
  | .Slice l h none _ => some (l, h)
  | _ => none
theorem vSlice_of {e : Expr} {l h : Option Expr} (q : vSlice e = some (l, h)) : ∃ p, e = .Slice l h none p := by
  unfold vSlice at q
  split at q <;> simp at q
  obtain ⟨rfl, rfl⟩ := q
  exact ⟨_, rfl⟩
def vTup : Expr → Option (List Expr)
  | .Tuple xs _ _ => some xs
  | _ => none
theorem vTup_of {e : Expr} {xs : List Expr} (h : vTup e = some xs) : ∃ k p, e = .Tuple xs k p := by
  cases e <;> simp [vTup] at h
  subst h
  exact ⟨_, _, rfl⟩
def vLst : Expr → Option (List Expr)
  | .List xs _ => some xs
  | _ => none
theorem vLst_of {e : Expr} {xs : List Expr} (h : vLst e = some xs) : ∃ p, e = .List xs p := by
  cases e <;> simp [vLst] at h
  subst h
  exact ⟨_, rfl⟩
def vDict0 : Expr → Bool
  | .Dict [] [] _ => true
  | _ => false
theorem vDict0_of {e : Expr} (h : vDict0 e = true) : ∃ p, e = .Dict [] [] p := by
  unfold vDict0 at h
  split at h
  · exact ⟨_, rfl⟩
  · cases h
def vCallN : Expr → Option (Str × List Expr)
  | .Call (.Name x _) xs [] _ => some (x, xs)
  | _ => none
theorem vCallN_of {e : Expr} {x : Str} {xs : List Expr} (h : vCallN e = some (x, xs)) : ∃ p q, e = .Call (.Name x p) xs [] q := by
  unfold vCallN at h
  split at h <;> simp at h
  obtain ⟨rfl, rfl⟩ := h
  exact ⟨_, _, rfl⟩
def vCallA : Expr → Option (Expr × Str × List Expr)
  | .Call (.Attribute o nm p) xs [] q => if (p.endLine == q.line) = true then some (o, nm, xs) else none
  | _ => none
theorem vCallA_of {e o : Expr} {nm : Str} {xs : List Expr} (h : vCallA e = some (o, nm, xs)) : ∃ p q, e = .Call (.Attribute o nm p) xs [] q ∧ (p.endLine == q.line) = true := by
  unfold vCallA at h
  split at h
  · split at h
    · simp at h
      obtain ⟨rfl, rfl, rfl⟩ := h
      exact ⟨_, _, rfl, by assumption⟩
    · cases h
  · cases h
def vComp : Expr → Option (Expr × Expr × Expr × List Expr × Scope)
  | .ListComp elt [⟨tg, it, ifs, 0⟩] sc _ => some (elt, tg, it, ifs, sc)
  | _ => none
theorem vComp_of {e elt tg it : Expr} {ifs : List Expr} {sc : Scope} (h : vComp e = some (elt, tg, it, ifs, sc)) : ∃ p, e = .ListComp elt [⟨tg, it, ifs, 0⟩] sc p := by
  unfold vComp at h
  split at h <;> simp at h
  obtain ⟨rfl, rfl, rfl, rfl, rfl⟩ := h
  exact ⟨_, rfl⟩
/-- no star, no set, no slice, no comprehension of another kind, no bare call -/
def plainX : Expr → Bool
  | .Starred .. => false
  | .Set .. => false
  | .Slice .. => false
  | .SetComp .. => false
  | .DictComp .. => false
  | .Call (.Name _ _) [] [] _ => false
  | _ => true
theorem plain_star {e : Expr} {es : List Expr} {env : PySem.Env} (h : plainX e = true) : starEach (e :: es) env = (false, eval e env) :: starEach es env := by
  cases e <;> first | rfl | (simp [plainX] at h)
theorem plain_mark {e : Expr} (h : plainX e = true) (o : CmpOp) : behindInMarks o e = false := by
  cases e <;> first | rfl | (simp [plainX] at h)
theorem plain_ix {e : Expr} (h : plainX e = true) : PlainIx e := by
  intro o i
  cases e <;> first | rfl | (simp [plainX] at h)
theorem plain_fold {e : Expr} (h : plainX e = true) (env : PySem.Env) (x : Value) : foldedSetIterable e env x = pure x := by
  cases e <;> first | rfl | (simp [plainX] at h)
theorem plain_attr {e : Expr} (h : plainX e = true) (nm : Str) (env : PySem.Env) : attributeBase e nm env (eval e env) = eval e env := by
  cases e <;> first
    | rfl
    | (rename_i f as kw p
       cases f <;> first
        | rfl
        | (cases as with
           | nil => cases kw with
             | nil => simp [plainX] at h
             | cons => rfl
           | cons => rfl))
def visB (sc : Scope) (x : Str) : Bool := match sc.names.lookup x with
  | some .local => true
  | some .cell => true
  | some .free => true
  | _ => false
theorem visB_of {sc : Scope} {x : Str} (h : visB sc x = true) : Vis sc x := by
  unfold visB at h
  split at h
  · exact .inl (by assumption)
  · exact .inr (.inl (by assumption))
  · exact .inr (.inr (by assumption))
  · cases h
def glbB (sc : Scope) (x : Str) : Bool := match sc.names.lookup x with
  | some .globalImplicit => true
  | _ => false
theorem glbB_of {sc : Scope} {x : Str} (h : glbB sc x = true) : sc.names.lookup x = some .globalImplicit := by
  unfold glbB at h
  split at h
  · assumption
  · cases h
def okN (x : Str) : Bool := !(x == ("__debug__" : Str)) && !(x == ("__classdict__" : Str)) && !(x == ("__name__" : Str))
theorem okN_of {x : Str} (h : okN x = true) : (x == ("__debug__" : Str)) = false ∧ (x == ("__classdict__" : Str)) = false ∧ x ≠ ("__name__" : Str) := by
  simp only [okN, Bool.and_eq_true, Bool.not_eq_true'] at h
  refine ⟨h.1.1, h.1.2, fun z => ?_⟩
  have := h.2
  rw [z] at this
  simp at this
def litB : D → Const → Bool
  | .int i, .int j => decide (i = j)
  | .bl a, .bool b => a == b
  | .non, .none => true
  | .str s, .str z => decide (z = stx s)
  | _, _ => false
def tnName : TN → String
  | .str => "str"
  | .int => "int"
  | .bool => "bool"
  | .tup => "tuple"
  | .lst => "list"
  | .dct => "dict"
def bnName : BN → String
  | .len => "len"
  | .tuple => "tuple"
  | .list => "list"
  | .sorted => "sorted"
  | .sum => "sum"
  | .max => "max"
  | .min => "min"
  | .all => "all"
  | .any => "any"
  | .str => "str"
  | .int => "int"
  | .dict => "dict"
def mtName : MN → String
  | .join => "join"
  | .get => "get"
  | .upper => "upper"
  | .lower => "lower"
  | .count => "count"
  | .index => "index"
  | .split => "split"
  | .lindex => "index"
def bltB (T : Tab) (sc : Scope) (x : Str) (s : String) : Bool := decide (x = (s : Str)) && decide ((s : Str) ∈ T.blts) && glbB sc x
/-- a test that is its value's truth -/
def plainT : Expr → Bool
  | .UnaryOp _ _ _ => false
  | .BoolOp _ _ _ => false
  | .IfExp _ _ _ _ => false
  | .Compare _ _ _ _ => false
  | _ => true
theorem plain_test {e : Expr} (h : plainT e = true) (env : PySem.Env) (whole : Sem Value) : isTrue e env whole = (do let v ← whole; standAt e.pos; holding [v] (truthy v)) := by
  cases e <;> first | rfl | (simp [plainT] at h)
mutual
def tst : CE → Expr → Bool
  | .cmp _ _ _, _ => true
  | .cmp2 _ _ _ _ _, _ => true
  | .lasE _, _ => true
  | .not a, e => match vUn e with
    | some (_, x) => tst a x
    | none => false
  | .and as, e => match vBool e with
    | some (_, xs) => tsts as xs
    | none => false
  | .or as, e => match vBool e with
    | some (_, xs) => tsts as xs
    | none => false
  | _, e => plainT e
def tsts : CEs → List Expr → Bool
  | .nil, [] => true
  | .cons a as, x :: xs => tst a x && tsts as xs
  | _, _ => false
end
def vDlit : Expr → Option (List (Option Expr) × List Expr)
  | .Dict ks vs _ => some (ks, vs)
  | _ => none
theorem vDlit_of {e : Expr} {ks : List (Option Expr)} {vs : List Expr} (h : vDlit e = some (ks, vs)) : ∃ p, e = .Dict ks vs p := by
  cases e <;> simp [vDlit] at h
  obtain ⟨rfl, rfl⟩ := h
  exact ⟨_, rfl⟩
def keysB : List (List Nat) → List (Option Expr) → Bool
  | [], [] => true
  | k :: ks, some e :: es => (match vConst e with
    | some (.str z) => decide (z = stx k)
    | _ => false) && keysB ks es
  | _, _ => false
def revB : Expr → Bool
  | .Slice none none (some (.UnaryOp .USub (.Constant (.int 1) _ _) _)) _ => true
  | _ => false
theorem revB_of {e : Expr} (h : revB e = true) : ∃ k p1 p2 p3, e = .Slice none none (some (.UnaryOp .USub (.Constant (.int 1) k p1) p2)) p3 := by
  unfold revB at h
  split at h
  · exact ⟨_, _, _, _, rfl⟩
  · cases h
def rev1B : Expr → Bool
  | .Slice none (some (.Constant (.int 0) _ _)) (some (.UnaryOp .USub (.Constant (.int 1) _ _) _)) _ => true
  | _ => false
theorem rev1B_of {e : Expr} (h : rev1B e = true) : ∃ k0 p0 k p1 p2 p3, e = .Slice none (some (.Constant (.int 0) k0 p0)) (some (.UnaryOp .USub (.Constant (.int 1) k p1) p2)) p3 := by
  unfold rev1B at h
  split at h
  · exact ⟨_, _, _, _, _, _, rfl⟩
  · cases h
def tgIn : Tg → List Nat → Bool
  | .one i, vs => decide (i ∈ vs)
  | .many is, vs => is.all fun i => decide (i ∈ vs)
def cndB : CEs → List Expr → Bool
  | .nil, [] => true
  | .cons a .nil, [x] => tst a x
  | _, _ => false
section
variable (T : Tab)
def tyB (sc : Scope) : TN → Expr → Bool
  | t, e => match vName e with
    | some x => bltB T sc x (tnName t)
    | none => false
def tysB (sc : Scope) : List TN → List Expr → Bool
  | [], [] => true
  | t :: ts, e :: es => tyB T sc t e && tysB sc ts es
  | _, _ => false
def tgB (N : List Str) (top : Bool) (sc : Scope) (io : List Nat) (i : Nat) (e : Expr) : Bool := match vName e with
  | some x => decide (N[i]? = some x) && okN x && !(io.contains i) && (decide (sc.names.lookup x = some .local) || (top && decide (sc.names.lookup x = some .cell)))
  | none => false
def tgsB (N : List Str) (top : Bool) (sc : Scope) (io : List Nat) : List Nat → List Expr → Bool
  | [], [] => true
  | i :: is, e :: es => tgB N top sc io i e && tgsB N top sc io is es
  | _, _ => false
def tgtB (N : List Str) (top : Bool) (sc : Scope) (io : List Nat) : Tg → Expr → Bool
  | .one i, e => tgB N top sc io i e
  | .many is, e => match vTup e with
    | some es => tgsB N top sc io is es
    | none => false
/-- [[]] -/
def llnB : Expr → Bool
  | .List [.List [] _] _ => true
  | _ => false
theorem llnB_of {e : Expr} (h : llnB e = true) : ∃ p1 p2, e = .List [.List [] p1] p2 := by
  unfold llnB at h
  split at h
  · exact ⟨_, _, rfl⟩
  · cases h
def lnB : Expr → Bool
  | .List [] _ => true
  | _ => false
theorem lnB_of {e : Expr} (h : lnB e = true) : ∃ p, e = .List [] p := by
  unfold lnB at h
  split at h
  · exact ⟨_, rfl⟩
  · cases h
/-- x[-1] of a name -/
def vLast : Expr → Option Expr
  | .Subscript o (.UnaryOp .USub (.Constant (.int 1) _ _) _) _ => some o
  | _ => none
theorem vLast_of {e o : Expr} (h : vLast e = some o) : ∃ k p1 p2 p3, e = .Subscript o (.UnaryOp .USub (.Constant (.int 1) k p1) p2) p3 := by
  unfold vLast at h
  split at h <;> simp at h
  subst h
  exact ⟨_, _, _, _, rfl⟩
/-- x[0] of a name -/
def vFirst : Expr → Option Expr
  | .Subscript o (.Constant (.int 0) _ _) _ => some o
  | _ => none
theorem vFirst_of {e o : Expr} (h : vFirst e = some o) : ∃ k p1 p3, e = .Subscript o (.Constant (.int 0) k p1) p3 := by
  unfold vFirst at h
  split at h <;> simp at h
  subst h
  exact ⟨_, _, _, rfl⟩
def nmB (N : List Str) (sc : Scope) (i : Nat) (o : Expr) : Bool := match vName o with
  | some x => decide (N[i]? = some x) && visB sc x && okN x
  | none => false
mutual
def mE (N : List Str) (sc : Scope) : CE → Expr → Bool
  | .var i, e => match vName e with
    | some x => decide (N[i]? = some x) && visB sc x && okN x
    | none => false
  | .glb g, e => match vName e, T.consts[g]? with
    | some x, some (y, _) => decide (x = y) && glbB sc x && okN x
    | _, _ => false
  | .lit x, e => match vConst e with
    | some c => litB x c
    | none => false
  | .neg a, e => match vUn e with
    | some (.USub, x) => mE N sc a x
    | _ => false
  | .bin o a b, e => match vBin e with
    | some (x, p, y) => decide (p = o) && mE N sc a x && mE N sc b y
    | none => false
  | .cmp o a b, e => match vCmp1 e with
    | some (x, p, y) => decide (p = o) && plainX y && mE N sc a x && mE N sc b y
    | none => false
  | .cmp2 o p a b c, e => match vCmp2 e with
    | some (x, q, r, y, z) => decide (q = o) && decide (r = p) && plainX z && mE N sc a x && mE N sc b y && mE N sc c z
    | none => false
  | .and as, e => match vBool e with
    | some (.And, xs) => !xs.isEmpty && mEs N sc as xs
    | _ => false
  | .or as, e => match vBool e with
    | some (.Or, xs) => !xs.isEmpty && mEs N sc as xs
    | _ => false
  | .not a, e => match vUn e with
    | some (.Not, x) => mE N sc a x
    | _ => false
  | .ife c a b, e => match vIf e with
    | some (x, y, z) => tst c x && mE N sc c x && mE N sc a y && mE N sc b z
    | none => false
  | .sub a b, e => match vSub e with
    | some (x, y) => plainX y && mE N sc a x && mE N sc b y
    | none => false
  | .slc a lo hi, e => match vSub e with
    | some (x, s) => match vSlice s with
      | some (l, h) => mE N sc a x && mO N sc lo l && mO N sc hi h
      | none => false
    | none => false
  | .tup as, e => match vTup e with
    | some xs => mEs N sc as xs
    | none => false
  | .lst as, e => match vLst e with
    | some xs => mEs N sc as xs
    | none => false
  | .dnew, e => vDict0 e
  | .cb f as, e => match vCallN e with
    | some (x, xs) => bltB T sc x (bnName f) && !xs.isEmpty && mEs N sc as xs
    | none => false
  | .isi a ts, e => match vCallN e with
    | some (x, [y, z]) => bltB T sc x "isinstance" && decide (ts.length ≤ 10) && plainX y && plainX z && mE N sc a y && (match ts with
      | [t] => tyB T sc t z
      | ts => match vTup z with
        | some zs => tysB T sc ts zs
        | none => false)
    | _ => false
  | .cf f as, e => match vCallN e, T.fns[f]? with
    | some (x, xs), some (y, _) => decide (x = y) && glbB sc x && okN x && !xs.isEmpty && mEs N sc as xs
    | _, _ => false
  | .mt m a as, e => match vCallA e with
    | some (o, nm, xs) => decide (nm = (mtName m : Str)) && plainX o && !xs.isEmpty && decide (xs.length < 20) && mE N sc a o && mEs N sc as xs
    | none => false
  | .popV i, e => match vCallA e with
    | some (o, nm, []) => decide (nm = ("pop" : Str)) && (match vName o with
      | some x => decide (N[i]? = some x) && visB sc x && okN x
      | none => false)
    | _ => false
  | .popI i a, e => match vCallA e with
    | some (o, nm, [y]) => decide (nm = ("pop" : Str)) && plainX y && mE N sc a y && (match vName o with
      | some x => decide (N[i]? = some x) && visB sc x && okN x
      | none => false)
    | _ => false
  | .sdf i a b, e => match vCallA e with
    | some (o, nm, [y, z]) => decide (nm = ("setdefault" : Str)) && plainX y && plainX z && mE N sc a y && mE N sc b z && (match vName o with
      | some x => decide (N[i]? = some x) && visB sc x && okN x
      | none => false)
    | _ => false
  | .comp own tg it cs el, e => match vComp e with
    | some (elt, tgx, iter, ifs, scope) => plainX iter && blkC N sc scope own && tgIn tg (own.map (·.2)) && cndB cs ifs && tgtB N false (relS scope sc) [] tg tgx && mI N sc it tgx iter && mEs N (relS scope sc) cs ifs && mE N (relS scope sc) el elt
    | none => false
  | .fz a, e => mE N sc a e
  | .ssrt a, e => match vCallN e with
    | some (x, [y]) => bltB T sc x "sorted" && (match vCallN y with
      | some (x2, [z]) => bltB T sc x2 "set" && plainX z && mE N sc a z
      | _ => false)
    | _ => false
  | .slen a, e => match vCallN e with
    | some (x, [y]) => bltB T sc x "len" && (match vCallN y with
      | some (x2, [z]) => bltB T sc x2 "set" && plainX z && mE N sc a z
      | _ => false)
    | _ => false
  | .dlit ks as, e => match vDlit e with
    | some (kx, vs) => !kx.isEmpty && decide (kx.length ≤ 15) && decide (kx.length = vs.length) && keysB ks kx && mEs N sc as vs
    | none => false
  | .rev a, e => match vSub e with
    | some (x, s) => revB s && mE N sc a x
    | none => false
  | .rev1 a, e => match vSub e with
    | some (x, s) => rev1B s && mE N sc a x
    | none => false
  | .orv a b, e => match vBool e with
    | some (.Or, [x, y]) => mE N sc a x && mE N sc b y
    | _ => false
  | .lln, e => llnB e
  | .lasE i, e => match vCmp1 e with
    | some (x, .Eq, y) => lnB y && (match vLast x with
      | some o => nmB N sc i o
      | none => false)
    | _ => false
  | .popT i, e => match vCallN e with
    | some (x, [y]) => bltB T sc x "tuple" && (match vCallA y with
      | some (o, nm, []) => decide (nm = ("pop" : Str)) && nmB N sc i o
      | _ => false)
    | _ => false
  | .dl1 a b, e => match vDlit e with
    | some ([some x], [y]) => mE N sc a x && mE N sc b y
    | _ => false
  | .dg2 i a b, e => match vCallA e with
    | some (o, nm, [y, z]) => decide (nm = ("get" : Str)) && plainX y && plainX z && mE N sc a y && mE N sc b z && nmB N sc i o
    | _ => false
  | .keysL i, e => match vCallN e with
    | some (x, [y]) => bltB T sc x "list" && nmB N sc i y
    | _ => false
  | .rowT i, e => match vCallN e with
    | some (x, [y]) => bltB T sc x "tuple" && (match vFirst y with
      | some o => nmB N sc i o
      | none => false)
    | _ => false
  | .lzip as, e => match vCallN e with
    | some (x, [y]) => bltB T sc x "list" && (match vCallN y with
      | some (x2, [u, v]) => bltB T sc x2 "zip" && mEs N sc as [u, v]
      | _ => false)
    | _ => false
  | .up a, e => match vCallA e with
    | some (o, nm, []) => decide (nm = ("upper" : Str)) && plainX o && mE N sc a o
    | _ => false
  | .lo a, e => match vCallA e with
    | some (o, nm, []) => decide (nm = ("lower" : Str)) && plainX o && mE N sc a o
    | _ => false
def mEs (N : List Str) (sc : Scope) : CEs → List Expr → Bool
  | .nil, [] => true
  | .cons a as, x :: xs => plainX x && mE N sc a x && mEs N sc as xs
  | _, _ => false
def mO (N : List Str) (sc : Scope) : CO → Option Expr → Bool
  | .none, none => true
  | .some a, some x => mE N sc a x
  | _, _ => false
def mI (N : List Str) (sc : Scope) : CI → Expr → Expr → Bool
  | .it a, _, e => mE N sc a e
  | .rng as, _, e => match vCallN e with
    | some (x, xs) => bltB T sc x "range" && (match xs with
      | [_] => true
      | [_, _] => true
      | _ => false) && mEs N sc as xs
    | none => false
  | .zip as, .Tuple _ _ _, e => match vCallN e with
    | some (x, [u, v]) => bltB T sc x "zip" && mEs N sc as [u, v]
    | _ => false
  | .zip _, _, _ => false
  | .enu _, _, _ => false
end
end
end Mn
/-! MnD: the readings of the evaluator, composed. -/
namespace Mn
open PySem L2

theorem bnd_eq {α β γ : Type} {r : Option (α × β)} {f : α → β → Option γ} {c : γ} (h : bnd r f = some c) : ∃ a b, r = some (a, b) ∧ f a b = some c := by
  match r, h with
  | some (a, b), h => exact ⟨a, b, rfl, h⟩
  | none, h => cases h

section
variable {X : Cx} {e : Expr}
theorem PE.imp {t t' : TE} (h : PE X e t) (i : ∀ σ H Q, t' σ H Q → t σ H Q) : PE X e t' := ⟨fun pins s σ H Q I q => h.run pins s σ H Q I (i σ H Q q)⟩
theorem PT.imp {t t' : TT} (h : PT X e t) (i : ∀ σ H Q, t' σ H Q → t σ H Q) : PT X e t' := ⟨fun pins s σ H Q I q => h.run pins s σ H Q I (i σ H Q q)⟩
theorem PW.imp {t t' : TT} (h : PW X e t) (i : ∀ σ H Q, t' σ H Q → t σ H Q) : PW X e t' := ⟨fun w pins s σ H Q I q => h.run w pins s σ H Q I (i σ H Q q)⟩
theorem PA.imp {es : List Expr} {t t' : TA} (h : PA X es t) (i : ∀ σ H Q, t' σ H Q → t σ H Q) : PA X es t' := ⟨fun pos pins s σ H Q I q => h.run pos pins s σ H Q I (i σ H Q q)⟩
theorem PO.imp {o : Option Expr} {t t' : TO} (h : PO X o t) (i : ∀ σ H Q, t' σ H Q → t σ H Q) : PO X o t' := ⟨fun pins s σ H Q I q => h.run pins s σ H Q I (i σ H Q q)⟩
theorem PS.imp {st : Stmt} {t t' : TS} (h : PS X st t) (i : ∀ D σ H, t' D σ H → t D σ H) : PS X st t' := ⟨fun pins s σ H D I q => h.run pins s σ H D I (i D σ H q)⟩
theorem PSs.imp {st : List Stmt} {t t' : TS} (h : PSs X st t) (i : ∀ D σ H, t' D σ H → t D σ H) : PSs X st t' := ⟨fun pins s σ H D I q => h.run pins s σ H D I (i D σ H q)⟩

/-! ### freezing -/
def Fz1 (u : HO) : Prop := (∃ xs, u = .lst xs) ∨ ∃ kvs, u = .dK kvs
theorem inv_fz {pins : List (Addr × Obj)} {σ : L2.St} {H : Hp} {s : Shared} {a : Addr} {u : HO} (I : L2.Inv X pins σ H s) (hu : Fz1 u) (h : H a = some u) : ∃ o, L2.Inv X pins σ (upd H a (.frz o u)) s := by
  have hok := I.hok a u h
  obtain ⟨o, ho⟩ : ∃ o, s.heap.get? a = some o := by
    rcases hu with ⟨xs, rfl⟩ | ⟨kvs, rfl⟩
    · obtain ⟨_, its, n, _, e⟩ := hok
      exact ⟨_, e⟩
    · obtain ⟨_, _, vs, _, o, es, ep, e, _⟩ := hok
      exact ⟨o, e⟩
  have nown : ∀ b y, H b = some (.own y) → b ≠ a := fun b y q z => by
    subst z
    rw [h] at q
    rcases hu with ⟨xs, rfl⟩ | ⟨kvs, rfl⟩ <;> cases q
  have ntup : ∀ b y, H b = some (.tup y) → b ≠ a := fun b y q z => by
    subst z
    rw [h] at q
    rcases hu with ⟨xs, rfl⟩ | ⟨kvs, rfl⟩ <;> cases q
  have nfrz : ∀ b y z, H b = some (.frz y z) → b ≠ a := fun b y z q z' => by
    subst z'
    rw [h] at q
    rcases hu with ⟨xs, rfl⟩ | ⟨kvs, rfl⟩ <;> cases q
  have ntbl : ∀ b y, H b = some (.tbl y) → b ≠ a := fun b y q z => by
    subst z
    rw [h] at q
    rcases hu with ⟨xs, rfl⟩ | ⟨kvs, rfl⟩ <;> cases q
  have nnone : ∀ b, H b = none → b ≠ a := fun b q z => by
    subst z
    rw [h] at q
    cases q
  have st : ∀ b v, ObjOk X.prog X.w H s.heap b v → ObjOk X.prog X.w (upd H a (.frz o u)) s.heap b v := fun b v q =>
    q.stay (fun _ _ _ z => z) (fun c z => by rw [upd_ne (nown c _ z)]; exact z) fun c xs z => by rw [upd_ne (ntup c _ z)]; exact z
  refine ⟨o, I.ok, I.os, I.bare, ⟨I.base.keep, I.base.slot, fun b ob e1 e2 e3 => ?_, I.base.there, fun b xs e1 => ?_, fun b ob v e1 => ?_, fun b ps e1 => ?_⟩, I.loc, I.cell, ?_, fun x c e1 => ?_, fun p hp => ?_, fun b v e1 => ?_, I.len⟩
  · have := I.base.free b ob e1 e2 e3
    rw [upd_ne (nnone b this)]
    exact this
  · have := I.base.tups b xs e1
    rw [upd_ne (ntup b _ this)]
    exact this
  · have := I.base.frzs b ob v e1
    rw [upd_ne (nfrz b _ _ this)]
    exact this
  · obtain ⟨m, this⟩ := I.base.tbls b ps e1
    exact ⟨m, by rw [upd_ne (ntbl b _ this)]; exact this⟩
  · rw [upd_ne (nnone _ I.free)]
    exact I.free
  · rw [upd_ne (nnone _ (I.freeC x c e1))]
    exact I.freeC x c e1
  · obtain ⟨p1, p2, p3⟩ := I.pin p hp
    exact ⟨p1, by rw [upd_ne (nnone _ p2)]; exact p2, p3⟩
  · by_cases hb : b = a
    · subst hb
      rw [upd_same] at e1
      cases e1
      exact ⟨ho, st b u hok⟩
    · rw [upd_ne hb] at e1
      exact st b v (I.hok b v e1)
/-- some things frozen, one behind another -/
def FzN : Nat → Hp → (Hp → Prop) → Prop
  | 0, H, P => P H
  | n + 1, H, P => ∃ a u, H a = some u ∧ Fz1 u ∧ ∀ o, FzN n (upd H a (.frz o u)) P
theorem FzN.imp {P P' : Hp → Prop} : ∀ {n : Nat} {H : Hp}, FzN n H P → (∀ H', P H' → P' H') → FzN n H P'
  | 0, _, h, i => i _ h
  | n + 1, _, ⟨a, u, h1, h2, h3⟩, i => ⟨a, u, h1, h2, fun o => (h3 o).imp i⟩
theorem inv_fzN {pins : List (Addr × Obj)} {σ : L2.St} {s : Shared} {P : Hp → Prop} : ∀ {n : Nat} {H : Hp}, L2.Inv X pins σ H s → FzN n H P → ∃ H', L2.Inv X pins σ H' s ∧ P H'
  | 0, H, I, h => ⟨H, I, h⟩
  | n + 1, H, I, ⟨a, u, h1, h2, h3⟩ => by
    obtain ⟨o, I2⟩ := inv_fz I h2 h1
    exact inv_fzN I2 (h3 o)
def Fz (v : V) (H : Hp) (Q : VK) : Prop := ∃ n, FzN n H fun H' => Q v H'
theorem pe_fz {t : TE} (h : PE X e t) : PE X e (fun σ H Q => t σ H fun v H1 => Fz v H1 Q) := by
  refine ⟨fun pins s σ H Q I q => thn (h.run pins s σ H _ I q) fun v s1 ⟨x, H1, I1, r1, n, q1⟩ => ?_⟩
  obtain ⟨H2, I2, q2⟩ := inv_fzN I1 q1
  exact ⟨x, H2, I2, r1, q2⟩
theorem Stp.frz {H H1 : Hp} {f f1 : List Addr} {a : Addr} {u : HO} {o : Obj} (s : Stp H f H1 f1) (ha : a ∈ f1) (h1 : H1 a = some u) (hu : Fz1 u) : Stp H f (upd H1 a (.frz o u)) f1 := by
  refine ⟨s.1.trans ⟨fun b xs q => ?_, fun b o' v q => ?_⟩, fun b v q n => ?_, s.2.2⟩
  · rw [upd_ne (fun z => by subst z; rw [h1] at q; rcases hu with ⟨xs, rfl⟩ | ⟨kvs, rfl⟩ <;> cases q)]
    exact q
  · rw [upd_ne (fun z => by subst z; rw [h1] at q; rcases hu with ⟨xs, rfl⟩ | ⟨kvs, rfl⟩ <;> cases q)]
    exact q
  · rw [upd_ne (fun z => by
      subst z
      rcases s.2.2 b ha with z | z
      · exact n z
      · rw [z] at q; cases q)]
    exact s.2.1 b v q n
theorem ext_frz {H : Hp} {a : Addr} {u : HO} {o : Obj} (h1 : H a = some u) (hu : Fz1 u) : Ext H (upd H a (.frz o u)) := by
  refine ⟨fun b xs q => ?_, fun b o' v q => ?_⟩
  · rw [upd_ne (fun z => by subst z; rw [h1] at q; rcases hu with ⟨xs, rfl⟩ | ⟨kvs, rfl⟩ <;> cases q)]
    exact q
  · rw [upd_ne (fun z => by subst z; rw [h1] at q; rcases hu with ⟨xs, rfl⟩ | ⟨kvs, rfl⟩ <;> cases q)]
    exact q
theorem frz_at {H : Hp} {a : Addr} {u : HO} {o : Obj} {b : Addr} (h : b ∉ [a]) : (upd H a (.frz o u)) b = H b := upd_ne fun z => h (by rw [z]; exact List.mem_singleton.mpr rfl)
theorem rows_fz {K : PySem.W.Frag} : ∀ {rows : List (List D)} {as : List Addr} {H : Hp}, RepLs K H rows as → as.Nodup → FzN rows.length H fun H' => RepDs K H' (rows.map .lst) (as.map V.ref) ∧ Ext H H' ∧ ∀ b, b ∉ as → H' b = H b
  | [], as, H, h, _ => by
    have h' : as = [] := h
    subst h'
    exact ⟨RepDs.nil, Ext.refl H, fun _ _ => rfl⟩
  | r :: rs, _, H, h, nd => by
    obtain ⟨a, t, vs, rfl, h1, h2, h3⟩ := h
    have hz : Fz1 (.lst vs) := .inl ⟨_, rfl⟩
    obtain ⟨na, nd⟩ := List.nodup_cons.mp nd
    refine ⟨a, _, h1, hz, fun o => ?_⟩
    refine (rows_fz (h3.keep (fun b hb => upd_ne (show b ≠ a from fun z => na (z ▸ hb))) (ext_frz h1 hz)) nd).imp fun H' ⟨q1, q2, q3⟩ => ⟨?_, (ext_frz h1 hz).trans q2, fun b hb => ?_⟩
    · refine RepDs.cons ?_ q1
      simp only [RepD]
      exact ⟨a, vs, rfl, .inl ⟨o, q2.2 _ _ _ upd_same⟩, (h2.ext (ext_frz h1 hz)).ext q2⟩
    · rw [q3 b fun z => hb (List.mem_cons_of_mem _ z)]
      exact upd_ne fun z => hb (by rw [z]; exact List.mem_cons_self)
/-- what a value's thing is, frozen -/
theorem rep_fz {K : PySem.W.Frag} {H : Hp} {w : Va} {v : V} {g : List Addr} {x : D} (h : RepV K H w v g) (nd : g.Nodup) (e : fzV w = some x) : ∃ n, FzN n H fun H' => RepD K H' x v ∧ Ext H H' ∧ ∀ b, b ∉ g → H' b = H b := by
  cases w with
  | d y =>
    simp only [fzV, Option.some.injEq] at e
    subst e
    exact ⟨0, h.2, Ext.refl H, fun _ _ => rfl⟩
  | ls xs =>
    simp only [fzV, Option.some.injEq] at e
    subst e
    obtain ⟨a, vs, h1, rfl, h3, h4⟩ := h
    refine ⟨1, a, _, h3, .inl ⟨_, rfl⟩, fun o => ⟨?_, ext_frz h3 (.inl ⟨_, rfl⟩), fun b hb => frz_at hb⟩⟩
    simp only [RepD]
    exact ⟨a, vs, h1, .inl ⟨o, upd_same⟩, h4.ext (ext_frz h3 (.inl ⟨_, rfl⟩))⟩
  | dc kvs =>
    simp only [fzV, Option.some.injEq] at e
    subst e
    obtain ⟨a, kws, h1, rfl, h3, h4, h5⟩ := h
    refine ⟨1, a, _, h3, .inr ⟨_, rfl⟩, fun o => ⟨?_, ext_frz h3 (.inr ⟨_, rfl⟩), fun b hb => frz_at hb⟩⟩
    simp only [RepD]
    exact ⟨a, o, kws, h1, upd_same, by rw [h4]; simp, h5.ext (ext_frz h3 (.inr ⟨_, rfl⟩))⟩
  | ll rows =>
    simp only [fzV, Option.some.injEq] at e
    subst e
    obtain ⟨a, as, h1, rfl, h3, h4⟩ := h
    obtain ⟨na, nd⟩ := List.nodup_cons.mp nd
    have hz : Fz1 (.lst (as.map V.ref)) := .inl ⟨_, rfl⟩
    refine ⟨rows.length + 1, a, _, h3, hz, fun o => ?_⟩
    refine (rows_fz (h4.keep (fun b hb => upd_ne (show b ≠ a from fun z => na (z ▸ hb))) (ext_frz h3 hz)) nd).imp fun H' ⟨q1, q2, q3⟩ => ⟨?_, (ext_frz h3 hz).trans q2, fun b hb => ?_⟩
    · simp only [RepD]
      exact ⟨a, _, h1, .inl ⟨o, q2.2 _ _ _ upd_same⟩, q1⟩
    · rw [q3 b fun z => hb (List.mem_cons_of_mem _ z)]
      exact upd_ne fun z => hb (by rw [z]; exact List.mem_cons_self)
  | dk cs s n => simp [fzV] at e
  | dl cs s => simp [fzV] at e
  | dd cs n s => simp [fzV] at e
  | scr ns => simp [fzV] at e
theorem Stp.fz {H H1 H2 : Hp} {f g h : List Addr} (s : Stp H f H1 (g ++ h)) (e : Ext H1 H2) (k : ∀ b, b ∉ g → H2 b = H1 b) : Stp H f H2 h := by
  refine ⟨s.1.trans e, fun a o q n => ?_, fun a ha => s.2.2 a (List.mem_append_right _ ha)⟩
  have q1 := s.2.1 a o q n
  rw [k a fun z => ?_]
  · exact q1
  · rcases s.2.2 a (List.mem_append_left _ z) with y | y
    · exact n y
    · rw [y] at q; cases q
end

/-! ### names -/
section
variable {X : Cx} {x : Str} {p : Pos} {i : Nat}
theorem pe_use (h : PE X (.Name x p) (tVar i)) : PE X (.Name x p) (tG X.K (RV_ X.K) fun env => useS env i) := by
  refine PE.imp h fun σ H Q ⟨env, f, w, env', rel, nd, e, q⟩ => ?_
  replace e : useS env i = some (w, env') := e
  unfold useS at e
  split at e
  · rename_i y hy
    cases e
    obtain ⟨v, g, h', h1, h2, h3, h4⟩ := rel.out hy
    refine ⟨v, h1, q v H f [] rel ?_ nd (Stp.refl H f)⟩
    have e2 : g = [] := h2.1
    subst e2
    exact h2
  · rename_i w' hy hnd
    cases e
    obtain ⟨v, g, h', h1, h2, h3, h4⟩ := rel.out hnd
    exact ⟨v, h1, q v H h' g h3 h2 (h4.nodup_iff.mp nd) ((Stp.refl H f).sub fun a ha => h4.mem_iff.mpr ha)⟩
  · cases e
theorem pe_slot (h : PE X (.Name x p) (tVar i)) (ev : Env → Option (Va × Env)) : PE X (.Name x p) (tG X.K (RP_ X.K) (opnd (.var i) ev)) := by
  refine PE.imp h fun σ H Q ⟨env, f, w, env', rel, nd, e, q⟩ => ?_
  simp only [opnd] at e
  split at e
  · rename_i w' hy
    cases e
    obtain ⟨v, g, h', h1, h2, h3, h4⟩ := rel.out hy
    exact ⟨v, h1, q v H f [] rel ⟨rfl, h1⟩ nd (Stp.refl H f)⟩
  · cases e
theorem pe_fzn (h : PE X (.Name x p) (tVar i)) : PE X (.Name x p) (tG X.K (RD_ X.K) fun env => fzS env i) := by
  refine PE.imp (pe_fz h) fun σ H Q ⟨env, f, y, env', rel, nd, e, q⟩ => ?_
  replace e : fzS env i = some (y, env') := e
  unfold fzS at e
  split at e
  · rename_i z hy
    cases e
    obtain ⟨v, g, h', h1, h2, h3, h4⟩ := rel.out hy
    exact ⟨v, h1, 0, q v H f [] rel ⟨rfl, h2.2⟩ nd (Stp.refl H f)⟩
  · rename_i w' hy hnd
    simp only [Option.map_eq_some_iff] at e
    obtain ⟨z, e1, e2⟩ := e
    cases e2
    obtain ⟨v, g, h', h1, h2, h3, h4⟩ := rel.out hnd
    have nd' := h4.nodup_iff.mp nd
    obtain ⟨n1, n2, n3⟩ := nodup_app.mp nd'
    obtain ⟨n, hn⟩ := rep_fz h2 n1 e1
    refine ⟨_, h1, n, hn.imp fun H' ⟨r1, r2, r3⟩ => ?_⟩
    have ek : ∀ b ∈ h', H' b = H b := fun b hb => r3 b fun z => n3 b z hb
    refine q _ _ h' [] ?_ ⟨rfl, r1⟩ n2 ?_
    · have := RelE.put (h3.keep ek r2) h1 (mk_d r1)
      simpa using this
    · exact ((Stp.refl H f).sub (f2 := g ++ h') fun b hb => h4.mem_iff.mpr hb).fz r2 r3
  · cases e
end

/-! ### operands -/
section
variable {X : Cx} {e : Expr} {c : CE} {ev : Env → Option (Va × Env)}
theorem opnd_val (h : PE X e (tG X.K (RV_ X.K) ev)) (hc : ∀ i, c ≠ .var i) : PE X e (tG X.K (RP_ X.K) (opnd c ev)) := by
  refine PE.imp h fun σ H Q ⟨env, f, p, env', rel, nd, e, q⟩ => ?_
  have e' : bnd (ev env) (fun w e => some (PV.val w, e)) = some (p, env') := by
    unfold opnd at e
    split at e
    · exact absurd rfl (hc _)
    · exact e
  obtain ⟨w, e1, h1, h2⟩ := bnd_eq e'
  cases h2
  exact ⟨env, f, w, _, rel, nd, h1, fun v H' f' g a b => q v H' f' g a b⟩
theorem fopn_val (h : PE X e (tG X.K (RV_ X.K) ev)) (hc : ∀ i, c ≠ .var i) : PE X e (tG X.K (RD_ X.K) (fopn c ev)) := by
  refine PE.imp (pe_fz h) fun σ H Q ⟨env, f, x, env', rel, nd, e, q⟩ => ?_
  have e' : bnd (ev env) (fun w e => (fzV w).map fun x => (x, e)) = some (x, env') := by
    unfold fopn at e
    split at e
    · exact absurd rfl (hc _)
    · exact e
  obtain ⟨w, e1, h1, h2⟩ := bnd_eq e'
  simp only [Option.map_eq_some_iff] at h2
  obtain ⟨y, h2, h3⟩ := h2
  cases h3
  refine ⟨env, f, w, _, rel, nd, h1, fun v H' f' g a b nd' st => ?_⟩
  obtain ⟨n1, n2, n3⟩ := nodup_app.mp nd'
  obtain ⟨n, hn⟩ := rep_fz b n1 h2
  refine ⟨n, (hn).imp fun H2 ⟨r1, r2, r3⟩ => ?_⟩
  exact q v H2 f' [] (a.keep (fun c hc => r3 c fun z => n3 c z hc) r2) ⟨rfl, r1⟩ n2 (st.fz r2 r3)
/-- the last step of an operation -/
theorem fin_op {K : PySem.W.Frag} {H H2 : Hp} {f g f2 : List Addr} {env : Env} {σ : L2.St} {w : Va} {Q : VK} (nd : (g ++ f2).Nodup) (st : Stp H f H2 (g ++ f2)) (rel : RelE K H2 env σ f2)
    (q : ∀ v H' f' g', RelE K H' env σ f' → RepV K H' w v g' → (g' ++ f').Nodup → Stp H f H' (g' ++ f') → Q v H') : ∀ v H3 fr, RepV K H3 w v fr → New H2 H3 fr → Q v H3 := fun v H3 fr rv nw => by
  have nd2 := (nodup_app.mp nd).2.1
  obtain ⟨nd4, st4⟩ := nw.stp rel.trk nd2
  exact q v H3 f2 fr (rel.keep (fun a ha => nw.at_ (rel.trk a ha)) nw.ext) rv nd4 ((st.sub fun a ha => List.mem_append_right _ ha).trans st4)
theorem tG_un1 {K : PySem.W.Frag} {F : Va → Option Va} {ra : Env → Option (PV × Env)} {σ : L2.St} {H : Hp} {Q : VK} (h : tG K (RV_ K) (un1 F ra) σ H Q) : tUn (rS1 K F) (tG K (RP_ K) ra) σ H Q := by
  obtain ⟨env, f, w, env', rel, nd, e, q⟩ := h
  obtain ⟨p, e1, h1, h2⟩ := bnd_eq e
  simp only [Option.bind_eq_some_iff, Option.map_eq_some_iff] at h2
  obtain ⟨x, hx, u, hu, h3⟩ := h2
  cases h3
  refine ⟨env, f, p, _, rel, nd, h1, fun v H1 f1 g1 rel1 r1 nd1 st1 => ?_⟩
  obtain ⟨ga, ha⟩ := r1.res rel1 hx
  exact ⟨x, ga, w, ha, hu, fin_op nd1 st1 rel1 q⟩
theorem tG_un2 {K : PySem.W.Frag} {F : Va → Va → Option Va} {ra rb : Env → Option (PV × Env)} {σ : L2.St} {H : Hp} {Q : VK} (h : tG K (RV_ K) (un2 F ra rb) σ H Q) : tOp (rS2 K F) (tG K (RP_ K) ra) (tG K (RP_ K) rb) σ H Q := by
  obtain ⟨env, f, w, env', rel, nd, e, q⟩ := h
  obtain ⟨p, e1, h1, h2⟩ := bnd_eq e
  obtain ⟨r, e2, h2, h3⟩ := bnd_eq h2
  simp only [Option.bind_eq_some_iff, Option.map_eq_some_iff] at h3
  obtain ⟨x, hx, y, hy, u, hu, h4⟩ := h3
  cases h4
  refine ⟨env, f, p, e1, rel, nd, h1, fun v1 H1 f1 g1 rel1 r1 nd1 st1 => ⟨e1, f1, r, _, rel1, (nodup_app.mp nd1).2.1, h2, fun v2 H2 f2 g2 rel2 r2 nd2 st2 => ?_⟩⟩
  obtain ⟨nd3, st3, k3, x3⟩ := chain nd1 st1 r1.trk nd2 st2
  obtain ⟨ga, ha⟩ := (r1.keep k3 x3).res rel2 hx
  obtain ⟨gb, hb⟩ := r2.res rel2 hy
  exact ⟨x, y, ga, gb, w, ha, hb, hu, fin_op (g := g1 ++ g2) (by rw [List.append_assoc]; exact nd3) (by rw [List.append_assoc]; exact st3) rel2 q⟩
theorem tG_un3 {K : PySem.W.Frag} {F G : Va → Va → Option Va} {ra rb rc : Env → Option (PV × Env)} {σ : L2.St} {H : Hp} {Q : VK} (h : tG K (RV_ K) (un3 F G ra rb rc) σ H Q) :
    tChain (rS2 K F) (rS2 K G) (tG K (RP_ K) ra) (tG K (RP_ K) rb) (tG K (RP_ K) rc) σ H Q := by
  obtain ⟨env, f, w, env', rel, nd, e, q⟩ := h
  obtain ⟨p, e1, h1, h2⟩ := bnd_eq e
  obtain ⟨r, e2, h2, h3⟩ := bnd_eq h2
  simp only [Option.bind_eq_some_iff] at h3
  obtain ⟨x, hx, y, hy, t, ht, b, hb, h4⟩ := h3
  refine ⟨env, f, p, e1, rel, nd, h1, fun v1 H1 f1 g1 rel1 r1 nd1 st1 => ⟨e1, f1, r, e2, rel1, (nodup_app.mp nd1).2.1, h2, fun v2 H2 f2 g2 rel2 r2 nd2 st2 => ?_⟩⟩
  obtain ⟨nd3, st3, k3, x3⟩ := chain nd1 st1 r1.trk nd2 st2
  obtain ⟨ga, ha⟩ := (r1.keep k3 x3).res rel2 hx
  obtain ⟨gb, hgb⟩ := r2.res rel2 hy
  refine ⟨x, y, ga, gb, t, ha, hgb, ht, fun v H3 fr rv nw => ?_⟩
  have et : t = .d (.bl b) := by
    unfold asB at hb
    split at hb <;> cases hb
    rfl
  subst et
  have ev : v = .bl b := rep_bl rv
  have efr : fr = [] := rv.1
  subst ev efr
  refine ⟨b, rfl, ?_⟩
  obtain ⟨nd4, st4⟩ := nw.stp (f := g2 ++ f2) (fun a ha => by
    rcases List.mem_append.mp ha with z | z
    · exact r2.trk a z
    · exact rel2.trk a z) nd2
  have rel3 := rel2.keep (fun a ha => nw.at_ (rel2.trk a ha)) nw.ext
  have r3 := r2.keep (fun a ha => nw.at_ (r2.trk a ha)) nw.ext
  have st3' : Stp H f H3 (g2 ++ f2) := st3.trans ((nw.stp (f := g1 ++ (g2 ++ f2)) (fun a ha => by
      rcases List.mem_append.mp ha with z | z
      · rw [k3 a z]; exact r1.trk a z
      · rcases List.mem_append.mp z with z | z
        · exact r2.trk a z
        · exact rel2.trk a z) nd3).2.sub fun a ha => List.mem_append_right _ (List.mem_append_right _ ha))
  cases b with
  | false =>
    rw [if_neg Bool.false_ne_true] at h4 ⊢
    cases h4
    exact q _ _ f2 [] rel3 (mk_bl _) (nodup_app.mp nd2).2.1 (st3'.sub fun a ha => List.mem_append_right _ ha)
  | true =>
    rw [if_pos rfl] at h4 ⊢
    obtain ⟨r', e3, h5, h6⟩ := bnd_eq h4
    simp only [Option.bind_eq_some_iff, Option.map_eq_some_iff] at h6
    obtain ⟨y', hy', z, hz, u, hu, h7⟩ := h6
    cases h7
    refine ⟨e2, f2, r', _, rel3, (nodup_app.mp nd2).2.1, h5, fun v4 H4 f4 g4 rel4 r4 nd5 st5 => ?_⟩
    obtain ⟨nd6, st6, k6, x6⟩ := chain nd2 st3' r3.trk nd5 st5
    obtain ⟨gc, hgc⟩ := (r3.keep k6 x6).res rel4 hy'
    obtain ⟨gd, hgd⟩ := r4.res rel4 hz
    exact ⟨y', z, gc, gd, w, hgc, hgd, hu, fin_op (g := g2 ++ g4) (by rw [List.append_assoc]; exact nd6) (by rw [List.append_assoc]; exact st6) rel4 q⟩
theorem tG_unN {K : PySem.W.Frag} {F : List Va → Option Va} {rs : Env → Option (List PV × Env)} {σ : L2.St} {H : Hp} {Q : VK} (h : tG K (RV_ K) (unN F rs) σ H Q) : tCB (rSN K F) (tG K (RPs_ K) rs) σ H Q := by
  obtain ⟨env, f, w, env', rel, nd, e, q⟩ := h
  obtain ⟨ps, e1, h1, h2⟩ := bnd_eq e
  simp only [Option.bind_eq_some_iff, Option.map_eq_some_iff] at h2
  obtain ⟨xs, hx, u, hu, h3⟩ := h2
  cases h3
  exact ⟨env, f, ps, _, rel, nd, h1, fun vs H1 f1 g1 rel1 r1 nd1 st1 => ⟨xs, w, r1.res rel1 hx, hu, fin_op nd1 st1 rel1 q⟩⟩
end
end Mn
/-! MnE: calls; the soundness of expressions. -/
namespace Mn
open PySem L2

def RepA (K : PySem.W.Frag) (H : Hp) : List Va → List V → List Addr → Prop
  | [], vs, f => vs = [] ∧ f = []
  | w :: ws, vs, f => ∃ v r g h, vs = v :: r ∧ RepV K H w v g ∧ RepA K H ws r h ∧ f.Perm (g ++ h)
/-- what a def promises, by its evaluator -/
def spF (K : PySem.W.Frag) (F : List Va → Option (Va × List Va)) (n : Nat) : Sp := fun vs H Q _ => vs.length = n ∧ ∃ ws f r us, RepA K H ws vs f ∧ f.Nodup ∧ F ws = some (r, us) ∧
  ∀ v H' g f', RepV K H' r v g → RepA K H' us vs f' → (g ++ f').Nodup → Stp H f H' (g ++ f') → Q v H'
section
variable {K : PySem.W.Frag} {H : Hp} {σ : L2.St}
theorem RepA.len : ∀ {ws : List Va} {vs : List V} {f : List Addr}, RepA K H ws vs f → vs.length = ws.length
  | [], _, _, h => by rw [h.1] <;> rfl
  | w :: ws, _, _, h => by
    obtain ⟨v, r, g, h', e, _, h2, _⟩ := h
    rw [e, List.length_cons, RepA.len h2, List.length_cons]
theorem RepA.trk : ∀ {ws : List Va} {vs : List V} {f : List Addr}, RepA K H ws vs f → ∀ a ∈ f, H a ≠ none
  | [], _, _, h => fun a ha => by rw [h.2] at ha; cases ha
  | w :: ws, _, _, h => fun a ha => by
    obtain ⟨v, r, g, h', e, h1, h2, h3⟩ := h
    rcases List.mem_append.mp (h3.mem_iff.mp ha) with z | z
    · exact h1.trk a z
    · exact RepA.trk h2 a z
theorem RepA.perm : ∀ {ws : List Va} {vs : List V} {f f' : List Addr}, RepA K H ws vs f → f'.Perm f → RepA K H ws vs f'
  | [], _, _, _, h, p => ⟨h.1, by
      rw [h.2] at p
      exact p.eq_nil⟩
  | w :: ws, _, _, _, h, p => by
    obtain ⟨v, r, g, h', e, h1, h2, h3⟩ := h
    exact ⟨v, r, g, h', e, h1, h2, p.trans h3⟩
theorem use_ok {env e1 : Env} {f : List Addr} {i : Nat} {w : Va} (rel : RelE K H env σ f) (e : useS env i = some (w, e1)) : ∃ v g h, σ[i]? = some (some v) ∧ RepV K H w v g ∧ RelE K H e1 σ h ∧ f.Perm (g ++ h) := by
  unfold useS at e
  split at e
  · rename_i y hy
    cases e
    obtain ⟨v, g, h', h1, h2, h3, h4⟩ := rel.out hy
    have e2 : g = [] := h2.1
    subst e2
    exact ⟨v, [], f, h1, h2, rel, .refl _⟩
  · rename_i w' hy hnd
    cases e
    exact rel.out hnd
  · cases e
theorem takeArgs_ok : ∀ {ps : List PV} {vs : List V} {g f : List Addr} {env env' : Env} {ws : List Va}, RPs_ K H σ ps vs g → RelE K H env σ f → takeArgs ps env = some (ws, env') →
    ∃ fa f', RepA K H ws vs fa ∧ RelE K H env' σ f' ∧ (g ++ f).Perm (fa ++ f')
  | [], _, _, f, env, env', ws, h, r, e => by
    simp only [takeArgs, Option.some.injEq, Prod.mk.injEq] at e
    obtain ⟨rfl, rfl⟩ := e
    obtain ⟨rfl, rfl⟩ := h
    exact ⟨[], f, ⟨rfl, rfl⟩, r, .refl _⟩
  | .val w :: ps, _, _, f, env, env', ws, h, r, e => by
    obtain ⟨v, t, g1, g2, rfl, h2, h3, rfl⟩ := h
    obtain ⟨ws', e1, e2, e3⟩ := bnd_eq e
    cases e3
    obtain ⟨fa, f', q1, q2, q3⟩ := takeArgs_ok h3 r e2
    refine ⟨g1 ++ fa, f', ⟨v, t, g1, fa, rfl, h2, q1, .refl _⟩, q2, ?_⟩
    rw [List.append_assoc, List.append_assoc]
    exact q3.append_left g1
  | .slot i :: ps, _, _, f, env, env', ws, h, r, e => by
    obtain ⟨v, t, g1, g2, rfl, ⟨hg1, h2⟩, h3, hg⟩ := h
    subst hg1
    rw [List.nil_append] at hg
    subst hg
    obtain ⟨w, e1, e2, e3⟩ := bnd_eq e
    obtain ⟨ws', e4, e5, e6⟩ := bnd_eq e3
    cases e6
    obtain ⟨v', gw, h', a1, a2, a3, a4⟩ := use_ok r e2
    rw [h2] at a1
    cases a1
    obtain ⟨fa, f', q1, q2, q3⟩ := takeArgs_ok h3 a3 e5
    refine ⟨gw ++ fa, f', ⟨v, t, gw, fa, rfl, a2, q1, .refl _⟩, q2, ?_⟩
    rw [List.append_assoc]
    refine (a4.append_left _).trans ?_
    refine List.Perm.trans ?_ (q3.append_left gw)
    rw [← List.append_assoc, ← List.append_assoc]
    exact List.perm_append_comm.append_right h'
theorem putArgs_ok {H0 : Hp} : ∀ {ps : List PV} {ws us : List Va} {vs : List V} {g0 f f' : List Addr} {env : Env}, RPs_ K H0 σ ps vs g0 → RepA K H us vs f' → RelE K H env σ f → (f' ++ f).Nodup →
    ∃ f2, RelE K H (putArgs ps ws us env) σ f2 ∧ f2.Nodup ∧ ∀ a ∈ f2, a ∈ f' ++ f
  | [], ws, us, vs, g0, f, f', env, h, r, rel, nd => ⟨f, rel, (nodup_app.mp nd).2.1, fun a ha => List.mem_append_right _ ha⟩
  | .val w :: ps, [], us, vs, g0, f, f', env, h, r, rel, nd => ⟨f, rel, (nodup_app.mp nd).2.1, fun a ha => List.mem_append_right _ ha⟩
  | .slot i :: ps, [], us, vs, g0, f, f', env, h, r, rel, nd => ⟨f, rel, (nodup_app.mp nd).2.1, fun a ha => List.mem_append_right _ ha⟩
  | .val w :: ps, w' :: ws, [], vs, g0, f, f', env, h, r, rel, nd => ⟨f, rel, (nodup_app.mp nd).2.1, fun a ha => List.mem_append_right _ ha⟩
  | .slot i :: ps, w' :: ws, [], vs, g0, f, f', env, h, r, rel, nd => by
    cases w' <;> exact ⟨f, rel, (nodup_app.mp nd).2.1, fun a ha => List.mem_append_right _ ha⟩
  | .val w :: ps, w' :: ws, u :: us, vs, g0, f, f', env, h, r, rel, nd => by
    obtain ⟨v, t, g1, g2, rfl, h2, h3, rfl⟩ := h
    obtain ⟨v', t', gu, hu, e, r1, r2, r3⟩ := r
    cases e
    have nd' : (hu ++ f).Nodup := by
      have := (r3.append_right f).nodup_iff.mp nd
      rw [List.append_assoc] at this
      exact (nodup_app.mp this).2.1
    obtain ⟨f2, q1, q2, q3⟩ := putArgs_ok (ws := ws) h3 r2 rel nd'
    refine ⟨f2, q1, q2, fun a ha => ?_⟩
    rcases List.mem_append.mp (q3 a ha) with z | z
    · exact List.mem_append_left _ (r3.mem_iff.mpr (List.mem_append_right _ z))
    · exact List.mem_append_right _ z
  | .slot i :: ps, w' :: ws, u :: us, vs, g0, f, f', env, h, r, rel, nd => by
    obtain ⟨v, t, g1, g2, rfl, ⟨rfl, h2⟩, h3, rfl⟩ := h
    obtain ⟨v', t', gu, hu, e, r1, r2, r3⟩ := r
    cases e
    have nd1 : (gu ++ (hu ++ f)).Nodup := by
      have := (r3.append_right f).nodup_iff.mp nd
      rw [List.append_assoc] at this
      exact this
    have keep : ∃ f2, RelE K H (putArgs ps ws us env) σ f2 ∧ f2.Nodup ∧ ∀ a ∈ f2, a ∈ f' ++ f := by
      obtain ⟨f2, q1, q2, q3⟩ := putArgs_ok (ws := ws) h3 r2 rel (nodup_app.mp nd1).2.1
      refine ⟨f2, q1, q2, fun a ha => ?_⟩
      rcases List.mem_append.mp (q3 a ha) with z | z
      · exact List.mem_append_left _ (r3.mem_iff.mpr (List.mem_append_right _ z))
      · exact List.mem_append_right _ z
    have put : ∃ f2, RelE K H (putArgs ps ws us (env.set i (some u))) σ f2 ∧ f2.Nodup ∧ ∀ a ∈ f2, a ∈ f' ++ f := by
      obtain ⟨gx, hx, x1, x2⟩ := rel.wipe i
      have rel' := RelE.put x1 h2 r1
      have nd2 : (hu ++ (gu ++ hx)).Nodup := by
        have h4 : (gu ++ (hu ++ hx)).Nodup := by
          have h5 := ((x2.append_left hu).append_left gu).nodup_iff.mp nd1
          obtain ⟨a1, a2, a3⟩ := nodup_app.mp h5
          obtain ⟨b1, b2, b3⟩ := nodup_app.mp a2
          obtain ⟨c1, c2, c3⟩ := nodup_app.mp b2
          refine nodup_app.mpr ⟨a1, nodup_app.mpr ⟨b1, c2, fun x hx hy => b3 x hx (List.mem_append_right _ hy)⟩, fun x hx hy => a3 x hx ?_⟩
          rcases List.mem_append.mp hy with z | z
          · exact List.mem_append_left _ z
          · exact List.mem_append_right _ (List.mem_append_right _ z)
        have pp : (hu ++ (gu ++ hx)).Perm (gu ++ (hu ++ hx)) := by
          rw [← List.append_assoc, ← List.append_assoc]
          exact List.perm_append_comm.append_right hx
        exact pp.nodup_iff.mpr h4
      obtain ⟨f2, q1, q2, q3⟩ := putArgs_ok (ws := ws) h3 r2 rel' nd2
      refine ⟨f2, q1, q2, fun a ha => ?_⟩
      rcases List.mem_append.mp (q3 a ha) with z | z
      · exact List.mem_append_left _ (r3.mem_iff.mpr (List.mem_append_right _ z))
      · rcases List.mem_append.mp z with z | z
        · exact List.mem_append_left _ (r3.mem_iff.mpr (List.mem_append_left _ z))
        · exact List.mem_append_right _ (x2.mem_iff.mpr (List.mem_append_right _ z))
    cases w' with
    | d x => exact keep
    | ls xs => exact put
    | dc kvs => exact put
    | dk cs s n => exact put
    | dl cs s => exact put
    | dd cs n s => exact put
    | ll rows => exact put
    | scr ns => exact put
/-- a call, from the operands -/
theorem tG_call {Φ : Nat → List Va → Option (Va × List Va)} {fi n : Nat} {as : Env → Option (List PV × Env)} {H : Hp} {Q : VK} {E : XK} (hn : ∀ ws r us, Φ fi ws = some (r, us) → ws.length = n)
    (h : tG K (RV_ K) (fun env => bnd (as env) fun ps e => callS Φ fi ps e) σ H Q) : tCall (spF K (Φ fi) n) [] E (tG K (RPs_ K) as) σ H Q := by
  obtain ⟨env, f, w, env', rel, nd, e, q⟩ := h
  obtain ⟨ps, e1, h1, h2⟩ := bnd_eq e
  obtain ⟨ws, e2, h3, h4⟩ := bnd_eq h2
  obtain ⟨r, us, h5, h6⟩ := bnd_eq h4
  cases h6
  refine ⟨env, f, ps, e1, rel, nd, h1, fun vs H1 f1 g1 rel1 r1 nd1 st1 => ?_⟩
  obtain ⟨fa, f2, a1, a2, a3⟩ := takeArgs_ok r1 rel1 h3
  have nd2 := a3.nodup_iff.mp nd1
  rw [List.append_nil]
  refine ⟨by rw [a1.len]; exact hn _ _ _ h5, ws, fa, w, us, a1, (nodup_app.mp nd2).1, h5, fun v H' g f' rv ra nd3 st3 => ?_⟩
  have st1' : Stp H f H1 (fa ++ f2) := st1.sub fun a ha => a3.mem_iff.mpr ha
  have nd2' : (f2 ++ fa).Nodup := List.perm_append_comm.nodup_iff.mp nd2
  obtain ⟨nd4, st4, k4, x4⟩ := chain nd2' (st1'.sub fun a ha => List.perm_append_comm.mem_iff.mp ha) a2.trk nd3 st3
  have rel4 := a2.keep k4 x4
  have nd5 : (f' ++ f2).Nodup := by
    obtain ⟨b1, b2, b3⟩ := nodup_app.mp nd4
    obtain ⟨c1, c2, c3⟩ := nodup_app.mp b2
    exact nodup_app.mpr ⟨c2, b1, fun x hx hy => b3 x hy (List.mem_append_right _ hx)⟩
  obtain ⟨f3, q1, q2, q3⟩ := putArgs_ok (ws := ws) r1 ra rel4 nd5
  refine q v H' f3 g q1 rv (nodup_app.mpr ⟨(nodup_app.mp nd3).1, q2, fun x hx hy => ?_⟩) (st4.sub fun a ha => ?_)
  · rcases List.mem_append.mp (q3 x hy) with z | z
    · exact (nodup_app.mp nd3).2.2 x hx z
    · exact (nodup_app.mp nd4).2.2 x z (List.mem_append_left _ hx)
  · rcases List.mem_append.mp ha with z | z
    · exact List.mem_append_right _ (List.mem_append_left _ z)
    · rcases List.mem_append.mp (q3 a z) with z | z
      · exact List.mem_append_right _ (List.mem_append_right _ z)
      · exact List.mem_append_left _ z
end

/-! ### what stands around a body -/
structure Ctx (T : Tab) (N : List Str) (k : Nat) (X : Cx) (sc : Scope) (top : Bool) (io : List Nat) : Prop where
  n : X.N = N
  sc : X.env.scope = sc
  nd : N.Nodup
  calm : X.calm = true
  room : Room k X.A
  xe : X.xe = fun _ _ => False
  fn : top = true → ∀ x, X.fn x = true
  blt : ∀ x : Str, x ∈ T.blts → X.mg x = none
  con : ∀ (g : Nat) (x : Str) (d : D), T.consts[g]? = some (x, d) → ∃ u v, X.mg x = some u ∧ RelV v u ∧ ∀ H, RepD X.K H d v
  fns : ∀ (f : Nat) (x : Str) (d : Df), T.fns[f]? = some (x, d) → ∃ a fd ps, X.mg x = some (.ref a) ∧ PySem.W.keepIn X.K (.ref a) = true ∧ Binds X.K fd ps [] ∧ FnOk X.prog X.w X.K X.mg X.base CX0 k a fd ps (spF X.K (call T k f) d.np)
theorem call_len {T : Tab} {k f : Nat} {x : Str} {d : Df} (h : T.fns[f]? = some (x, d)) : ∀ ws r us, call T k f ws = some (r, us) → ws.length = d.np := by
  intro ws r us e
  cases k with
  | zero => simp [call] at e
  | succ k =>
    unfold call at e
    rw [h] at e
    cases d with
    | code fn =>
      simp only at e
      split at e
      · assumption
      · cases e
    | prim n p =>
      simp only at e
      split at e
      · rename_i hh
        exact hh.1
      · cases e
theorem boot_bn (f : BN) : bootBuiltins (bnName f : Str) = some (bnVal f) := by cases f <;> decide +kernel
theorem bn_ne (f : BN) : (bnName f : Str) ≠ ("__name__" : Str) ∧ ((bnName f : Str) == ("__debug__" : Str)) = false := by cases f <;> decide +kernel
theorem boot_tn (t : TN) : bootBuiltins (tnName t : Str) = some (.type (tnName t)) := by cases t <;> decide +kernel
theorem tn_ne (t : TN) : (tnName t : Str) ≠ ("__name__" : Str) ∧ ((tnName t : Str) == ("__debug__" : Str)) = false := by cases t <;> decide +kernel
theorem boot_isi : bootBuiltins ("isinstance" : Str) = some (.builtin "isinstance") := by decide +kernel
end Mn
/-! MnF: targets, walks, comprehensions. -/
namespace Mn
open PySem L2
section
variable {K : PySem.W.Frag} {H : Hp}
theorem set_big {α : Type} {l : List α} {i : Nat} {x : α} (h : ¬ i < l.length) : l.set i x = l := by
  apply List.ext_getElem?
  intro j
  by_cases hj : i = j
  · subst hj
    rw [List.getElem?_eq_none (by simpa using h), List.getElem?_eq_none (by simpa using h)]
  · rw [List.getElem?_set_ne hj]
/-- a name given a new value -/
theorem RelE.asg {env : Env} {σ : L2.St} {f : List Addr} {i : Nat} {w : Va} {v : V} {g : List Addr} (rel : RelE K H env σ f) (a : RepV K H w v g) (nd : (g ++ f).Nodup) :
    ∃ f', RelE K H (env.set i (some w)) (σ.set i (some v)) f' ∧ f'.Nodup ∧ ∀ b ∈ f', b ∈ g ++ f := by
  by_cases hi : i < env.length
  · obtain ⟨g0, h, h1, h2⟩ := rel.wipe i
    have nd' : (g ++ h).Nodup := by
      have := ((h2.append_left g).nodup_iff.mp nd)
      obtain ⟨b1, b2, b3⟩ := nodup_app.mp this
      exact nodup_app.mpr ⟨b1, (nodup_app.mp b2).2.1, fun x hx hy => b3 x hx (List.mem_append_right _ hy)⟩
    refine ⟨g ++ h, RelE.put' hi h1 a, nd', fun b hb => ?_⟩
    rcases List.mem_append.mp hb with z | z
    · exact List.mem_append_left _ z
    · exact List.mem_append_right _ (h2.mem_iff.mpr (List.mem_append_right _ z))
  · have hl := rel.len
    refine ⟨f, ?_, (nodup_app.mp nd).2.1, fun b hb => List.mem_append_right _ hb⟩
    rw [set_big hi, set_big (by omega)]
    exact rel
theorem RelE.wiped {env : Env} {σ : L2.St} : ∀ (vs : List Nat) {f : List Addr}, RelE K H env σ f → f.Nodup → ∃ f', RelE K H (wipeS env vs) (L2.wipe σ vs) f' ∧ f'.Nodup ∧ ∀ b ∈ f', b ∈ f
  | [], f, h, nd => ⟨f, h, nd, fun _ hb => hb⟩
  | v :: vs, f, h, nd => by
    obtain ⟨f1, h1, n1, m1⟩ := RelE.wiped vs h nd
    obtain ⟨g, f2, h2, p2⟩ := h1.wipe v
    have n2 := p2.nodup_iff.mp n1
    exact ⟨f2, h2.slot none, (nodup_app.mp n2).2.1, fun b hb => m1 b (p2.mem_iff.mpr (List.mem_append_right _ hb))⟩
theorem RelE.unslot {env : Env} {σ : L2.St} {f : List Addr} {i : Nat} (h : RelE K H (env.set i none) (σ.set i none) f) : RelE K H (env.set i none) σ f := by
  by_cases hi : i < σ.length
  · have := RelE.slot (i := i) (σ[i]) h
    have e : (σ.set i none).set i σ[i] = σ := by
      apply List.ext_getElem?
      intro j
      by_cases hj : i = j
      · subst hj
        rw [List.getElem?_set_self (by simpa using hi), List.getElem?_eq_getElem hi]
      · rw [List.getElem?_set_ne hj, List.getElem?_set_ne hj]
    rwa [e] at this
  · rwa [set_big hi] at h
theorem set_none_none (env : Env) (i : Nat) : (env.set i none).set i none = env.set i none := by
  rw [List.set_set]
theorem RelE.unwipe {env : Env} {f : List Addr} : ∀ (vs : List Nat) {σ : L2.St}, RelE K H (wipeS env vs) (L2.wipe σ vs) f → RelE K H (wipeS env vs) σ f
  | [], σ, h => h
  | v :: vs, σ, h => by
    have h1 : RelE K H ((wipeS env vs).set v none) (L2.wipe σ vs) f := RelE.unslot h
    have key : ∀ (us : List Nat) (E : Env) (τ : L2.St), (∀ u ∈ us, getS E u = none) → RelE K H E (L2.wipe τ us) f → RelE K H E τ f := by
      intro us
      induction us with
      | nil => intro E τ _ q; exact q
      | cons u us ih =>
        intro E τ hE q
        refine ih E τ (fun x hx => hE x (List.mem_cons_of_mem _ hx)) ?_
        have e : E.set u none = E := by
          apply List.ext_getElem?
          intro j
          by_cases hj : u = j
          · subst hj
            by_cases hl : u < E.length
            · rw [List.getElem?_set_self hl]
              have := hE u List.mem_cons_self
              simp only [getS, List.getElem?_eq_getElem hl] at this
              rw [List.getElem?_eq_getElem hl]
              simpa using this.symm
            · rw [List.getElem?_eq_none (by simpa using hl), List.getElem?_eq_none (by simpa using hl)]
          · rw [List.getElem?_set_ne hj]
        have q' : RelE K H (E.set u none) ((L2.wipe τ us).set u none) f := by
          rw [e]
          exact q
        have := RelE.unslot q'
        rwa [e] at this
    refine key vs _ σ (fun u hu => ?_) h1
    have gone : ∀ (us : List Nat) (E : Env), u ∈ us → getS (wipeS E us) u = none := by
      intro us
      induction us with
      | nil => intro E hh; cases hh
      | cons y ys ih =>
        intro E hh
        show getS ((wipeS E ys).set y none) u = none
        by_cases hy : y = u
        · subst hy
          by_cases hl : y < (wipeS E ys).length
          · simp [getS, List.getElem?_set_self hl]
          · rw [set_big hl]
            simp [getS, List.getElem?_eq_none (by simpa using hl)]
        · have hm : u ∈ ys := (List.mem_cons.mp hh).resolve_left (fun z => hy z.symm)
          have := ih E hm
          simp only [getS] at this ⊢
          rw [List.getElem?_set_ne hy]
          exact this
    have := gone vs env hu
    show getS ((wipeS env vs).set v none) u = none
    by_cases hv : v = u
    · subst hv
      by_cases hl : v < (wipeS env vs).length
      · simp [getS, List.getElem?_set_self hl]
      · rw [set_big hl]
        exact this
    · simp only [getS] at this ⊢
      rw [List.getElem?_set_ne hv]
      exact this

/-! ### targets -/
def gMany (K : PySem.W.Frag) : List Nat → TGs
  | [] => gNil
  | i :: is => gCons (gName i) (gMany K is)
def gT (K : PySem.W.Frag) : Tg → TG
  | .one i => gName i
  | .many is => gTup K is.length (gMany K is)
def tgL : Tg → List Nat
  | .one i => [i]
  | .many is => is
theorem tgIn_of {tg : Tg} {vs : List Nat} (h : tgIn tg vs = true) : ∀ i ∈ tgL tg, i ∈ vs := by
  cases tg with
  | one i =>
    intro j hj
    simp only [tgL, List.mem_singleton] at hj
    subst hj
    simpa [tgIn] using h
  | many is =>
    intro j hj
    simp only [tgIn, List.all_eq_true, decide_eq_true_eq] at h
    exact h j hj
theorem wipe_set {σ : L2.St} {x : Option V} {i : Nat} : ∀ {vs : List Nat}, i ∈ vs → wipe (σ.set i x) vs = wipe σ vs
  | v :: vs, h => by
    unfold wipe
    by_cases hv : v = i
    · subst hv
      have key : ∀ us : List Nat, (wipe (σ.set v x) us).set v none = (wipe σ us).set v none := by
        intro us
        induction us with
        | nil => show (σ.set v x).set v none = σ.set v none; rw [List.set_set]
        | cons u us ih =>
          unfold wipe
          by_cases hu : u = v
          · subst hu
            rw [List.set_set, List.set_set]
            exact ih
          · rw [List.set_comm _ _ hu, ih, List.set_comm _ _ (fun z => hu z.symm)]
      exact key vs
    · rw [wipe_set ((List.mem_cons.mp h).resolve_left fun z => hv z.symm)]
theorem many_ok : ∀ {is : List Nat} {xs : List D} {ws : List V} {env : Env} {σ : L2.St} {f : List Addr} {R : L2.St → Hp → Prop}, is.length = xs.length → RepDs K H xs ws → RelE K H env σ f → f.Nodup →
    (∀ σ2 f2, RelE K H ((is.zip xs).foldl (fun e p => e.set p.1 (some (.d p.2))) env) σ2 f2 → f2.Nodup → (∀ a ∈ f2, a ∈ f) → (∀ vs : List Nat, (∀ i ∈ is, i ∈ vs) → wipe σ2 vs = wipe σ vs) → (∀ j, j ∉ is → σ2[j]? = σ[j]?) → R σ2 H) → gMany K is ws σ H R
  | [], [], ws, env, σ, f, R, hl, r, rel, nd, q => by
    simp only [RepDs] at r
    exact ⟨r, q σ f rel nd (fun _ h => h) (fun _ _ => rfl) fun _ _ => rfl⟩
  | i :: is, x :: xs, ws, env, σ, f, R, hl, r, rel, nd, q => by
    simp only [RepDs] at r
    obtain ⟨v, t, rfl, r1, r2⟩ := r
    refine ⟨v, t, rfl, ?_⟩
    show gMany K is t (σ.set i (some v)) H R
    obtain ⟨f1, rel1, n1, m1⟩ := RelE.asg (i := i) rel (mk_d r1) (by simpa using nd)
    refine many_ok (by simpa using hl) r2 rel1 n1 fun σ2 f2 rel2 n2 m2 w2 k2 => ?_
    refine q σ2 f2 rel2 n2 (fun a ha => by simpa using m1 a (m2 a ha)) (fun vs hvs => ?_) fun j hj => ?_
    · rw [w2 vs fun j hj => hvs j (List.mem_cons_of_mem _ hj), wipe_set (hvs i List.mem_cons_self)]
    · rw [k2 j fun z => hj (List.mem_cons_of_mem _ z), List.getElem?_set_ne (fun z => hj (by rw [z]; exact List.mem_cons_self))]
  | [], x :: xs, _, _, _, _, _, hl, _, _, _, _ => by simp at hl
  | i :: is, [], _, _, _, _, _, hl, _, _, _, _ => by simp at hl
theorem tg_ok {tg : Tg} {x : D} {v : V} {env env' : Env} {σ : L2.St} {f : List Addr} {R : L2.St → Hp → Prop} (e : tgS tg x env = some env') (r : RepD K H x v) (rel : RelE K H env σ f) (nd : f.Nodup)
    (q : ∀ σ2 f2, RelE K H env' σ2 f2 → f2.Nodup → (∀ a ∈ f2, a ∈ f) → (∀ vs : List Nat, (∀ i ∈ tgL tg, i ∈ vs) → wipe σ2 vs = wipe σ vs) → (∀ j, j ∉ tgL tg → σ2[j]? = σ[j]?) → R σ2 H) : gT K tg v σ H R := by
  cases tg with
  | one i =>
    simp only [tgS, Option.some.injEq] at e
    subst e
    obtain ⟨f1, rel1, n1, m1⟩ := RelE.asg (i := i) rel (mk_d r) (by simpa using nd)
    exact q _ f1 rel1 n1 (fun a ha => by simpa using m1 a ha) (fun vs hvs => wipe_set (hvs i (by simp [tgL]))) fun j hj => List.getElem?_set_ne fun z => hj (by simp [tgL, z])
  | many is =>
    cases x with
    | tup xs =>
      simp only [tgS] at e
      split at e
      · rename_i hl
        simp only [Option.some.injEq] at e
        subst e
        simp only [RepD] at r
        obtain ⟨a, vs, e1, t1, r1⟩ := r
        exact ⟨a, vs, e1, t1.sq, by rw [r1.len, hl], many_ok hl r1 rel nd q⟩
      · cases e
    | _ => simp [tgS] at e

/-! ### walks -/
def WalksI (K : PySem.W.Frag) (J : It) (xs : List D) (H0 : Hp) : Prop := ∀ H, Ext H0 H → (∀ i, i < xs.length → J.go i H ∧ ∀ v H', J.yld i H v H' → ∃ x, xs[i]? = some x ∧ RepD K H' x v ∧ New H H' []) ∧ ∀ i, xs.length ≤ i → J.stop i H
def tI (K : PySem.W.Frag) (run : Env → Option (List D × Env)) : TI := fun σ H R => ∃ env f xs env', RelE K H env σ f ∧ f.Nodup ∧ run env = some (xs, env') ∧ ∀ J H' f', RelE K H' env' σ f' → f'.Nodup → Stp H f H' f' → WalksI K J xs H' → R J H'
theorem walks_list {a : Addr} {xs : List D} {vs : List V} {H : Hp} (h : FzL K H a vs) (r : RepDs K H xs vs) : WalksI K (Itl K a) xs H := by
  intro H2 e
  have h2 := (e.fzl h).sq
  have hl := r.len
  refine ⟨fun i hi => ⟨⟨vs, vs[i]'(by omega), h2, by simp [List.getElem?_eq_getElem (show i < vs.length by omega)]⟩, fun v H' y => ?_⟩, fun i hi => ⟨vs, h2, by omega⟩⟩
  obtain ⟨rfl, y⟩ := y
  have hx : xs[i]? = some xs[i] := List.getElem?_eq_getElem hi
  obtain ⟨v', e1, e2⟩ := r.get hx
  have := y vs h2
  rw [e1] at this
  cases this
  exact ⟨xs[i], hx, e2.ext e, New.refl _⟩
theorem walks_tup {a : Addr} {xs : List D} {vs : List V} {H : Hp} (h : SqT K H a vs) (r : RepDs K H xs vs) : WalksI K (Itt K a) xs H := by
  intro H2 e
  have h2 := e.rdt h
  have hl := r.len
  refine ⟨fun i hi => ⟨⟨vs, vs[i]'(by omega), h2, by simp [List.getElem?_eq_getElem (show i < vs.length by omega)]⟩, fun v H' y => ?_⟩, fun i hi => ⟨vs, h2, by omega⟩⟩
  obtain ⟨rfl, y⟩ := y
  have hx : xs[i]? = some xs[i] := List.getElem?_eq_getElem hi
  obtain ⟨v', e1, e2⟩ := r.get hx
  have := y vs h2
  rw [e1] at this
  cases this
  exact ⟨xs[i], hx, e2.ext e, New.refl _⟩
theorem walks_str {s : List Nat} {H : Hp} : WalksI K (Its (stx s)) (s.map fun c => D.str [c]) H := by
  intro H2 e
  refine ⟨fun i hi => ⟨by show i < (stx s).cps.size; simpa [stx] using hi, fun v H' y => ?_⟩, fun i hi => by show (stx s).cps.size ≤ i; simpa [stx] using hi⟩
  obtain ⟨rfl, c, hc, rfl⟩ := y
  have hc' : s[i]? = some c := by simpa [stx] using hc
  refine ⟨.str [c], by rw [List.getElem?_map, hc'] <;> rfl, by simp [RepD, stx], New.refl _⟩
theorem walks_keys {b : Addr} {o : Obj} {kws : List (Key × V)} {ks : List (List Nat)} {H : Hp} (h : H b = some (.frz o (.dK kws))) (hk : kws.map (·.1) = ks.map (fun k => (Sum.inr (stx k) : Key))) : WalksI K (Itk b o kws) (ks.map .str) H := by
  intro H2 e
  have h2 := e.2 _ _ _ h
  have hl : kws.length = ks.length := by
    have := congrArg List.length hk
    simpa using this
  refine ⟨fun i hi => ⟨⟨h2, by rw [List.length_map] at hi; omega⟩, fun v H' y => ?_⟩, fun i hi => ⟨h2, by rw [List.length_map] at hi; omega⟩⟩
  obtain ⟨rfl, kk, vv, hkv, rfl⟩ := y
  rw [List.length_map] at hi
  have h3 : (kws.map (·.1))[i]? = some kk := by rw [List.getElem?_map, hkv]; rfl
  rw [hk, List.getElem?_map, List.getElem?_eq_getElem hi] at h3
  have h4 : kk = Sum.inr (stx ks[i]) := (Option.some.inj h3).symm
  refine ⟨.str ks[i], by rw [List.getElem?_map, List.getElem?_eq_getElem hi]; rfl, ?_, New.refl _⟩
  rw [h4]
  simp only [RepD]
  rfl
theorem walks_range {lo : Int} {n : Nat} {H : Hp} : WalksI K (Itr lo n) (rangeL lo n) H := by
  intro H2 e
  have hl : (rangeL lo n).length = n := by simp [rangeL]
  refine ⟨fun i hi => ⟨by show i < n; omega, fun v H' y => ?_⟩, fun i hi => by show n ≤ i; omega⟩
  obtain ⟨rfl, rfl⟩ := y
  refine ⟨.int (lo + i), ?_, by simp [RepD], New.refl _⟩
  simp only [rangeL, List.getElem?_map, List.getElem?_range (show i < n by omega)]
  rfl
end
end Mn
/-! MnG: the soundness of expressions. -/
namespace Mn
open PySem L2

def evT (Φ : Nat → List Va → Option (Va × List Va)) (Γ : Nat → Option D) (c : CE) (env : Env) : Option (Bool × Env) := bnd (evE Φ Γ c env) fun w e => (asB w).map fun b => (b, e)
section
variable {T : Tab} {N : List Str} {k : Nat}
def Sn (T : Tab) (N : List Str) (k : Nat) (c : CE) : Prop := ∀ {X : Cx} {sc : Scope} {top : Bool} {io : List Nat} {e : Expr}, Ctx T N k X sc top io → mE T N sc c e = true →
  PE X e (tG X.K (RV_ X.K) (evE (call T k) T.con c)) ∧ (tst c e = true → PT X e (tG X.K RB_ (evT (call T k) T.con c)))
def SnL (T : Tab) (N : List Str) (k : Nat) (as : CEs) : Prop := ∀ {X : Cx} {sc : Scope} {top : Bool} {io : List Nat} {xs : List Expr}, Ctx T N k X sc top io → mEs T N sc as xs = true →
  PA X xs (tG X.K (RPs_ X.K) (evPs (call T k) T.con as)) ∧ PA X xs (tG X.K (RDs_ X.K) (evFs (call T k) T.con as)) ∧
  (xs ≠ [] → ∀ pos, PE X (.BoolOp .And xs pos) (tG X.K (RV_ X.K) (evAnd (call T k) T.con as)) ∧ PE X (.BoolOp .Or xs pos) (tG X.K (RV_ X.K) (evOr (call T k) T.con as)) ∧
    (tsts as xs = true → PW X (.BoolOp .And xs pos) (tG X.K RB_ fun env => bnd (evAnd (call T k) T.con as env) fun w e => (asB w).map fun b => (b, e)) ∧
      PW X (.BoolOp .Or xs pos) (tG X.K RB_ fun env => bnd (evOr (call T k) T.con as env) fun w e => (asB w).map fun b => (b, e)))) ∧
  (cndB as xs = true → PTs X xs (tG X.K RB_ (evCs (call T k) T.con as)))
def SnO (T : Tab) (N : List Str) (k : Nat) (o : CO) : Prop := ∀ {X : Cx} {sc : Scope} {top : Bool} {io : List Nat} {x : Option Expr}, Ctx T N k X sc top io → mO T N sc o x = true → PO X x (tG X.K RO_ (evO (call T k) T.con o))
def SnI (T : Tab) (N : List Str) (k : Nat) (it : CI) : Prop := ∀ {X : Cx} {sc : Scope} {top : Bool} {io : List Nat} {tg e : Expr}, Ctx T N k X sc top io → mI T N sc it tg e = true → PI X tg e (tI X.K (evI (call T k) T.con it))

/-! ### small bridges -/
theorem asB_of {w : Va} {b : Bool} (h : asB w = some b) : w = .d (.bl b) := by
  unfold asB at h
  split at h <;> cases h
  rfl
theorem asI_of {w : Va} {b : Int} (h : asI w = some b) : w = .d (.int b) := by
  unfold asI at h
  split at h <;> cases h
  rfl
theorem tG_T {K : PySem.W.Frag} {run : Env → Option (Va × Env)} {σ : L2.St} {H : Hp} {Q : Bool → Hp → Prop} (h : tG K RB_ (fun env => bnd (run env) fun w e => (asB w).map fun b => (b, e)) σ H Q) :
    tG K (RV_ K) run σ H (fun x H1 => ∃ c, x = .bl c ∧ Q c H1) := by
  obtain ⟨env, f, b, env', rel, nd, e, q⟩ := h
  obtain ⟨w, e1, h1, h2⟩ := bnd_eq e
  simp only [Option.map_eq_some_iff] at h2
  obtain ⟨b', h3, h4⟩ := h2
  cases h4
  have := asB_of h3
  subst this
  refine ⟨env, f, _, _, rel, nd, h1, fun v H' f' g a r nd' st => ⟨b, rep_bl r, q b H' f' [] a ⟨rfl, rfl⟩ ?_ ?_⟩⟩
  · have : g = [] := r.1
    subst this
    exact nd'
  · have : g = [] := r.1
    subst this
    exact st
theorem pt_plain {X : Cx} {e : Expr} {run : Env → Option (Va × Env)} (h : PE X e (tG X.K (RV_ X.K) run)) (p : plainT e = true) : PT X e (tG X.K RB_ fun env => bnd (run env) fun w e => (asB w).map fun b => (b, e)) :=
  PT.imp (pt_val h (plain_test p X.env)) fun σ H Q q => tG_T q
theorem vac {X : Cx} {e : Expr} {α : Type} {R : Hp → L2.St → α → V → List Addr → Prop} {run : Env → Option (α × Env)} (h : ∀ env, run env = none) : PE X e (tG X.K R run) := ⟨fun pins s σ H Q I ⟨env, f, a, env', rel, nd, e, q⟩ => by
  rw [h env] at e
  cases e⟩
theorem back_any {pos : Pos} {env : PySem.Env} : ∀ {xs : List Expr}, (∀ x ∈ xs, plainX x = true) → (backTo pos (starEach xs env)).any (·.1) = false
  | [], _ => rfl
  | x :: xs, h => by
    rw [plain_star (h x List.mem_cons_self)]
    have ih := back_any (pos := pos) (env := env) (xs := xs) fun y hy => h y (List.mem_cons_of_mem _ hy)
    simp only [backTo, List.map_cons, List.any_cons] at ih ⊢
    rw [ih]
    rfl
theorem back_all {pos : Pos} {env : PySem.Env} : ∀ {xs : List Expr}, (∀ x ∈ xs, plainX x = true) → (backTo pos (starEach xs env)).all (fun x => !x.1) = true
  | [], _ => rfl
  | x :: xs, h => by
    rw [plain_star (h x List.mem_cons_self)]
    have ih := back_all (pos := pos) (env := env) (xs := xs) fun y hy => h y (List.mem_cons_of_mem _ hy)
    simp only [backTo, List.map_cons, List.all_cons] at ih ⊢
    rw [ih]
    rfl
theorem mEs_plain {sc : Scope} : ∀ {as : CEs} {xs : List Expr}, mEs T N sc as xs = true → ∀ x ∈ xs, plainX x = true
  | .nil, [], _ => fun x hx => nomatch hx
  | .nil, _ :: _, h => by simp [mEs] at h
  | .cons a as, [], h => by simp [mEs] at h
  | .cons a as, x :: xs, h => by
    simp only [mEs, Bool.and_eq_true] at h
    intro y hy
    rcases List.mem_cons.mp hy with rfl | hy
    · exact h.1.1
    · exact mEs_plain h.2 y hy
section
variable {X : Cx} {sc : Scope} {top : Bool} {io : List Nat} {e : Expr} (C : Ctx T N k X sc top io)
include C
theorem Ctx.hu : X.A.units + 65 < cLine := by have := C.room.un; omega
theorem var_of {i : Nat} (h : mE T N sc (.var i) e = true) : ∃ x p, e = .Name x p ∧ PE X (.Name x p) (tVar i) ∧ N[i]? = some x := by
  simp only [mE] at h
  cases hv : vName e with
  | none => rw [hv] at h; cases h
  | some x =>
    rw [hv] at h
    simp only [Bool.and_eq_true, decide_eq_true_eq] at h
    obtain ⟨⟨h1, h2⟩, h3⟩ := h
    obtain ⟨p, rfl⟩ := vName_of hv
    obtain ⟨n1, n2, _⟩ := okN_of h3
    exact ⟨x, p, rfl, pe_var (by rw [C.n]; exact h1) (by rw [C.sc]; exact visB_of h2) n1 n2, h1⟩
theorem glb_of {x : Str} (h : glbB sc x = true) : Gl X x := by
  show X.env.scope.names.lookup x = _
  rw [C.sc]
  exact glbB_of h
theorem blt_of {x : Str} {s : String} (h : bltB T sc x s = true) : x = (s : Str) ∧ X.mg x = none ∧ Gl X x := by
  simp only [bltB, Bool.and_eq_true, decide_eq_true_eq] at h
  obtain ⟨⟨rfl, h2⟩, h3⟩ := h
  exact ⟨rfl, C.blt _ h2, glb_of C h3⟩
theorem op_of {c : CE} (h : mE T N sc c e = true) (s : Sn T N k c) : PE X e (tG X.K (RP_ X.K) (opnd c (evE (call T k) T.con c))) := by
  by_cases hc : ∃ i, c = .var i
  · obtain ⟨i, rfl⟩ := hc
    obtain ⟨x, p, rfl, h1, _⟩ := var_of C h
    exact pe_slot h1 _
  · exact opnd_val (s C h).1 fun i z => hc ⟨i, z⟩
theorem fz_of {c : CE} (h : mE T N sc c e = true) (s : Sn T N k c) : PE X e (tG X.K (RD_ X.K) (fopn c (evE (call T k) T.con c))) := by
  by_cases hc : ∃ i, c = .var i
  · obtain ⟨i, rfl⟩ := hc
    obtain ⟨x, p, rfl, h1, _⟩ := var_of C h
    exact PE.imp (pe_fzn h1) fun σ H Q q => q
  · exact fopn_val (s C h).1 fun i z => hc ⟨i, z⟩
end
theorem c_var (i : Nat) : Sn T N k (.var i) := by
  intro X sc top io e C h
  obtain ⟨x, p, rfl, h1, _⟩ := var_of C h
  have z : PE X (.Name x p) (tG X.K (RV_ X.K) (evE (call T k) T.con (.var i))) := PE.imp (pe_use h1) fun σ H Q ⟨env, f, a, env', rel, nd, e, q⟩ => ⟨env, f, a, env', rel, nd, by rw [evE] at e; exact e, q⟩
  exact ⟨z, fun _ => pt_plain z rfl⟩
theorem tG_pure {K : PySem.W.Frag} {run : Env → Option (Va × Env)} {σ : L2.St} {H : Hp} {Q : VK} {x : D} {v : V} (hr : ∀ env, run env = some (.d x, env)) (hv : RepD K H x v) (h : tG K (RV_ K) run σ H Q) : Q v H := by
  obtain ⟨env, f, a, env', rel, nd, e, q⟩ := h
  rw [hr] at e
  cases e
  exact q v H f [] rel (mk_d hv) nd (Stp.refl H f)
theorem c_glb (g : Nat) : Sn T N k (.glb g) := by
  intro X sc top io e C h
  simp only [mE] at h
  split at h
  · rename_i x y d hv hc
    simp only [Bool.and_eq_true, decide_eq_true_eq] at h
    obtain ⟨⟨rfl, h2⟩, h3⟩ := h
    obtain ⟨p, rfl⟩ := vName_of hv
    obtain ⟨u, v, m1, m2, m3⟩ := C.con g x d hc
    have z : PE X (.Name x p) (tG X.K (RV_ X.K) (evE (call T k) T.con (.glb g))) := PE.imp (pe_glob (glb_of C h2) m1 m2 (okN_of h3).1) fun σ H Q q => tG_pure (x := d) (fun env => by
      rw [evE]
      simp only [Tab.con, hc, Option.map_some]) (m3 H) q
    exact ⟨z, fun _ => pt_plain z rfl⟩
  · cases h
theorem c_lit (x : D) : Sn T N k (.lit x) := by
  intro X sc top io e C h
  simp only [mE] at h
  cases hv : vConst e with
  | none => rw [hv] at h; cases h
  | some c =>
    rw [hv] at h
    obtain ⟨n, p, rfl⟩ := vConst_of hv
    have hr : ∀ env, evE (call T k) T.con (.lit x) env = some (.d x, env) := fun env => by rw [evE]
    have z : PE X (.Constant c n p) (tG X.K (RV_ X.K) (evE (call T k) T.con (.lit x))) := by
      simp only at h
      unfold litB at h
      split at h
      · simp only [decide_eq_true_eq] at h
        subst h
        exact PE.imp pe_int fun σ H Q q => tG_pure hr (by simp [RepD]) q
      · have := eq_of_beq h
        subst this
        exact PE.imp pe_bl fun σ H Q q => tG_pure hr (by simp [RepD]) q
      · exact PE.imp pe_non fun σ H Q q => tG_pure hr (by simp [RepD]) q
      · simp only [decide_eq_true_eq] at h
        subst h
        exact PE.imp pe_str fun σ H Q q => tG_pure hr (by simp [RepD]) q
      · cases h
    exact ⟨z, fun _ => pt_plain z rfl⟩
theorem c_neg {a : CE} (sa : Sn T N k a) : Sn T N k (.neg a) := by
  intro X sc top io e C h
  simp only [mE] at h
  split at h
  · rename_i x hv
    obtain ⟨p, rfl⟩ := vUn_of hv
    have z : PE X (.UnaryOp .USub x p) (tG X.K (RV_ X.K) (evE (call T k) T.con (.neg a))) := PE.imp (pe_un un_negS (op_of C h sa)) fun σ H Q q => tG_un1 (by
      obtain ⟨env, f, w, env', rel, nd, e, q⟩ := q
      exact ⟨env, f, w, env', rel, nd, by rw [evE] at e; exact e, q⟩)
    exact ⟨z, fun t => by simp [tst, plainT] at t⟩
  · cases h
theorem c_bin {o : Operator} {a b : CE} (sa : Sn T N k a) (sb : Sn T N k b) : Sn T N k (.bin o a b) := by
  intro X sc top io e C h
  simp only [mE] at h
  split at h
  · rename_i x p y hv
    simp only [Bool.and_eq_true, decide_eq_true_eq] at h
    obtain ⟨⟨rfl, ha⟩, hb⟩ := h
    obtain ⟨q, rfl⟩ := vBin_of hv
    have z : PE X (.BinOp x p y q) (tG X.K (RV_ X.K) (evE (call T k) T.con (.bin p a b))) := PE.imp (pe_op (op_bin p) (op_of C ha sa) (op_of C hb sb)) fun σ H Q q => tG_un2 (by
      obtain ⟨env, f, w, env', rel, nd, e, q⟩ := q
      exact ⟨env, f, w, env', rel, nd, by rw [evE] at e; exact e, q⟩)
    exact ⟨z, fun _ => pt_plain z rfl⟩
  · cases h
theorem c_cmp {o : CmpOp} {a b : CE} (sa : Sn T N k a) (sb : Sn T N k b) : Sn T N k (.cmp o a b) := by
  intro X sc top io e C h
  simp only [mE] at h
  split at h
  · rename_i x p y hv
    simp only [Bool.and_eq_true, decide_eq_true_eq] at h
    obtain ⟨⟨⟨rfl, hp⟩, ha⟩, hb⟩ := h
    obtain ⟨q, rfl⟩ := vCmp1_of hv
    have fw : ∀ σ H (Q : VK), tG X.K (RV_ X.K) (evE (call T k) T.con (.cmp p a b)) σ H Q → tOp (rS2 X.K (cmpS p)) (tG X.K (RP_ X.K) (opnd a (evE (call T k) T.con a))) (tG X.K (RP_ X.K) (opnd b (evE (call T k) T.con b))) σ H Q := fun σ H Q q => tG_un2 (by
      obtain ⟨env, f, w, env', rel, nd, e, q⟩ := q
      exact ⟨env, f, w, env', rel, nd, by rw [evE] at e; exact e, q⟩)
    refine ⟨PE.imp (pe_cmpR (op_cmp C.hu p) (op_of C ha sa) (op_of C hb sb) (plain_mark hp p)) fw, fun _ => ?_⟩
    exact PT.imp (pt_cmpR (op_cmp C.hu p) (op_of C ha sa) (op_of C hb sb) (plain_mark hp p)) fun σ H Q q => fw _ _ _ (tG_T q)
  · cases h
theorem c_cmp2 {o r : CmpOp} {a b c : CE} (sa : Sn T N k a) (sb : Sn T N k b) (sc' : Sn T N k c) : Sn T N k (.cmp2 o r a b c) := by
  intro X sc top io e C h
  simp only [mE] at h
  split at h
  · rename_i x p p' y w hv
    simp only [Bool.and_eq_true, decide_eq_true_eq] at h
    obtain ⟨⟨⟨⟨⟨rfl, rfl⟩, hp⟩, ha⟩, hb⟩, hc⟩ := h
    obtain ⟨q, rfl⟩ := vCmp2_of hv
    have fw : ∀ σ H (Q : VK), tG X.K (RV_ X.K) (evE (call T k) T.con (.cmp2 p p' a b c)) σ H Q → tChain (rS2 X.K (cmpS p)) (rS2 X.K (cmpS p')) (tG X.K (RP_ X.K) (opnd a (evE (call T k) T.con a))) (tG X.K (RP_ X.K) (opnd b (evE (call T k) T.con b))) (tG X.K (RP_ X.K) (opnd c (evE (call T k) T.con c))) σ H Q := fun σ H Q q => tG_un3 (by
      obtain ⟨env, f, w, env', rel, nd, e, q⟩ := q
      exact ⟨env, f, w, env', rel, nd, by rw [evE] at e; exact e, q⟩)
    have hm : lastMarks [p, p'] [y, w] = false := by
      show behindInMarks p' w = false
      exact plain_mark hp p'
    refine ⟨PE.imp (pe_chain (op_cmp C.hu p) (op_cmp C.hu p') (op_of C ha sa) (op_of C hb sb) (op_of C hc sc') hm) fw, fun _ => ?_⟩
    exact PT.imp (pt_chain (op_cmp C.hu p) (op_cmp C.hu p') (op_of C ha sa) (op_of C hb sb) (op_of C hc sc') hm) fun σ H Q q => fw _ _ _ (tG_T q)
  · cases h
theorem c_not {a : CE} (sa : Sn T N k a) : Sn T N k (.not a) := by
  intro X sc top io e C h
  simp only [mE] at h
  split at h
  · rename_i x hv
    obtain ⟨p, rfl⟩ := vUn_of hv
    refine ⟨PE.imp (pe_not (sa C h).1) fun σ H Q q => ?_, fun t => ?_⟩
    · obtain ⟨env, f, w, env', rel, nd, e, q⟩ := q
      rw [evE] at e
      obtain ⟨w', e1, h1, h2⟩ := bnd_eq e
      simp only [Option.map_eq_some_iff] at h2
      obtain ⟨b, h3, h4⟩ := h2
      cases h4
      have := asB_of h3
      subst this
      refine ⟨env, f, _, _, rel, nd, h1, fun v H' f' g a r nd' st => ⟨b, rep_bl r, ?_⟩⟩
      have : g = [] := r.1
      subst this
      exact q _ H' f' [] a (mk_bl _) nd' st
    · have t' : tst a x = true := by simpa [tst, vUn] using t
      refine PT.imp (pt_not ((sa C h).2 t')) fun σ H Q q => ?_
      obtain ⟨env, f, b, env', rel, nd, e, q⟩ := q
      unfold evT at e
      obtain ⟨w', e1, h1, h2⟩ := bnd_eq e
      rw [evE] at h1
      obtain ⟨w2, e2, h5, h6⟩ := bnd_eq h1
      simp only [Option.map_eq_some_iff] at h2 h6
      obtain ⟨b2, h3, h4⟩ := h2
      obtain ⟨b3, h7, h8⟩ := h6
      cases h4
      cases h8
      simp only [asB, Option.some.injEq] at h3
      subst h3
      refine ⟨env, f, b3, env', rel, nd, by unfold evT; rw [h5]; simp [h7], fun v H' f' g a r nd' st => ?_⟩
      obtain ⟨rfl, rfl⟩ := r
      exact q _ H' f' [] a ⟨rfl, rfl⟩ nd' st
  · cases h
theorem c_ife {c a b : CE} (sc' : Sn T N k c) (sa : Sn T N k a) (sb : Sn T N k b) : Sn T N k (.ife c a b) := by
  intro X sc top io e C h
  simp only [mE] at h
  split at h
  · rename_i x y w hv
    simp only [Bool.and_eq_true] at h
    obtain ⟨⟨⟨ht, hc⟩, ha⟩, hb⟩ := h
    obtain ⟨p, rfl⟩ := vIf_of hv
    refine ⟨PE.imp (pe_ifExp ((sc' C hc).2 ht) (sa C ha).1 (sb C hb).1) fun σ H Q q => ?_, fun t => by simp [tst, plainT] at t⟩
    obtain ⟨env, f, w', env', rel, nd, e, q⟩ := q
    rw [evE] at e
    obtain ⟨w2, e1, h1, h2⟩ := bnd_eq e
    simp only [Option.bind_eq_some_iff] at h2
    obtain ⟨t, h3, h4⟩ := h2
    refine ⟨env, f, t, e1, rel, nd, by unfold evT; rw [h1]; simp [h3], fun v H' f' g rel' r nd' st => ?_⟩
    obtain ⟨rfl, rfl⟩ := r
    cases v with
    | true =>
      rw [if_pos rfl] at h4 ⊢
      exact ⟨e1, f', w', env', rel', nd', h4, fun v2 H2 f2 g2 a2 r2 n2 s2 => q v2 H2 f2 g2 a2 r2 n2 (st.trans s2)⟩
    | false =>
      rw [if_neg Bool.false_ne_true] at h4 ⊢
      exact ⟨e1, f', w', env', rel', nd', h4, fun v2 H2 f2 g2 a2 r2 n2 s2 => q v2 H2 f2 g2 a2 r2 n2 (st.trans s2)⟩
  · cases h
theorem c_sub {a b : CE} (sa : Sn T N k a) (sb : Sn T N k b) : Sn T N k (.sub a b) := by
  intro X sc top io e C h
  simp only [mE] at h
  split at h
  · rename_i x y hv
    simp only [Bool.and_eq_true] at h
    obtain ⟨⟨hp, ha⟩, hb⟩ := h
    obtain ⟨q, rfl⟩ := vSub_of hv
    have z : PE X (.Subscript x y q) (tG X.K (RV_ X.K) (evE (call T k) T.con (.sub a b))) := PE.imp (pe_ix (ix_itemS (by have := C.hu; omega)) (op_of C ha sa) (op_of C hb sb) (plain_ix hp)) fun σ H Q q => tG_un2 (by
      obtain ⟨env, f, w, env', rel, nd, e, q⟩ := q
      exact ⟨env, f, w, env', rel, nd, by rw [evE] at e; exact e, q⟩)
    exact ⟨z, fun _ => pt_plain z rfl⟩
  · cases h
theorem c_slc {a : CE} {lo hi : CO} (sa : Sn T N k a) (sl : SnO T N k lo) (sh : SnO T N k hi) : Sn T N k (.slc a lo hi) := by
  intro X sc top io e C h
  simp only [mE] at h
  split at h
  · rename_i x s hv
    split at h
    · rename_i l u hw
      simp only [Bool.and_eq_true] at h
      obtain ⟨⟨ha, hl⟩, hh⟩ := h
      obtain ⟨q, rfl⟩ := vSub_of hv
      obtain ⟨q2, rfl⟩ := vSlice_of hw
      have z : PE X (.Subscript x (.Slice l u none q2) q) (tG X.K (RV_ X.K) (evE (call T k) T.con (.slc a lo hi))) := PE.imp (pe_slice sl_cutS (op_of C ha sa) (sl C hl) (sh C hh)) fun σ H Q q => by
        obtain ⟨env, f, w, env', rel, nd, e, q⟩ := q
        rw [evE] at e
        obtain ⟨p, e1, h1, h2⟩ := bnd_eq e
        obtain ⟨lv, e2, h3, h4⟩ := bnd_eq h2
        obtain ⟨hv', e3, h5, h6⟩ := bnd_eq h4
        simp only [Option.bind_eq_some_iff, Option.map_eq_some_iff] at h6
        obtain ⟨xv, hx, u', hu, h7⟩ := h6
        cases h7
        refine ⟨env, f, p, e1, rel, nd, h1, fun v1 H1 f1 g1 rel1 r1 nd1 st1 => ⟨e1, f1, lv, e2, rel1, (nodup_app.mp nd1).2.1, h3, fun v2 H2 f2 g2 rel2 r2 nd2 st2 => ⟨e2, f2, hv', _, rel2, (nodup_app.mp nd2).2.1, h5, fun v3 H3 f3 g3 rel3 r3 nd3 st3 => ?_⟩⟩⟩
        obtain ⟨rfl, rfl⟩ := r2
        obtain ⟨rfl, rfl⟩ := r3
        obtain ⟨m1, m2, m3, m4⟩ := chain nd1 st1 r1.trk nd2 st2
        have r1' := r1.keep m3 m4
        obtain ⟨n1, n2, n3, n4⟩ := chain (g1 := g1) (by simpa using m1) (by simpa using m2) r1'.trk nd3 st3
        obtain ⟨ga, hga⟩ := (r1'.keep n3 n4).res rel3 hx
        exact ⟨xv, ga, w, hga, hu, fin_op (g := g1) (by simpa using n1) (by simpa using n2) rel3 q⟩
      exact ⟨z, fun _ => pt_plain z rfl⟩
    · cases h
  · cases h
theorem c_tup {as : CEs} (s : SnL T N k as) : Sn T N k (.tup as) := by
  intro X sc top io e C h
  simp only [mE] at h
  split at h
  · rename_i xs hv
    obtain ⟨n, p, rfl⟩ := vTup_of hv
    have z : PE X (.Tuple xs n p) (tG X.K (RV_ X.K) (evE (call T k) T.con (.tup as))) := PE.imp (pex_tup (s C h).2.1) fun σ H Q q => by
      obtain ⟨env, f, w, env', rel, nd, e, q⟩ := q
      rw [evE] at e
      obtain ⟨ys, e1, h1, h2⟩ := bnd_eq e
      split at h2
      · rename_i hz
        cases h2
        refine ⟨env, f, ys, _, rel, nd, h1, fun vs H1 f1 g1 rel1 r1 nd1 st1 => ?_⟩
        obtain ⟨rfl, r1⟩ := r1
        refine ⟨by rw [r1.len]; exact hz, fun pa o hp hd => ?_⟩
        exact fin_op nd1 st1 rel1 q _ _ [] (mk_tup (mkT hd) (r1.ext (New.pure hp).ext)) (New.pure hp)
      · cases h2
    exact ⟨z, fun _ => pt_plain z rfl⟩
  · cases h
theorem c_lst {as : CEs} (s : SnL T N k as) : Sn T N k (.lst as) := by
  intro X sc top io e C h
  simp only [mE] at h
  split at h
  · rename_i xs hv
    obtain ⟨p, rfl⟩ := vLst_of hv
    have z : PE X (.List xs p) (tG X.K (RV_ X.K) (evE (call T k) T.con (.lst as))) := PE.imp (pe_lst (s C h).2.1) fun σ H Q q => by
      obtain ⟨env, f, w, env', rel, nd, e, q⟩ := q
      rw [evE] at e
      obtain ⟨ys, e1, h1, h2⟩ := bnd_eq e
      split at h2
      · rename_i hz
        cases h2
        refine ⟨env, f, ys, _, rel, nd, h1, fun vs H1 f1 g1 rel1 r1 nd1 st1 => ?_⟩
        obtain ⟨rfl, r1⟩ := r1
        refine ⟨by rw [r1.len]; exact hz, fun pa hp => ?_⟩
        exact fin_op nd1 st1 rel1 q _ _ [pa] ⟨pa, _, rfl, rfl, upd_same, r1.ext (New.one hp).ext⟩ (New.one hp)
      · cases h2
    exact ⟨z, fun _ => pt_plain z rfl⟩
  · cases h
theorem c_dnew : Sn T N k .dnew := by
  intro X sc top io e C h
  simp only [mE] at h
  obtain ⟨p, rfl⟩ := vDict0_of h
  have z : PE X (.Dict [] [] p) (tG X.K (RV_ X.K) (evE (call T k) T.con .dnew)) := PE.imp pe_dnewK fun σ H Q q => by
    obtain ⟨env, f, w, env', rel, nd, e, q⟩ := q
    rw [evE] at e
    cases e
    intro pa hp
    exact fin_op (g := []) (by simpa using nd) (Stp.refl H f) rel q _ _ [pa] ⟨pa, [], rfl, rfl, upd_same, rfl, RepDs.nil⟩ (New.one hp)
  exact ⟨z, fun _ => pt_plain z rfl⟩
theorem c_cb {f : BN} {as : CEs} (s : SnL T N k as) : Sn T N k (.cb f as) := by
  intro X sc top io e C h
  simp only [mE] at h
  split at h
  · rename_i x xs hv
    simp only [Bool.and_eq_true, Bool.not_eq_true'] at h
    obtain ⟨⟨h1, h2⟩, h3⟩ := h
    obtain ⟨p, q, rfl⟩ := vCallN_of hv
    obtain ⟨rfl, m1, m2⟩ := blt_of C h1
    cases xs with
    | nil => simp at h2
    | cons y ys =>
      have hpl := mEs_plain h3
      have fw : ∀ σ H (Q : VK), tG X.K (RV_ X.K) (evE (call T k) T.con (.cb f as)) σ H Q → tCB (rSN X.K (cbS f)) (tG X.K (RPs_ X.K) (evPs (call T k) T.con as)) σ H Q := fun σ H Q q => tG_unN (by
        obtain ⟨env, f', w, env', rel, nd, e, q⟩ := q
        exact ⟨env, f', w, env', rel, nd, by rw [evE] at e; exact e, q⟩)
      have hst : starEach (y :: ys) X.env = (false, eval y X.env) :: starEach ys X.env := plain_star (hpl y List.mem_cons_self)
      have hba : (backTo q (starEach ys X.env)).any (·.1) = false := back_any fun z hz => hpl z (List.mem_cons_of_mem _ hz)
      have z : PE X (.Call (.Name (bnName f : Str) p) (y :: ys) [] q) (tG X.K (RV_ X.K) (evE (call T k) T.con (.cb f as))) := by
        have hb := boot_bn f
        obtain ⟨n1, n2⟩ := bn_ne f
        have hcr := cr_all_of C.calm f
        cases f <;> first
          | exact PE.imp (pe_callB hcr m2 m1 hb (s C h3).1 n1 n2 hst hba) fw
          | exact PE.imp (pe_callTy hcr m2 m1 hb (s C h3).1 n1 n2 hst hba) fw
      exact ⟨z, fun _ => pt_plain z rfl⟩
  · cases h
theorem c_cf {f : Nat} {as : CEs} (s : SnL T N k as) : Sn T N k (.cf f as) := by
  intro X sc top io e C h
  simp only [mE] at h
  split at h
  · rename_i x xs y d hv hf
    simp only [Bool.and_eq_true, Bool.not_eq_true', decide_eq_true_eq] at h
    obtain ⟨⟨⟨⟨rfl, h1⟩, h2⟩, h3⟩, h4⟩ := h
    obtain ⟨p, q, rfl⟩ := vCallN_of hv
    obtain ⟨a, fd, ps, c1, c2, c3, c4⟩ := C.fns f x d hf
    cases xs with
    | nil => simp at h3
    | cons y ys =>
      have hpl := mEs_plain h4
      have z : PE X (.Call (.Name x p) (y :: ys) [] q) (tG X.K (RV_ X.K) (evE (call T k) T.con (.cf f as))) :=
        PE.imp (pe_call c4 C.room (glb_of C h1) c1 c2 c3 .nil pass0 (s C h4).1 (okN_of h2).1 (plain_star (hpl y List.mem_cons_self)) (back_any fun z hz => hpl z (List.mem_cons_of_mem _ hz))) fun σ H Q q =>
          tG_call (call_len hf) (by
            obtain ⟨env, f', w, env', rel, nd, e, q⟩ := q
            exact ⟨env, f', w, env', rel, nd, by rw [evE] at e; exact e, q⟩)
      exact ⟨z, fun _ => pt_plain z rfl⟩
  · cases h
theorem c_fz {a : CE} (sa : Sn T N k a) : Sn T N k (.fz a) := by
  intro X sc top io e C h
  simp only [mE] at h
  have z : PE X e (tG X.K (RV_ X.K) (evE (call T k) T.con (.fz a))) := PE.imp (fz_of C h sa) fun σ H Q q => by
    obtain ⟨env, f, w, env', rel, nd, e, q⟩ := q
    rw [evE] at e
    obtain ⟨x, e1, h1, h2⟩ := bnd_eq e
    cases h2
    refine ⟨env, f, x, _, rel, nd, h1, fun v H1 f1 g1 rel1 r1 nd1 st1 => ?_⟩
    obtain ⟨rfl, r1⟩ := r1
    exact q v H1 f1 [] rel1 (mk_d r1) nd1 st1
  exact ⟨z, fun t => pt_plain z (by simpa [tst] using t)⟩
end
end Mn
/-! MnG2: kinds, methods, comprehensions, lists of operands; the whole of the expressions. -/
namespace Mn
open PySem L2
section
variable {T : Tab} {N : List Str} {k : Nat}
/-! ### isinstance -/
def tyN : Va → String
  | .d .non => "NoneType"
  | .d (.bl _) => "bool"
  | .d (.int _) => "int"
  | .d (.str _) => "str"
  | .d (.tup _) => "tuple"
  | .d (.lst _) => "list"
  | .d (.dct _ _) => "dict"
  | .ls _ => "list"
  | _ => "dict"
theorem rep_ty {K : PySem.W.Frag} {H : Hp} {w : Va} {v : V} {g : List Addr} (h : RepV K H w v g) (hw : (∃ x, w = .d x) ∨ ∃ xs, w = .ls xs) : TyX K H v (.type (tyN w)) := by
  rcases hw with ⟨x, rfl⟩ | ⟨xs, rfl⟩
  · have h2 := h.2
    cases x with
    | non => simp only [RepD] at h2; subst h2; exact .base .non
    | bl b => simp only [RepD] at h2; subst h2; exact .base (.bl b)
    | int i => simp only [RepD] at h2; subst h2; exact .base (.int i)
    | str s => simp only [RepD] at h2; subst h2; exact .base (.str _)
    | tup xs =>
      simp only [RepD] at h2
      obtain ⟨a, vs, rfl, t1, _⟩ := h2
      rcases t1.sq with (t1 | ⟨o, t1⟩) | ⟨o, its, n, t1, t2, _⟩
      · exact .base (.tup t1)
      · exact .fTuple t1
      · exact .kTuple t1 t2
    | lst xs =>
      simp only [RepD] at h2
      obtain ⟨a, vs, rfl, t1, _⟩ := h2
      rcases t1 with ⟨o, t1⟩ | ⟨its, n, t1, _⟩
      · exact .base (.frz t1)
      · exact .kList t1 rfl
    | dct ks xs =>
      simp only [RepD] at h2
      obtain ⟨a, o, kws, rfl, t1, _⟩ := h2
      exact .fDict t1
  · obtain ⟨a, vs, rfl, _, t1, _⟩ := h
    exact .base (.lst t1)
def kinds : List String := ["NoneType", "bool", "int", "str", "tuple", "list", "dict"]
def tnS2 (t : TN) (s : String) : Bool := match t with
  | .str => s == "str"
  | .int => s == "int" || s == "bool"
  | .bool => s == "bool"
  | .tup => s == "tuple"
  | .lst => s == "list"
  | .dct => s == "dict"
theorem kit_all (t : TN) : ∀ s ∈ kinds, kitB s (tnName t) = some (tnS2 t s) := by cases t <;> decide +kernel
theorem tyN_mem (w : Va) : tyN w ∈ kinds := by
  unfold tyN
  split <;> decide
theorem isi_val {ts : List TN} {w u : Va} (h : isiS ts w = some u) : ((∃ x, w = .d x) ∨ ∃ xs, w = .ls xs) ∧ u = .d (.bl (ts.any fun t => tnS2 t (tyN w))) := by
  unfold isiS at h
  split at h
  · rename_i x
    cases h
    refine ⟨.inl ⟨x, rfl⟩, ?_⟩
    congr 2
    congr 1
    funext t
    cases t <;> cases x <;> rfl
  · rename_i xs
    cases h
    refine ⟨.inr ⟨xs, rfl⟩, ?_⟩
    congr 2
    congr 1
    funext t
    cases t <;> rfl
  · cases h
theorem kit_many {K : PySem.W.Frag} {s : String} (hs : s ∈ kinds) : ∀ ts : List TN, PySem.W.kitAny K (.type s) (ts.map fun t => Value.type (tnName t)) = some (ts.any fun t => tnS2 t s)
  | [] => kitAny_nil
  | t :: ts => by
    rw [List.map_cons, List.any_cons]
    refine kitAny_cons (kit_ty (kit_all t s hs)) (fun hb => ?_) (fun hb => ?_)
    · rw [hb, Bool.false_or]
      exact kit_many hs ts
    · rw [hb, Bool.true_or]
theorem ty_of {X : Cx} {sc : Scope} {top : Bool} {io : List Nat} {e : Expr} {t : TN} (C : Ctx T N k X sc top io) (h : tyB T sc t e = true) : PE X e (tC (.ty (tnName t))) ∧ plainX e = true := by
  simp only [tyB] at h
  split at h
  · rename_i x hv
    obtain ⟨rfl, m1, m2⟩ := blt_of C h
    obtain ⟨p, rfl⟩ := vName_of hv
    exact ⟨pe_bltn m2 m1 (boot_tn t) rfl (tn_ne t).1 (tn_ne t).2, rfl⟩
  · cases h
def tTys : List TN → TA
  | [] => tNil
  | t :: ts => tCons (tC (.ty (tnName t))) (tTys ts)
theorem tys_of {X : Cx} {sc : Scope} {top : Bool} {io : List Nat} (C : Ctx T N k X sc top io) : ∀ {ts : List TN} {es : List Expr}, tysB T sc ts es = true → PA X es (tTys ts)
  | [], [], _ => pa_nil
  | [], _ :: _, h => by simp [tysB] at h
  | _ :: _, [], h => by simp [tysB] at h
  | t :: ts, e :: es, h => by
    simp only [tysB, Bool.and_eq_true] at h
    obtain ⟨h1, h2⟩ := ty_of C h.1
    exact pa_cons h1 (tys_of C h.2) (plain_star h2)
theorem tTys_run : ∀ (ts : List TN) {σ : L2.St} {H : Hp} {Q : List V → Hp → Prop}, Q (ts.map fun t => V.ty (tnName t)) H → tTys ts σ H Q
  | [], _, _, _, q => q
  | t :: ts, _, _, _, q => tTys_run ts q
theorem cls_many : ∀ ts : List TN, Paired ClsV (ts.map fun t => V.ty (tnName t)) (ts.map fun t => Value.type (tnName t))
  | [] => .nil
  | _ :: ts => .cons (.ty _) (cls_many ts)
theorem c_isi {a : CE} {ts : List TN} (sa : Sn T N k a) : Sn T N k (.isi a ts) := by
  intro X sc top io e C h
  simp only [mE] at h
  split at h
  · rename_i x y w hv
    simp only [Bool.and_eq_true] at h
    obtain ⟨⟨⟨⟨⟨h1, hl10⟩, hp1⟩, hp2⟩, ha⟩, h3⟩ := h
    have hl10 := of_decide_eq_true hl10
    obtain ⟨p, q, rfl⟩ := vCallN_of hv
    obtain ⟨rfl, m1, m2⟩ := blt_of C h1
    have hst : starEach [y, w] X.env = (false, eval y X.env) :: starEach [w] X.env := plain_star hp1
    have hst2 : starEach [w] X.env = [(false, eval w X.env)] := plain_star hp2
    have hba : (backTo q (starEach [w] X.env)).any (·.1) = false := back_any fun z hz => by
      rw [List.mem_singleton] at hz
      subst hz
      exact hp2
    -- what is left: the operand's kind
    have core : ∀ {t : TA} {r : List V → Hp → VK → Prop}, CallR X (.builtin "isinstance") r → PA X [w] t → (∀ (v : V) (σ : L2.St) (H1 : Hp) (wv u : Va) (g : List Addr) (Q : VK), RepV X.K H1 wv v g → isiS ts wv = some u → (∀ v' H' fr, RepV X.K H' u v' fr → New H1 H' fr → Q v' H') → t σ H1 fun cs H2 => r (v :: cs) H2 Q) →
        PE X (.Call (.Name ("isinstance" : Str) p) [y, w] [] q) (tG X.K (RV_ X.K) (evE (call T k) T.con (.isi a ts))) := fun {t r} hr hw hc => by
      refine PE.imp (pe_callB hr m2 m1 boot_isi (pa_cons (op_of C ha sa) hw hst) (by decide) (by decide) hst hba) fun σ H Q q => ?_
      obtain ⟨env, f, u, env', rel, nd, e, q⟩ := q
      rw [evE] at e
      obtain ⟨pv, e1, g1, g2⟩ := bnd_eq e
      simp only [Option.bind_eq_some_iff, Option.map_eq_some_iff] at g2
      obtain ⟨wv, hx, u', hu, g3⟩ := g2
      cases g3
      refine ⟨env, f, pv, _, rel, nd, g1, fun v H1 f1 gg rel1 r1 nd1 st1 => ?_⟩
      obtain ⟨ga, hga⟩ := r1.res rel1 hx
      exact hc v σ H1 wv u ga Q hga hu (fin_op nd1 st1 rel1 q)
    have z : PE X (.Call (.Name ("isinstance" : Str) p) [y, w] [] q) (tG X.K (RV_ X.K) (evE (call T k) T.con (.isi a ts))) := by
      split at h3
      · rename_i t _
        obtain ⟨w1, w2⟩ := ty_of C h3
        refine core call_isi (pa_cons w1 pa_nil hst2) fun v σ H1 wv u g Q hg hu q => ?_
        obtain ⟨hk, rfl⟩ := isi_val hu
        refine ⟨v, .ty (tnName t), _, _, _, rfl, .ty _, rep_ty hg hk, kit_ty (kit_all t _ (tyN_mem wv)), ?_⟩
        have := q (.bl (tnS2 t (tyN wv))) H1 [] (by
          have := mk_bl (K := X.K) (H := H1) ([t].any fun t => tnS2 t (tyN wv))
          simpa using this) (New.refl H1)
        exact this
      · split at h3
        · rename_i zs hz
          obtain ⟨n, p2, rfl⟩ := vTup_of hz
          refine core call_isiT (pa_cons (pe_tup (tys_of C h3)) pa_nil hst2) fun v σ H1 wv u g Q hg hu q => ?_
          obtain ⟨hk, rfl⟩ := isi_val hu
          refine tTys_run ts ⟨?_, fun tp htp => ?_⟩
          · rw [List.length_map, sizeLine_eq]
            omega
          · have hg2 : RepV X.K (upd H1 tp (.tup (ts.map fun t => V.ty (tnName t)))) wv v g := hg.keep (fun b hb => upd_ne fun z => hg.trk b hb (z ▸ htp)) (New.pure htp).ext
            refine ⟨v, tp, ts.map fun t => V.ty (tnName t), _, ts.map fun t => Value.type (tnName t), _, rfl, upd_same, ?_, rep_ty hg2 hk, kit_many (tyN_mem wv) ts, ?_⟩
            · exact cls_many ts
            · exact q _ _ [] (mk_bl _) (New.pure htp)
        · cases h3
    exact ⟨z, fun _ => pt_plain z rfl⟩
  · cases h

/-! ### methods -/
theorem mt_joinS {X : Cx} : MtR X "str.join" (rSM X.K joinS) := by
  intro pins s σ H x xs v us Q I rx r h
  obtain ⟨w, ws, g, u, h1, h2, hf, q⟩ := h
  unfold joinS at hf
  split at hf
  · rename_i a y
    obtain ⟨y', g', rfl, h3⟩ := h2.one
    simp only [Option.bind_eq_some_iff] at hf
    obtain ⟨zs, e, ss, es, hf⟩ := hf
    split at hf
    · rename_i hz
      cases hf
      obtain ⟨l, vs, e1, t1, r1⟩ := rep_asL e h3
      have e2 := strs_rep es r1
      subst e2
      have lj : ∀ (a : List Nat) (ss : List (List Nat)), ss ≠ [] → (joinT a ss).length + a.length = (ss.map List.length).sum + ss.length * a.length := by
        intro a ss
        induction ss with
        | nil => intro h; exact absurd rfl h
        | cons s r ih =>
          intro _
          cases r with
          | nil => simp [joinT]
          | cons s2 r =>
            have := ih (by simp)
            simp only [joinT, List.length_append, List.map_cons, List.sum_cons, List.length_cons] at this ⊢
            rw [Nat.succ_mul]
            omega
      have ej : Txt.join (stx a) (ss.map stx) = stx (joinT a ss) := by
        rw [TL.join_eq]
        have tj : ∀ ss : List (List Nat), Str.join (stx a) (ss.map stx) = stx (joinT a ss) := by
          intro ss
          induction ss with
          | nil => rfl
          | cons s r ih =>
            cases r with
            | nil => rfl
            | cons s2 r =>
              show stx s ++ stx a ++ Str.join (stx a) ((s2 :: r).map stx) = stx (s ++ a ++ joinT a (s2 :: r))
              rw [ih]
              show Str.mk (s.toArray ++ a.toArray ++ (joinT a (s2 :: r)).toArray) = Str.mk (s ++ a ++ joinT a (s2 :: r)).toArray
              simp
        exact tj ss
      refine mt_join pins s σ H x _ v us Q I rx r ⟨stx a, l, ss.map stx, rep_str h1, by rw [e1], t1.imp id TupX.sq, ?_, ?_⟩
      · rw [List.map_map]
        have e3 : (ss.map ((fun z : Str => z.length) ∘ stx)) = ss.map List.length := List.map_congr_left fun z _ => stx_len z
        rw [e3, List.length_map, stx_len]
        cases ss with
        | nil => simp
        | cons s1 rr =>
          have := lj a (s1 :: rr) (by simp)
          rw [szL_eq, sizeLine_eq] at hz
          omega
      · rw [ej]
        exact q _ _ [] (mk_str _) (New.refl H)
    · cases hf
  · cases hf
theorem getD_rep {K : PySem.W.Frag} {H : Hp} {kvs : List (List Nat × D)} {k : List Nat} {o : Option V} {x : D} {y : V} (h1 : ∀ x, keyOf kvs k = some x → ∃ y, o = some y ∧ RepD K H x y) (h2 : keyOf kvs k = none → o = none) (hx : RepD K H x y) :
    RepD K H ((keyOf kvs k).getD x) (o.getD y) := by
  cases e : keyOf kvs k with
  | none =>
    rw [h2 e]
    exact hx
  | some z =>
    obtain ⟨y', rfl, h⟩ := h1 z e
    exact h
theorem dct_get {K : PySem.W.Frag} {H : Hp} {ks : List (List Nat)} {zs : List Mn.D} {v : V} {g : List Addr} (h1 : RepV K H (.d (.dct ks zs)) v g) (k : List Nat) : ∃ a o, v = .ref a ∧ DGet H a (.str (stx k)) o ∧ (∀ x, keyOf (ks.zip zs) k = some x → ∃ y, o = some y ∧ RepD K H x y) ∧ (keyOf (ks.zip zs) k = none → o = none) := by
  have h1' := h1.2
  simp only [RepD] at h1'
  obtain ⟨a, o, kws, e1, e2, e3, e4⟩ := h1'
  have hl : ks.length = zs.length := by
    have a1 := congrArg List.length e3
    have a2 := e4.len
    simp only [List.length_map] at a1 a2
    omega
  have hz1 : (ks.zip zs).map (fun p => (Sum.inr (stx p.1) : Key)) = ks.map (fun k => (Sum.inr (stx k) : Key)) := by
    have : (ks.zip zs).map (·.1) = ks := List.map_fst_zip (by omega)
    calc (ks.zip zs).map (fun p => (Sum.inr (stx p.1) : Key)) = ((ks.zip zs).map (·.1)).map (fun k => (Sum.inr (stx k) : Key)) := by rw [List.map_map]; rfl
      _ = _ := by rw [this]
  have hz2 : (ks.zip zs).map (·.2) = zs := List.map_snd_zip (by omega)
  obtain ⟨q1, q2⟩ := keyOf_val (kvs := ks.zip zs) (k := k) (e3.trans hz1.symm) (by rw [hz2]; exact e4)
  exact ⟨a, _, e1, .inl ⟨kws, Sum.inr (stx k), .inr ⟨o, e2⟩, rfl, rfl⟩, q1, q2⟩
theorem mt_getS {X : Cx} (hu : X.A.units + 1 < cLine) : MtR X "dict.get" (rSM X.K dgetS) := by
  intro pins s σ H x xs v us Q I rx r h
  obtain ⟨w, ws, g, u, h1, h2, hf, q⟩ := h
  unfold dgetS at hf
  split at hf
  · rename_i kvs k
    cases hf
    obtain ⟨y, g', rfl, h3⟩ := h2.one
    obtain ⟨a, o, e1, e2, e3, e4⟩ := dc_get h1 k
    subst e1
    obtain rfl : v = Value.ref a := rx
    have ey := rep_str h3
    subst ey
    obtain ⟨u1, rfl, r1⟩ := vals1 r
    exact d_get1 hu I e2 r1 fun w' s3 I3 rw' => ⟨_, H, I3, rw', q _ _ [] (mk_d (getD_rep e3 e4 (by simp [RepD]))) (New.refl H)⟩
  · rename_i kvs k z
    cases hf
    obtain ⟨y, y2, g', g2, rfl, h3, h4⟩ := h2.two
    obtain ⟨a, o, e1, e2, e3, e4⟩ := dc_get h1 k
    subst e1
    obtain rfl : v = Value.ref a := rx
    have ey := rep_str h3
    subst ey
    obtain ⟨u1, u2, rfl, r1, r2⟩ := vals2 r
    exact d_get2 hu I e2 r1 r2 fun w' s3 I3 rw' => ⟨_, H, I3, rw', q _ _ [] (mk_d (getD_rep e3 e4 h4.2)) (New.refl H)⟩
  · cases hf
def eqks (k : PySem.Str) (v : Value) : Bool := match v with
  | .str z _ => z.cps.toList == k.cps.toList
  | _ => false
theorem eqks_gives {k : PySem.Str} {t : Tok} : ∀ {us : List Value} {ns : List PySem.Str}, PyProof.Rows.StrsAre us ns → ∀ y ∈ us, MeetsSeq.EqGives y (.str k t) (eqks k y)
  | _, _, .nil, y, hy => nomatch hy
  | _, _, .cons n t' h, y, hy => by
    rcases List.mem_cons.mp hy with e | e
    · rw [e]
      exact SeqRoads2.EqGives.str n k t' t
    · exact eqks_gives h y e
theorem eqks_count {k : List Nat} : ∀ {us : List Value} {ss : List (List Nat)}, PyProof.Rows.StrsAre us (ss.map stx) → us.countP (eqks (stx k)) = ss.count k
  | [], [], _ => rfl
  | u :: us, s :: ss, h => by
    rw [List.map_cons] at h
    cases h with
    | cons _ t h =>
      have ih := eqks_count (k := k) h
      rw [List.countP_cons, List.count_cons, ih]
      rfl
  | [], s :: ss, h => by
    rw [List.map_cons] at h
    cases h
  | u :: us, [], h => by
    rw [List.map_nil] at h
    cases h
theorem mt_countS {X : Cx} : MtR X "list.count" (rSM X.K cntS) := by
  intro pins s σ H x xs v us Q I rx r h
  obtain ⟨w, ws, g, u, h1, h2, hf, q⟩ := h
  unfold cntS at hf
  split at hf
  · rename_i w k
    simp only [Option.bind_eq_some_iff, Option.map_eq_some_iff] at hf
    obtain ⟨zs, e, ss, es, rfl⟩ := hf
    obtain ⟨y, g', rfl, h3⟩ := h2.one
    obtain ⟨p, vs, rfl, hs, r1⟩ := rep_asLl e h1
    have e2 := strs_rep es r1
    subst e2
    have ey := rep_str h3
    subst ey
    cases rx
    obtain ⟨u, rfl, ru⟩ := vals1 r
    obtain ⟨t, rfl⟩ := ru
    obtain ⟨its, rv, ⟨⟨cls, dd, data, sl⟩, n, ho, hc, hdn, hd⟩, hlen⟩ := I.list hs
    simp only at hc hd
    subst hc hd
    have hi := strs_of_vals rv
    refine PySem.call_meets PySem.F.slot_list_count ⟨_, ho, rfl⟩ PySem.F.entry_list_count (PySem.F.args_list_count_2 _ _)
      (SeqAt.list_countAt p its.toArray n dd sl (.str (stx k) t) (eqks (stx k))) ⟨ho, fun y hy => (eqks_gives hi y (by simpa using hy)).at _ _, ?_⟩
    have ec : its.toArray.toList.countP (eqks (stx k)) = ss.count k := eqks_count hi
    refine ⟨.int (ss.count k : Nat), H, I.tok _, ⟨s.toks, ?_⟩, q _ _ [] (mk_int _) (New.refl H)⟩
    show Value.int ((its.toArray.toList.countP (eqks (stx k)) : Nat) : Int) s.toks = Value.int ((ss.count k : Nat) : Int) s.toks
    rw [ec]
  · cases hf
theorem occ_letters : ∀ c ∈ lettersA, Builtin.Str.occurrences (stx lettersA) (stx [c]) 0 (stx lettersA).length 1 = [lettersA.idxOf c] := by decide +kernel
theorem mt_indexS {X : Cx} : MtR X "str.index" (rSM X.K idxS) := by
  intro pins s σ H x xs v us Q I rx r h
  obtain ⟨w, ws, g, u, h1, h2, hf, q⟩ := h
  unfold idxS at hf
  split at hf
  · rename_i a c
    split at hf
    · rename_i hac
      cases hf
      obtain ⟨ha, hc⟩ := hac
      subst ha
      obtain ⟨y, g', rfl, h3⟩ := h2.one
      exact mt_sindex pins s σ H x _ v us Q I rx r ⟨stx lettersA, stx [c], lettersA.idxOf c, [], rep_str h1, by rw [rep_str h3], occ_letters c hc, q _ _ [] (mk_int _) (New.refl H)⟩
    · cases hf
  · cases hf
theorem spl_C (c : Nat) : ∀ (r acc : List Nat), TL.spl [c] 0 acc r = splC c acc r
  | [], acc => rfl
  | x :: r, acc => by
    show (if TL.pre [c] (x :: r) = true then acc :: TL.spl [c] 0 [] r else TL.spl [c] 0 (acc ++ [x]) r) = if x = c then acc :: splC c [] r else splC c (acc ++ [x]) r
    rw [spl_C c r, spl_C c r]
    by_cases h : x = c
    · rw [if_pos h, if_pos (by simp [TL.pre, h])]
    · rw [if_neg h, if_neg (by simp [TL.pre, h])]
theorem split_C (a : List Nat) {c : Nat} (h : c < 256) : Txt.split (stx a) (stx [c]) = (splC c [] a).map stx := by
  refine TL.map_tl_inj ?_
  rw [TL.split_spl _ _ (by simp [TL.tl, stx]) (TL.kind_ok (by simp [stx, h]))]
  show TL.spl [c] 0 [] a = _
  rw [spl_C, List.map_map]
  have : (TL.tl ∘ stx) = id := by funext z; simp [TL.tl, stx]
  rw [this, List.map_id]
theorem reps_strs {K : PySem.W.Frag} {H : Hp} : ∀ (zs : List (List Nat)), RepDs K H (zs.map .str) ((zs.map stx).map V.str)
  | [] => RepDs.nil
  | z :: zs => RepDs.cons (by simp [RepD]) (reps_strs zs)
theorem mt_splitS {X : Cx} : MtR X "str.split" (rSM X.K splS) := by
  intro pins s σ H x xs v us Q I rx r h
  obtain ⟨w, ws, g, u, h1, h2, hf, q⟩ := h
  unfold splS at hf
  split at hf
  · rename_i a c
    split at hf
    · rename_i hac
      cases hf
      obtain ⟨y, g', rfl, h3⟩ := h2.one
      refine mt_split pins s σ H x _ v us Q I rx r ⟨stx a, stx [c], rep_str h1, by rw [rep_str h3], by simp [stx_len], by rw [stx_len]; exact hac.2, fun p hp => ?_⟩
      rw [split_C a hac.1]
      exact q _ _ [p] ⟨p, _, rfl, rfl, upd_same, (reps_strs _)⟩ (New.one hp)
    · cases hf
  · cases hf
theorem first_at : ∀ {ss : List (List Nat)} {k : List Nat}, k ∈ ss → ss[ss.idxOf k]? = some k ∧ ∀ (m : Nat) (z : List Nat), m < ss.idxOf k → ss[m]? = some z → z ≠ k
  | s :: ss, k, h => by
    by_cases e : s = k
    · subst e
      rw [List.idxOf_cons_self]
      exact ⟨rfl, fun m z hm => absurd hm (by omega)⟩
    · have hk : k ∈ ss := by
        rcases List.mem_cons.mp h with z | z
        · exact absurd z.symm e
        · exact z
      have hb : (s == k) = false := by simpa using e
      rw [List.idxOf_cons, hb]
      simp only [cond_false]
      obtain ⟨a, b⟩ := first_at hk
      refine ⟨by simpa using a, fun m z hm hz => ?_⟩
      cases m with
      | zero =>
        simp at hz
        rw [← hz]; exact e
      | succ m => exact b m z (by omega) (by simpa using hz)
theorem mt_lindexS {X : Cx} : MtR X "list.index" (rSM X.K lixS) := by
  intro pins s σ H x xs v us Q I rx r h
  obtain ⟨w, ws, g, u, h1, h2, hf, q⟩ := h
  unfold lixS at hf
  split at hf
  · rename_i w k
    simp only [Option.bind_eq_some_iff] at hf
    obtain ⟨zs, e, ss, es, hf⟩ := hf
    split at hf
    · rename_i hk
      cases hf
      obtain ⟨y, g', rfl, h3⟩ := h2.one
      obtain ⟨p, vs, rfl, hs, r1⟩ := rep_asLl e h1
      have e2 := strs_rep es r1
      subst e2
      have ey := rep_str h3
      subst ey
      obtain ⟨f1, f2⟩ := first_at hk
      refine L2.mt_index pins s σ H _ _ v us Q I rx r ⟨p, _, .str (stx k), ss.idxOf k, .str (stx k), rfl, rfl, hs, rfl, ?_, ?_, by simp [eqV], fun m z' hm hz => ?_, q _ _ [] (mk_int _) (New.refl H)⟩
      · simp [List.all_map, Function.comp_def, flatV]
      · simp [f1]
      · simp only [List.getElem?_map, Option.map_eq_some_iff] at hz
        obtain ⟨a, ⟨b, hb, rfl⟩, rfl⟩ := hz
        have := f2 m b hm hb
        simp only [eqV, beq_eq_false_iff_ne, ne_eq]
        exact fun z => this (stx_inj z)
    · cases hf
  · cases hf
theorem mtOk_lindex {w : Va} (h : mtOk .lindex w = true) : ∃ xs, asLl w = some xs := by
  cases w with
  | ls xs => exact ⟨xs, rfl⟩
  | d x => cases x <;> first | exact ⟨_, rfl⟩ | (simp [mtOk] at h)
  | _ => simp [mtOk] at h
theorem mtOk_split {w : Va} (h : mtOk .split w = true) : ∃ s, w = .d (.str s) := by
  cases w with
  | d x => cases x <;> first | exact ⟨_, rfl⟩ | (simp [mtOk] at h)
  | _ => simp [mtOk] at h
theorem mtOk_index {w : Va} (h : mtOk .index w = true) : ∃ s, w = .d (.str s) := by
  cases w with
  | d x => cases x <;> first | exact ⟨_, rfl⟩ | (simp [mtOk] at h)
  | _ => simp [mtOk] at h
theorem mtOk_count {w : Va} (h : mtOk .count w = true) : ∃ xs, asLl w = some xs := by
  cases w with
  | ls xs => exact ⟨xs, rfl⟩
  | d x => cases x <;> first | exact ⟨_, rfl⟩ | (simp [mtOk] at h)
  | _ => simp [mtOk] at h
theorem mtOk_join {w : Va} (h : mtOk .join w = true) : ∃ s, w = .d (.str s) := by
  cases w with
  | d x => cases x <;> first | exact ⟨_, rfl⟩ | (simp [mtOk] at h)
  | _ => simp [mtOk] at h
theorem mtOk_get {w : Va} (h : mtOk .get w = true) : ∃ kvs, w = .dc kvs := by
  cases w with
  | dc x => exact ⟨_, rfl⟩
  | _ => simp [mtOk] at h
theorem c_mt {m : MN} {a : CE} {as : CEs} (sa : Sn T N k a) (s : SnL T N k as) : Sn T N k (.mt m a as) := by
  intro X sc top io e C h
  simp only [mE] at h
  split at h
  · rename_i o nm xs hv
    simp only [Bool.and_eq_true, Bool.not_eq_true', decide_eq_true_eq] at h
    obtain ⟨⟨⟨⟨⟨rfl, h1⟩, h2⟩, h20⟩, ha⟩, h4⟩ := h
    obtain ⟨p, q, rfl, hline⟩ := vCallA_of hv
    cases xs with
    | nil => simp at h2
    | cons y ys =>
      have hpl := mEs_plain h4
      have hst : starEach (y :: ys) X.env = (false, eval y X.env) :: starEach ys X.env := plain_star (hpl y List.mem_cons_self)
      have hba : (backTo q (starEach ys X.env)).any (·.1) = false := back_any fun z hz => hpl z (List.mem_cons_of_mem _ hz)
      have hfew : ((backTo q (starEach (y :: ys) X.env)).all (fun x => !x.1) && (backToKw q (keywordEach [] X.env)).all (fun x => x.1.isSome)
          && decide ((y :: ys).length + ([] : List Keyword).length + (if ([] : List Keyword).isEmpty then 0 else 1) < 30)) = true := by
        rw [back_all hpl]
        simp only [Bool.true_and, Bool.and_eq_true, decide_eq_true_eq]
        exact ⟨rfl, by simp only [List.length_nil, List.isEmpty_nil, if_true]; omega⟩
      have fw : ∀ (Ty : String) (Fm : Va → List Va → Option Va), mtS m = Fm → (∀ (w : Va) (v : V) (g : List Addr) (H : Hp), RepV X.K H w v g → mtOk m w = true → tyV X.K Ty v H) → ∀ σ H (Q : VK), tG X.K (RV_ X.K) (evE (call T k) T.con (.mt m a as)) σ H Q →
          tBM X.K Ty (rSM X.K Fm) (tG X.K (RP_ X.K) (opnd a (evE (call T k) T.con a))) (tG X.K (RPs_ X.K) (evPs (call T k) T.con as)) σ H Q := fun Ty Fm hF hT σ H Q q => by
        obtain ⟨env, f, w, env', rel, nd, e, q⟩ := q
        rw [evE] at e
        obtain ⟨pv, e1, g1, g2⟩ := bnd_eq e
        simp only [Option.bind_eq_some_iff] at g2
        obtain ⟨x0, hx0, g2⟩ := g2
        split at g2
        · cases g2
        · rename_i hok
          obtain ⟨ps, e2, g3, g4⟩ := bnd_eq g2
          simp only [Option.bind_eq_some_iff, Option.map_eq_some_iff] at g4
          obtain ⟨x1, hx1, ys', hys, u, hu, g5⟩ := g4
          cases g5
          refine ⟨env, f, pv, e1, rel, nd, g1, fun v1 H1 f1 gg1 rel1 r1 nd1 st1 => ⟨?_, e1, f1, ps, _, rel1, (nodup_app.mp nd1).2.1, g3, fun v2 H2 f2 gg2 rel2 r2 nd2 st2 => ?_⟩⟩
          · obtain ⟨ga, hga⟩ := r1.res rel1 hx0
            exact hT _ _ _ _ hga (by simpa using hok)
          · obtain ⟨nd3, st3, k3, x3⟩ := chain nd1 st1 r1.trk nd2 st2
            obtain ⟨ga, hga⟩ := (r1.keep k3 x3).res rel2 hx1
            exact ⟨x1, ys', ga, w, hga, r2.res rel2 hys, by rw [← hF]; exact hu, fin_op (g := gg1 ++ gg2) (by rw [List.append_assoc]; exact nd3) (by rw [List.append_assoc]; exact st3) rel2 q⟩
      have z : PE X (.Call (.Attribute o (mtName m : Str) p) (y :: ys) [] q) (tG X.K (RV_ X.K) (evE (call T k) T.con (.mt m a as))) := by
        have none_of : (∀ w, mtOk m w = false) → PE X (.Call (.Attribute o (mtName m : Str) p) (y :: ys) [] q) (tG X.K (RV_ X.K) (evE (call T k) T.con (.mt m a as))) := fun hm => vac fun env => by
          rw [evE]
          cases e1 : opnd a (evE (call T k) T.con a) env with
          | none => rfl
          | some pe =>
            obtain ⟨pv, e2⟩ := pe
            simp only [bnd_some]
            cases resP pv e2 with
            | none => rfl
            | some w => simp [hm w]
        cases m with
        | join =>
          refine PE.imp (pe_bm PySem.F.plainAttrs_str PySem.F.slot_str_join PySem.F.type_str_join mt_joinS (op_of C ha sa) (s C h4).1 (plain_attr h1 _ _) hfew hline hst hba) (fw "str" joinS rfl fun w v g H r ok => ?_)
          obtain ⟨z, rfl⟩ := mtOk_join ok
          have := rep_str r
          subst this
          rfl
        | get =>
          refine PE.imp (pe_bm PySem.F.plainAttrs_dict PySem.F.slot_dict_get PySem.F.type_dict_get (mt_getS (by have := C.hu; omega)) (op_of C ha sa) (s C h4).1 (plain_attr h1 _ _) hfew hline hst hba) (fw "dict" dgetS rfl fun w v g H r ok => ?_)
          obtain ⟨z, rfl⟩ := mtOk_get ok
          obtain ⟨b, kws, rfl, _, h3, _⟩ := r
          exact .inr (.inr (.inl ⟨rfl, .inl ⟨_, h3⟩⟩))
        | upper => exact none_of fun w => by cases w <;> rfl
        | lower => exact none_of fun w => by cases w <;> rfl
        | count =>
          refine PE.imp (pe_bm PySem.F.plainAttrs_list PySem.F.slot_list_count PySem.F.type_list_count mt_countS (op_of C ha sa) (s C h4).1 (plain_attr h1 _ _) hfew hline hst hba) (fw "list" cntS rfl fun w v g H r ok => ?_)
          obtain ⟨xs, e⟩ := mtOk_count ok
          obtain ⟨a, vs, rfl, hs, _⟩ := rep_asLl e r
          exact .inl ⟨rfl, _, hs⟩
        | lindex =>
          refine PE.imp (pe_bm PySem.F.plainAttrs_list PySem.F.slot_list_index PySem.F.type_list_index mt_lindexS (op_of C ha sa) (s C h4).1 (plain_attr h1 _ _) hfew hline hst hba) (fw "list" lixS rfl fun w v g H r ok => ?_)
          obtain ⟨xs, e⟩ := mtOk_lindex ok
          obtain ⟨a, vs, rfl, hs, _⟩ := rep_asLl e r
          exact .inl ⟨rfl, _, hs⟩
        | split =>
          refine PE.imp (pe_bm PySem.F.plainAttrs_str PySem.F.slot_str_split PySem.F.type_str_split mt_splitS (op_of C ha sa) (s C h4).1 (plain_attr h1 _ _) hfew hline hst hba) (fw "str" splS rfl fun w v g H r ok => ?_)
          obtain ⟨z, rfl⟩ := mtOk_split ok
          have := rep_str r
          subst this
          rfl
        | index =>
          refine PE.imp (pe_bm PySem.F.plainAttrs_str PySem.F.slot_str_index PySem.F.type_str_index mt_indexS (op_of C ha sa) (s C h4).1 (plain_attr h1 _ _) hfew hline hst hba) (fw "str" idxS rfl fun w v g H r ok => ?_)
          obtain ⟨z, rfl⟩ := mtOk_index ok
          have := rep_str r
          subst this
          rfl
      exact ⟨z, fun _ => pt_plain z rfl⟩
  · cases h
end
end Mn
/-! MnR: a text turned about. -/
namespace Mn
open PySem L2
def tRevS (te : TE) : TE := fun σ H Q => te σ H fun x H1 => ∃ z : Str, x = .str z ∧ z.length ≤ sizeLine ∧ Q (.str ⟨z.cps.toList.reverse.toArray⟩) H1
theorem rev_pick (z : Str) : ((Builtin.Str.strSliceIndices none none (-1) z.length).filterMap (z.cps[·]?)) = z.cps.toList.reverse := by
  show ((sliceRange ((z.cps.size : Int) - 1) (-1) (-1)).filterMap (z.cps[·]?)) = _
  rw [PySem.W.krv_sliceRange, PySem.W.krv_range, List.filterMap_reverse, PySem.W.krv_all]
open PySem.Spec PyProof.Rows in
theorem pe_revS {X : Cx} {e : Expr} {te : TE} {k : Nat} {p1 p2 p3 pos : Pos} (he : PE X e te) : PE X (.Subscript e (.Slice none none (some (.UnaryOp .USub (.Constant (.int 1) k p1) p2)) p3) pos) (tRevS te) := by
  refine ⟨fun pins s σ H Q I h => ?_⟩
  refine Subscript_ (thn (he.run pins s σ H _ I h) fun v s1 ⟨x, H1, I1, r1, q1⟩ => ?_)
  obtain ⟨z, ex, hz, q⟩ := q1
  subst ex
  obtain ⟨tk, rfl⟩ := r1
  have hst : PO X (some (.UnaryOp .USub (.Constant (.int 1) k p1) p2)) (tPart (tUn (rU fun i => .int (-i)) (tC (.int 1)))) := po_some (pe_un un_neg pe_int)
  refine wpAny_Slice (thn (po_none.run pins s1 σ H1 (fun o H2 => o = none ∧ H2 = H1) I1 ⟨rfl, rfl⟩) fun vl s2 ⟨l, H2, I2, pl, el, e2⟩ => ?_)
  subst el e2
  refine thn (po_none.run pins s2 σ H2 (fun o H3 => o = none ∧ H3 = H2) I2 ⟨rfl, rfl⟩) fun vu s3 ⟨u, H3, I3, pu, eu, e3⟩ => ?_
  subst eu e3
  refine thn (hst.run pins s3 σ H3 (fun o H4 => o = some (-1) ∧ H4 = H3) I3 ⟨1, rfl, -1, rfl, rfl, rfl⟩) fun vs s4 ⟨o, H4, I4, ps, eo, e4⟩ => ?_
  subst eo e4
  have I5 : Inv X pins σ H4 { s4 with heap := s4.heap.push { cls := .type "slice", data := .fields #[vl, vu, vs] } } := I4.kept (t' := s4.toks) fun b ob q => Heap.get?_push_of_some _ q
  cases pl
  cases pu
  cases ps with
  | int i t1 =>
    show wpAny (model X.prog X.w) X.A (subscriptTail e (.Slice none none (some (.UnaryOp .USub (.Constant (.int 1) k p1) p2)) p3) (.str z tk) (.ref s4.heap.objs.size)) (EP X pins σ Q) X.xe { s4 with heap := s4.heap.push { cls := .type "slice", data := .fields #[.none, .none, .int (-1) t1] } }
    refine tail_any (ops := [.str z tk, .ref s4.heap.objs.size]) (typeIs_str _ _ _) (PySem.F.slot_str_getitem.lookup) ?_ (by with_unfolding_all rfl)
    refine wpAny_getItem_str_slice (l := none) (u := none) (st := some (-1, t1)) ⟨_, Heap.get?_push_size _ rfl, rfl, rfl⟩ rfl ?_
    show Made.post (if ((-1 : Int) == 1 && (Builtin.Str.strSliceIndices none none (-1) z.length).length == z.length) = true then Made.val (.str z tk)
      else Made.str ⟨((Builtin.Str.strSliceIndices none none (-1) z.length).filterMap (z.cps[·]?)).toArray⟩) (EP X pins σ Q) _
    rw [show ((-1 : Int) == 1) = false from rfl, Bool.false_and, if_neg Bool.false_ne_true, rev_pick]
    exact ⟨by simpa [Str.length] using hz, .str _, H4, I5.tok _, ⟨_, rfl⟩, q⟩
end Mn
/-! MnR2: a tuple turned about. -/
namespace Mn
section
open PySem PyProof.Rows PySem.SeqAt PySem.MeetsSeq PySem.MeetsSeq2 PySem.MeetsSeq3 HT PySem.Spec
variable {prog : Program} {w : World} {A : Around} {E : Value → Shared → Prop} {s : Shared}
theorem adjust_rev (n : Nat) : Builtin.Slice.sliceAdjust none none (-1) (n : Int) = ((n : Int) - 1, -1) := by
  unfold Builtin.Slice.sliceAdjust
  simp
theorem places_rev (n : Nat) : Builtin.Slice.slicePlaces ((n : Int) - 1) (-1) (-1) = n := by
  unfold Builtin.Slice.slicePlaces
  simp
  omega
theorem sliceApplied_rev {sl : Addr} {t1 : Tok} {n : Nat} {Q : Int × Int × Nat → Shared → Prop} (hs : s.heap.IsSliceOf sl .none .none (.int (-1) t1))
    (h : Q ((n : Int) - 1, -1, n) s) : wpAny (model prog w) A (Builtin.Slice.sliceApplied (.ref sl) (pure (n : Int))) Q E s := by
  obtain ⟨os, hos, hcs, hds⟩ := id hs
  unfold Builtin.Slice.sliceApplied Builtin.Slice.sliceFields
  refine wpAny_bind (wpAny_bind (wpAny_field hos hds (x := .none) rfl (wpAny_bind (wpAny_field hos hds (x := .none) rfl (wpAny_bind (wpAny_field hos hds (x := .int (-1) t1) rfl (wpAny_pure ?_)))))))
  refine wpAny_bind (slicePart_int ?_)
  show wpAny _ _ (if ((-1 : Int) == 0) = true then _ else _) _ _ s
  rw [if_neg (by decide)]
  refine wpAny_bind (slicePart_none (wpAny_bind (slicePart_none (wpAny_bind (wpAny_pure ?_)))))
  show wpAny _ _ (match Builtin.Slice.sliceAdjust none none (-1) (n : Int) with | (lo, hi) => pure (lo, (-1 : Int), Builtin.Slice.slicePlaces lo hi (-1))) _ _ s
  rw [adjust_rev]
  show wpAny _ _ (pure (((n : Int) - 1), (-1 : Int), Builtin.Slice.slicePlaces ((n : Int) - 1) (-1) (-1))) _ _ s
  rw [places_rev]
  exact wpAny_pure h
theorem pick_rev (xs : Array Value) : ((List.range xs.size).filterMap fun (k : Nat) => xs[(((xs.size : Int) - 1) + (k : Int) * (-1)).toNat]?).toArray = xs.toList.reverse.toArray := by
  have e : (List.range xs.size).filterMap (fun (k : Nat) => xs[(((xs.size : Int) - 1) + (k : Int) * (-1)).toNat]?) = ((List.range xs.size).map (fun k => xs.size - 1 - k)).filterMap (xs[·]?) := by
    rw [List.filterMap_map]
    congr 1
    funext k
    have : (((xs.size : Int) - 1) + (k : Int) * (-1)).toNat = xs.size - 1 - k := by omega
    simp only [Function.comp, this]
  rw [e, PySem.W.krv_range, List.filterMap_reverse, PySem.W.krv_all]
theorem getItem_tuple_rev {t sl : Addr} {items : Array Value} {t1 : Tok} {Q : Value → Shared → Prop} (ht : IsTup s.heap t items) (hs : s.heap.IsSliceOf sl .none .none (.int (-1) t1))
    (h : Q (.ref s.heap.objs.size) { s with heap := s.heap.push { cls := .type "tuple", data := .seq items.toList.reverse.toArray } })
    (hsz : items.size ≤ sizeLine) : wpAny (model prog w) A (getItem (.ref t) (.ref sl)) Q E s := by
  have htake : sizeOk (.seq items.toList.reverse.toArray) := by
    show items.toList.reverse.toArray.size ≤ sizeLine
    rw [List.size_toArray, List.length_reverse, Array.length_toList]
    omega
  obtain ⟨os, hos, hcs, hds⟩ := id hs
  have hTs : s.TypeIs (.ref sl) "slice" := ⟨os, hos, hcs⟩
  unfold getItem
  try with_reducible refine wpAny_holding ?_
  first | refine wpAny_bind (wpAny_pure ?_) | skip
  refine wpAny_bind (wpAny_sequenceKey ht.typeIs (by decide) ?_)
  refine wpAny_bind (wpAny_callSpecial?_slot (name := Str.ofString "__getitem__") ht.typeIs PyProof.Rows.slot_tuple_getitem
    (wpAny_call_entry PyProof.Rows.slot_tuple_getitem ht.typeIs entry_tuple_getitem ?_ (args_tuple_getitem _ _)))
  show wpAny _ _ (Builtin.Tuple.tupleItemsOf (.ref t) >>= _) _ _ s
  refine wpAny_bind (tupleItemsOf_ ht ?_)
  refine wpAny_bind (wpAny_typeOf hTs ?_)
  rw [if_pos (by decide)]
  refine wpAny_bind (sliceApplied_rev hs ?_)
  have hno : ¬ ((((items.size : Nat) : Int) - 1 == 0 && (-1 : Int) == 1 && items.size == items.size) = true) := by
    intro q
    rw [Bool.and_eq_true, Bool.and_eq_true] at q
    exact absurd q.1.2 (by decide)
  show wpAny _ _ (if (((items.size : Nat) : Int) - 1 == 0 && (-1 : Int) == 1 && items.size == items.size) = true then _ else _) _ _ s
  rw [if_neg hno, pick_rev]
  first
    | exact wpAny_bind (m := Builtin.Tuple.tupleExact _) (wpAny_newObj_type (wpAny_pure ⟨_, rfl, wpAny_pure h⟩) htake)
    | exact wpAny_bind (m := Builtin.Tuple.tupleExact _) (wpAny_newObj_type (wpAny_bind (wpAny_pure (wpAny_pure ⟨_, rfl, wpAny_pure h⟩))) htake)
    | exact wpAny_bind (wpAny_bind (m := Builtin.Tuple.tupleExact _) (wpAny_newObj_type (wpAny_pure (wpAny_pure ⟨_, rfl, wpAny_pure h⟩)) htake))
    | exact wpAny_bind (wpAny_bind (m := Builtin.Tuple.tupleExact _) (wpAny_newObj_type (wpAny_pure ⟨_, rfl, wpAny_pure h⟩) htake))
end
section
open PySem PySem.Spec PyProof.Rows L2
theorem pe_revT {X : Cx} {e : Expr} {te : TE} {k : Nat} {p1 p2 p3 pos : Pos} (he : PE X e te) : PE X (.Subscript e (.Slice none none (some (.UnaryOp .USub (.Constant (.int 1) k p1) p2)) p3) pos) (fun σ H Q => te σ H fun x H1 => ∃ a xs, x = .ref a ∧ SqT X.K H1 a xs ∧ QT Q H1 xs.reverse) := by
  refine ⟨fun pins s σ H Q I h => ?_⟩
  refine Subscript_ (thn (he.run pins s σ H _ I h) fun v s1 ⟨x, H1, I1, r1, q1⟩ => ?_)
  obtain ⟨a, xs, ex, hx, q⟩ := q1
  subst ex
  cases r1
  have hst : PO X (some (.UnaryOp .USub (.Constant (.int 1) k p1) p2)) (tPart (tUn (rU fun i => .int (-i)) (tC (.int 1)))) := po_some (pe_un un_neg pe_int)
  refine wpAny_Slice (thn (po_none.run pins s1 σ H1 (fun o H2 => o = none ∧ H2 = H1) I1 ⟨rfl, rfl⟩) fun vl s2 ⟨l, H2, I2, pl, el, e2⟩ => ?_)
  subst el e2
  refine thn (po_none.run pins s2 σ H2 (fun o H3 => o = none ∧ H3 = H2) I2 ⟨rfl, rfl⟩) fun vu s3 ⟨u, H3, I3, pu, eu, e3⟩ => ?_
  subst eu e3
  refine thn (hst.run pins s3 σ H3 (fun o H4 => o = some (-1) ∧ H4 = H3) I3 ⟨1, rfl, -1, rfl, rfl, rfl⟩) fun vs s4 ⟨o, H4, I4, ps, eo, e4⟩ => ?_
  subst eo e4
  have I5 : L2.Inv X pins σ H4 { s4 with heap := s4.heap.push { cls := .type "slice", data := .fields #[vl, vu, vs] } } := I4.kept (t' := s4.toks) fun b ob q => Heap.get?_push_of_some _ q
  obtain ⟨its, r, ht, hz⟩ := I5.tuple hx
  have hlen := r.length
  show wpAny (model X.prog X.w) X.A (subscriptTail e (.Slice none none (some (.UnaryOp .USub (.Constant (.int 1) k p1) p2)) p3) (.ref a) (.ref s4.heap.objs.size)) (EP X pins σ Q) X.xe { s4 with heap := s4.heap.push { cls := .type "slice", data := .fields #[vl, vu, vs] } }
  refine tail_any (ops := [.ref a, .ref s4.heap.objs.size]) ht.typeIs (PyProof.Rows.slot_tuple_getitem.lookup) ?_ (by with_unfolding_all rfl)
  cases pl
  cases pu
  cases ps with
  | int i t1 =>
    refine getItem_tuple_rev ht (Heap.IsSliceOf.new _ .none .none (.int (-1) t1)) ?_ (by rw [List.size_toArray]; omega)
    exact ⟨.ref _, _, laidT (t' := s4.toks) I5 r.reverse (by rw [List.length_reverse]; exact hz), rfl, q _ _ (I5.hok.fresh (Nat.le_refl _)) rfl⟩
end
end Mn
/-! MnR3: a tuple's items behind the first, turned about. -/
namespace Mn
section
open PySem PyProof.Rows PySem.SeqAt PySem.MeetsSeq PySem.MeetsSeq2 PySem.MeetsSeq3 HT PySem.Spec
variable {prog : Program} {w : World} {A : Around} {E : Value → Shared → Prop} {s : Shared}
theorem adjust_rev1 (n : Nat) : Builtin.Slice.sliceAdjust none (some 0) (-1) (n : Int) = ((n : Int) - 1, min 0 ((n : Int) - 1)) := by
  unfold Builtin.Slice.sliceAdjust
  simp
theorem places_rev1 (n : Nat) : Builtin.Slice.slicePlaces ((n : Int) - 1) (min 0 ((n : Int) - 1)) (-1) = n - 1 := by
  unfold Builtin.Slice.slicePlaces
  simp
  omega
theorem sliceApplied_rev1 {sl : Addr} {t0 t1 : Tok} {n : Nat} {Q : Int × Int × Nat → Shared → Prop} (hs : s.heap.IsSliceOf sl .none (.int 0 t0) (.int (-1) t1))
    (h : Q ((n : Int) - 1, -1, n - 1) s) : wpAny (model prog w) A (Builtin.Slice.sliceApplied (.ref sl) (pure (n : Int))) Q E s := by
  obtain ⟨os, hos, hcs, hds⟩ := id hs
  unfold Builtin.Slice.sliceApplied Builtin.Slice.sliceFields
  refine wpAny_bind (wpAny_bind (wpAny_field hos hds (x := .none) rfl (wpAny_bind (wpAny_field hos hds (x := .int 0 t0) rfl (wpAny_bind (wpAny_field hos hds (x := .int (-1) t1) rfl (wpAny_pure ?_)))))))
  refine wpAny_bind (slicePart_int ?_)
  show wpAny _ _ (if ((-1 : Int) == 0) = true then _ else _) _ _ s
  rw [if_neg (by decide)]
  refine wpAny_bind (slicePart_none (wpAny_bind (slicePart_int (wpAny_bind (wpAny_pure ?_)))))
  show wpAny _ _ (match Builtin.Slice.sliceAdjust none (some 0) (-1) (n : Int) with | (lo, hi) => pure (lo, (-1 : Int), Builtin.Slice.slicePlaces lo hi (-1))) _ _ s
  rw [adjust_rev1]
  show wpAny _ _ (pure (((n : Int) - 1), (-1 : Int), Builtin.Slice.slicePlaces ((n : Int) - 1) (min 0 ((n : Int) - 1)) (-1))) _ _ s
  rw [places_rev1]
  exact wpAny_pure h
theorem pick_rev1 (xs : Array Value) : ((List.range (xs.size - 1)).filterMap fun (k : Nat) => xs[(((xs.size : Int) - 1) + (k : Int) * (-1)).toNat]?).toArray = (xs.toList.drop 1).reverse.toArray := by
  congr 1
  apply List.ext_getElem?
  intro i
  have hz : ∀ (l : List Nat), (∀ k ∈ l, k < xs.size - 1) → l.filterMap (fun (k : Nat) => xs[(((xs.size : Int) - 1) + (k : Int) * (-1)).toNat]?) = l.map (fun k => (xs.toList.drop 1).reverse.getD k default) := by
    intro l
    induction l with
    | nil => intro _; rfl
    | cons k l ih =>
      intro h
      have hk' := h k List.mem_cons_self
      have h1 : (((xs.size : Int) - 1) + (k : Int) * (-1)).toNat = xs.size - 1 - k := by omega
      have h2 : xs.size - 1 - k < xs.size := by omega
      have h3 : k < (xs.toList.drop 1).reverse.length := by simp; omega
      have h4 : (xs.toList.drop 1).reverse.getD k default = xs[xs.size - 1 - k] := by
        rw [List.getD_eq_getElem?_getD, List.getElem?_eq_getElem h3]
        simp only [Option.getD_some, List.getElem_reverse, List.getElem_drop, List.length_drop, Array.length_toList, Array.getElem_toList]
        congr 1
        omega
      rw [List.filterMap_cons, h1, Array.getElem?_eq_getElem h2, List.map_cons, ih fun k hk => h k (List.mem_cons_of_mem _ hk), h4]
  have e := hz (List.range (xs.size - 1)) fun k hk => List.mem_range.mp hk
  rw [e]
  by_cases hi : i < xs.size - 1
  · have h3 : i < (xs.toList.drop 1).reverse.length := by simp; omega
    rw [List.getElem?_map, List.getElem?_range hi, List.getElem?_eq_getElem h3]
    simp only [Option.map_some, List.getD_eq_getElem?_getD, List.getElem?_eq_getElem h3, Option.getD_some]
  · rw [List.getElem?_eq_none (by simpa using Nat.le_of_not_lt hi), List.getElem?_eq_none (by simp; omega)]
theorem getItem_tuple_rev1 {t sl : Addr} {items : Array Value} {t0 t1 : Tok} {Q : Value → Shared → Prop} (ht : IsTup s.heap t items) (hs : s.heap.IsSliceOf sl .none (.int 0 t0) (.int (-1) t1))
    (h : Q (.ref s.heap.objs.size) { s with heap := s.heap.push { cls := .type "tuple", data := .seq (items.toList.drop 1).reverse.toArray } })
    (hsz : items.size ≤ sizeLine) : wpAny (model prog w) A (getItem (.ref t) (.ref sl)) Q E s := by
  have htake : sizeOk (.seq (items.toList.drop 1).reverse.toArray) := by
    show (items.toList.drop 1).reverse.toArray.size ≤ sizeLine
    rw [List.size_toArray, List.length_reverse, List.length_drop, Array.length_toList]
    omega
  obtain ⟨os, hos, hcs, hds⟩ := id hs
  have hTs : s.TypeIs (.ref sl) "slice" := ⟨os, hos, hcs⟩
  unfold getItem
  try with_reducible refine wpAny_holding ?_
  first | refine wpAny_bind (wpAny_pure ?_) | skip
  refine wpAny_bind (wpAny_sequenceKey ht.typeIs (by decide) ?_)
  refine wpAny_bind (wpAny_callSpecial?_slot (name := Str.ofString "__getitem__") ht.typeIs PyProof.Rows.slot_tuple_getitem
    (wpAny_call_entry PyProof.Rows.slot_tuple_getitem ht.typeIs entry_tuple_getitem ?_ (args_tuple_getitem _ _)))
  show wpAny _ _ (Builtin.Tuple.tupleItemsOf (.ref t) >>= _) _ _ s
  refine wpAny_bind (tupleItemsOf_ ht ?_)
  refine wpAny_bind (wpAny_typeOf hTs ?_)
  rw [if_pos (by decide)]
  refine wpAny_bind (sliceApplied_rev1 hs ?_)
  have hno : ¬ ((((items.size : Nat) : Int) - 1 == 0 && (-1 : Int) == 1 && items.size - 1 == items.size) = true) := by
    intro q
    rw [Bool.and_eq_true, Bool.and_eq_true] at q
    exact absurd q.1.2 (by decide)
  show wpAny _ _ (if (((items.size : Nat) : Int) - 1 == 0 && (-1 : Int) == 1 && items.size - 1 == items.size) = true then _ else _) _ _ s
  rw [if_neg hno, pick_rev1]
  first
    | exact wpAny_bind (m := Builtin.Tuple.tupleExact _) (wpAny_newObj_type (wpAny_pure ⟨_, rfl, wpAny_pure h⟩) htake)
    | exact wpAny_bind (m := Builtin.Tuple.tupleExact _) (wpAny_newObj_type (wpAny_bind (wpAny_pure (wpAny_pure ⟨_, rfl, wpAny_pure h⟩))) htake)
    | exact wpAny_bind (wpAny_bind (m := Builtin.Tuple.tupleExact _) (wpAny_newObj_type (wpAny_pure (wpAny_pure ⟨_, rfl, wpAny_pure h⟩)) htake))
    | exact wpAny_bind (wpAny_bind (m := Builtin.Tuple.tupleExact _) (wpAny_newObj_type (wpAny_pure ⟨_, rfl, wpAny_pure h⟩) htake))
end
section
open PySem PySem.Spec PyProof.Rows L2
theorem pe_rev1 {X : Cx} {e : Expr} {te : TE} {k0 k : Nat} {p0 p1 p2 p3 pos : Pos} (he : PE X e te) : PE X (.Subscript e (.Slice none (some (.Constant (.int 0) k0 p0)) (some (.UnaryOp .USub (.Constant (.int 1) k p1) p2)) p3) pos) (fun σ H Q => te σ H fun x H1 => ∃ a xs, x = .ref a ∧ SqT X.K H1 a xs ∧ QT Q H1 (xs.drop 1).reverse) := by
  refine ⟨fun pins s σ H Q I h => ?_⟩
  refine Subscript_ (thn (he.run pins s σ H _ I h) fun v s1 ⟨x, H1, I1, r1, q1⟩ => ?_)
  obtain ⟨a, xs, ex, hx, q⟩ := q1
  subst ex
  cases r1
  have hst : PO X (some (.UnaryOp .USub (.Constant (.int 1) k p1) p2)) (tPart (tUn (rU fun i => .int (-i)) (tC (.int 1)))) := po_some (pe_un un_neg pe_int)
  have hs0 : PO X (some (.Constant (.int 0) k0 p0)) (tPart (tC (.int 0))) := po_some pe_int
  refine wpAny_Slice (thn (po_none.run pins s1 σ H1 (fun o H2 => o = none ∧ H2 = H1) I1 ⟨rfl, rfl⟩) fun vl s2 ⟨l, H2, I2, pl, el, e2⟩ => ?_)
  subst el e2
  refine thn (hs0.run pins s2 σ H2 (fun o H3 => o = some 0 ∧ H3 = H2) I2 ⟨0, rfl, rfl, rfl⟩) fun vu s3 ⟨u, H3, I3, pu, eu, e3⟩ => ?_
  subst eu e3
  refine thn (hst.run pins s3 σ H3 (fun o H4 => o = some (-1) ∧ H4 = H3) I3 ⟨1, rfl, -1, rfl, rfl, rfl⟩) fun vs s4 ⟨o, H4, I4, ps, eo, e4⟩ => ?_
  subst eo e4
  have I5 : L2.Inv X pins σ H4 { s4 with heap := s4.heap.push { cls := .type "slice", data := .fields #[vl, vu, vs] } } := I4.kept (t' := s4.toks) fun b ob q => Heap.get?_push_of_some _ q
  obtain ⟨its, r, ht, hz⟩ := I5.tuple hx
  have hlen := r.length
  show wpAny (model X.prog X.w) X.A (subscriptTail e (.Slice none (some (.Constant (.int 0) k0 p0)) (some (.UnaryOp .USub (.Constant (.int 1) k p1) p2)) p3) (.ref a) (.ref s4.heap.objs.size)) (EP X pins σ Q) X.xe { s4 with heap := s4.heap.push { cls := .type "slice", data := .fields #[vl, vu, vs] } }
  refine tail_any (ops := [.ref a, .ref s4.heap.objs.size]) ht.typeIs (PyProof.Rows.slot_tuple_getitem.lookup) ?_ (by with_unfolding_all rfl)
  cases pl
  cases pu with
  | int i0 t0 =>
    cases ps with
    | int i t1 =>
      refine getItem_tuple_rev1 ht (Heap.IsSliceOf.new _ .none (.int 0 t0) (.int (-1) t1)) ?_ (by rw [List.size_toArray]; omega)
      exact ⟨.ref _, _, laidT (t' := s4.toks) I5 (r.drop 1).reverse (by rw [List.length_reverse, List.length_drop]; omega), rfl, q _ _ (I5.hok.fresh (Nat.le_refl _)) rfl⟩
end
end Mn
/-! MnK: sets of texts: made of a list, counted, sorted. -/
namespace Mn
section
open PySem PySem.Spec PyProof.Rows L2
def txtOf (e : Int × Value) : Str := match e.2 with
  | .str z _ => z
  | _ => Str.empty
def GoodS (P : Program) (w : World) (e : Int × Value) : Prop := ∃ z tk, e.2 = Value.str z tk ∧ e.1 = (PySem.strKind P w).hash z
/-- the set of texts at a: S its members, n their number -/
def SetX (P : Program) (w : World) (h : Heap) (a : Addr) (S : Str → Bool) (n : Nat) : Prop :=
  ∃ o es ep t, h.get? a = some o ∧ o.ExactSet ∧ o.data = .set es ep t ∧ (∀ e ∈ es.toList, GoodS P w e) ∧ (es.toList.map txtOf).Nodup ∧ (∀ k, S k = true ↔ k ∈ es.toList.map txtOf) ∧
    es.size < scanBound ∧ t.fits es.size = true ∧ es.size = n ∧ L2.Ris t.place.toList ∧ (w.params.followText "set-order" = true ∨ t.led = true)
variable {P : Program} {w : World} {A : Around} {E : Value → Shared → Prop} {s : Shared} {h h' : Heap} {a : Addr} {S : Str → Bool} {n : Nat}
theorem SetX.at (R : SetX P w h a S n) (k : ∀ o, h.get? a = some o → h'.get? a = some o) : SetX P w h' a S n := by
  obtain ⟨o, es, ep, t, ho, r⟩ := R
  exact ⟨o, es, ep, t, k o ho, r⟩
theorem SetX.congr {S' : Str → Bool} {m : Nat} (R : SetX P w h a S n) (e : ∀ k, S' k = S k) (f : m = n) : SetX P w h a S' m := by
  have q : S' = S := funext e
  rw [q, f]; exact R
theorem goodS_elems {l : List (Int × Value)} (g : ∀ e ∈ l, GoodS P w e) : ElemsOf (PySem.strKind P w) l := fun e he => by
  obtain ⟨k, tk, h1, h2⟩ := g e he
  exact ⟨⟨k, by rw [h1]; exact strKind_is _ _ _ _, h2⟩, by rw [h1] <;> rfl⟩
theorem goodS_is {e : Int × Value} (g : GoodS P w e) (k : Str) : (PySem.strKind P w).is k e.2 = true ↔ txtOf e = k := by
  obtain ⟨k0, tk, h1, _⟩ := g
  unfold txtOf
  rw [h1]
  show ((k0 == k) = true) ↔ k0 = k
  exact beq_iff_eq
theorem goodS_mem {l : List (Int × Value)} (g : ∀ e ∈ l, GoodS P w e) (k : Str) : k ∈ l.map txtOf ↔ ∃ e ∈ l, (PySem.strKind P w).is k e.2 = true := by
  rw [List.mem_map]
  constructor
  · rintro ⟨e, he, q⟩
    exact ⟨e, he, (goodS_is (g e he) k).2 q⟩
  · rintro ⟨e, he, q⟩
    exact ⟨e, he, (goodS_is (g e he) k).1 q⟩
theorem SetX.setOf (R : SetX P w h a S n) : h.SetOf (PySem.strKind P w) a S n := by
  obtain ⟨o, es, ep, t, ho, hx, hd, g, nd, hm, hb, hf, hn, _⟩ := R
  exact ⟨o, es, ep, t, ho, hx, hd, goodS_elems g, fun k => (hm k).trans (goodS_mem g k), hb, hf, hn⟩
theorem setX_add_tail {g : Bool → Sem Unit} (hg : ∀ (b : Bool) (s₁ : Shared) (Q' : Unit → Shared → Prop), Q' () s₁ → wpAny (model P w) A (g b) Q' E s₁)
    {o : Obj} {es : Array (Int × Value)} {ep : Nat} {t : SetTable} (ho : s.heap.get? a = some o) (hex : o.ExactSet) (hd : o.data = .set es ep t)
    {es1 : Array (Int × Value)} {t2 : SetTable} {S' : Str → Bool} (g1 : ∀ e ∈ es1.toList, GoodS P w e) (nd1 : (es1.toList.map txtOf).Nodup) (m1 : ∀ k, S' k = true ↔ k ∈ es1.toList.map txtOf)
    (hb1 : es1.size < scanBound) (hf2 : t2.fits es1.size = true) (hr : L2.Ris t2.place.toList) (hl : w.params.followText "set-order" = true ∨ t2.led = true) {wasDummy : Bool} {R : Option Bool → Shared → Prop}
    (hR : ∀ h', Heap.SameBut a s.heap h' → SetX P w h' a S' es1.size → R (some true) { s with heap := h' }) :
    wpAny (model P w) A (do
        storeSet a es1 t2
        if (!wasDummy && t2.tooFull) = true then do
            g (relayAll t2 es1 (SetTable.grown es1.size)).2.2
            storeSet a (relayAll t2 es1 (SetTable.grown es1.size)).1 (relayAll t2 es1 (SetTable.grown es1.size)).2.1
            pure (some true)
          else pure (some true)) R E s := by
  refine wpAny_bind (wpAny_storeSet_of ho hd ?_ (fits_of_scanBound hb1))
  have ho1 := L2.store_at (es' := es1) (t' := t2) ho hd
  have sb1 := Heap.SameBut.update s.heap a (Obj.putSet es1 t2)
  split
  · have pm := relayAll_perm t2 es1 (SetTable.grown es1.size)
    have hf3 := relayAll_fits t2 es1 (SetTable.grown es1.size)
    have hr3 := L2.relayAll_ris t2 es1 (SetTable.grown es1.size)
    have hl3 := L2.relayAll_led t2 es1 (SetTable.grown es1.size)
    generalize relayAll t2 es1 (SetTable.grown es1.size) = Z at pm hf3 hr3 hl3 ⊢
    obtain ⟨es2, t3, gave⟩ := Z
    dsimp only at pm hf3 hr3 hl3 ⊢
    have hsz : es2.size = es1.size := by rw [← Array.length_toList, pm.length_eq, Array.length_toList]
    have hb2 : es2.size < scanBound := by rw [hsz]; exact hb1
    refine wpAny_bind (hg _ _ _ ?_)
    refine wpAny_bind (wpAny_storeSet_of ho1 rfl ?_ (fits_of_scanBound hb2))
    have ho2 := L2.store_at (es' := es2) (t' := t3) ho1 rfl
    refine wpAny_pure (hR _ (sb1.trans (Heap.SameBut.update _ a _)) ?_)
    exact ⟨_, es2, _, t3, ho2, hex, rfl, fun e he => g1 e (pm.mem_iff.mp he), (pm.map txtOf).nodup_iff.mpr nd1, fun k => (m1 k).trans (pm.map txtOf).mem_iff.symm, hb2, hf3, hsz, hr3,
      hl.imp id fun z => by rw [hl3]; exact z⟩
  · exact wpAny_pure (hR _ sb1 ⟨_, es1, _, t2, ho1, hex, rfl, g1, nd1, m1, hb1, hf2, rfl, hr, hl⟩)
theorem setX_add_hashed {k : Str} {tk : Tok} {Q : Bool → Shared → Prop} (R : SetX P w s.heap a S n) (room : n + 1 < scanBound)
    (hQ : ∀ h', Heap.SameBut a s.heap h' → SetX P w h' a (fun j => S j || decide (j = k)) (if S k = true then n else n + 1) → Q (!S k) { s with heap := h' }) :
    wpAny (model P w) A (setAddHashed a (.str k tk) ((PySem.strKind P w).hash k)) Q E s := by
  obtain ⟨o, es, ep, t, ho, hex, hd, g, nd, hm, hb, hf, hn, hr, hl⟩ := R
  have hkey : (PySem.strKind P w).is k (.str k tk) = true := strKind_is _ _ _ _
  have hsc : (Value.str k tk).scannable = true := rfl
  have hel : ElemsOf (PySem.strKind P w) es.toList := goodS_elems g
  unfold setAddHashed setAddHashedIn
  refine wpAny_holding (wpAny_bind (wpAny_setState_of ho hd hf ?_))
  dsimp only
  rw [byScan_of hsc hb hel]
  simp only [↓reduceIte]
  unfold setAddByScan
  refine wpAny_bind ?_
  refine wpAny_bind (wpAny_rule ?_)
  refine wpAny_bind (wpAny_setScan_of hkey ho hd hf hel ?_)
  cases hfi : List.findIdx? (fun e => (PySem.strKind P w).is k e.2) es.toList with
  | some j =>
    dsimp only
    obtain ⟨hj, pj, _⟩ := List.findIdx?_eq_some_iff_getElem.mp hfi
    have hSk : S k = true := (hm k).2 ((goodS_mem (P := P) (w := w) g k).2 ⟨es.toList[j], List.getElem_mem hj, pj⟩)
    refine wpAny_pure (wpAny_pure ?_)
    have q := hQ s.heap (Heap.SameBut.refl a s.heap) ⟨o, es, ep, t, ho, hex, hd, g, nd, fun i => by
      rw [Bool.or_eq_true, decide_eq_true_eq, ← hm i]
      exact ⟨fun z => z.elim id (fun e => e ▸ hSk), .inl⟩, hb, hf, by rw [if_pos hSk]; exact hn, hr, hl⟩
    rw [hSk] at q
    exact q
  | none =>
    dsimp only
    have hnk : k ∉ es.toList.map txtOf := fun z => by
      obtain ⟨e, he, q⟩ := (goodS_mem (P := P) (w := w) g k).1 z
      have c := List.findIdx?_eq_none_iff.mp hfi e he
      rw [q] at c
      cases c
    have hSk : S k = false := by
      cases q : S k with
      | false => rfl
      | true => exact absurd ((hm k).1 q) hnk
    have hgw : ∀ (b : Bool) {s₁ : Shared} {Q' : Unit → Shared → Prop}, Q' () s₁ → wpAny (model P w) A (match b with | true => rule "set.scan.the-table-gave-way" | false => pure ()) Q' E s₁ :=
      fun b s₁ Q' q => by cases b <;> first | exact wpAny_pure q | exact wpAny_rule q
    have pm := layNew_perm t es ((PySem.strKind P w).hash k) (.str k tk)
    have hf1 := layNew_fits t es ((PySem.strKind P w).hash k) (.str k tk)
    have hr1 := L2.layNew_ris t es ((PySem.strKind P w).hash k) (.str k tk) hr
    have hl1 := L2.layNew_led t es ((PySem.strKind P w).hash k) (.str k tk)
    generalize layNew t es ((PySem.strKind P w).hash k) (.str k tk) = Z at pm hf1 hr1 hl1 ⊢
    obtain ⟨es1, t1, wasDummy, gave⟩ := Z
    dsimp only at pm hf1 hr1 hl1 ⊢
    rw [Array.toList_push] at pm
    have pc : es1.toList.Perm (((PySem.strKind P w).hash k, Value.str k tk) :: es.toList) := pm.trans (List.perm_append_singleton _ _)
    have pk : (es1.toList.map txtOf).Perm (k :: es.toList.map txtOf) := pc.map txtOf
    have g1 : ∀ e ∈ es1.toList, GoodS P w e := fun e he => by
      rcases List.mem_cons.mp (pc.mem_iff.mp he) with z | z
      · rw [z]; exact ⟨k, tk, rfl, rfl⟩
      · exact g e z
    have nd1 : (es1.toList.map txtOf).Nodup := pk.nodup_iff.mpr (List.nodup_cons.mpr ⟨hnk, nd⟩)
    have m1 : ∀ i, (S i || decide (i = k)) = true ↔ i ∈ es1.toList.map txtOf := fun i => by
      rw [Bool.or_eq_true, decide_eq_true_eq, hm i, pk.mem_iff, List.mem_cons]
      exact Or.comm
    have hsz : es1.size = n + 1 := by rw [← Array.length_toList, pc.length_eq, List.length_cons, Array.length_toList, hn]
    have hb1 : es1.size < scanBound := by rw [hsz]; exact room
    have hled : w.params.followText "set-order" = true ∨ t1.led = true := hl.imp id fun z => by rw [hl1]; exact z
    have fin : ∀ h', Heap.SameBut a s.heap h' → SetX P w h' a (fun j => S j || decide (j = k)) es1.size → Q true { s with heap := h' } := fun h' sb r => by
      have q := hQ h' sb
      rw [hSk] at q
      rw [hsz] at r
      exact q r
    refine wpAny_bind (hgw _ ?_)
    split
    · refine wpAny_bind ?_
      rw [hashByValue_scannable 8 hsc]
      refine wpAny_pure ?_
      refine setX_add_tail ?_ ho hex hd g1 nd1 m1 hb1 ?_ ?_ ?_ ?_
      · intro b s₁ Q' q; cases b <;> first | exact wpAny_pure q | exact wpAny_rule q
      · first | (split <;> first | exact hf1 | exact SetTable.fits_plain_off hf1) | exact hf1
      · first | (split <;> exact hr1) | exact hr1
      · first | (split <;> exact hled) | exact hled
      · intro h' sb r; dsimp only; exact wpAny_pure (fin h' sb r)
    · refine wpAny_bind (wpAny_pure ?_)
      simp only [↓reduceIte]
      refine setX_add_tail ?_ ho hex hd g1 nd1 m1 hb1 hf1 hr1 hled ?_
      · intro b s₁ Q' q; cases b <;> first | exact wpAny_pure q | exact wpAny_rule q
      · intro h' sb r; dsimp only; exact wpAny_pure (fin h' sb r)
theorem setX_fresh {h : Heap} {a : Addr} (ho : h.get? a = some { cls := .type "set", dict := none, data := .set #[] 0 (.fresh 0 0 (!w.params.followText "set-order")) }) : SetX P w h a (fun _ => false) 0 :=
  ⟨_, #[], 0, _, ho, ⟨rfl, rfl, rfl⟩, rfl, (fun e he => by simp at he), (by simp), (fun k => by simp), (by decide), (by rfl), rfl, List.Pairwise.nil, by
    show _ ∨ (!w.params.followText "set-order") = true
    cases w.params.followText "set-order"
    · exact .inr rfl
    · exact .inl rfl⟩
/-- how many unlike ones -/
def cnt : List Str → Nat
  | [] => 0
  | x :: r => if x ∈ r then cnt r else cnt r + 1
theorem cnt_le : ∀ l : List Str, cnt l ≤ l.length
  | [] => Nat.le_refl _
  | x :: r => by
    have := cnt_le r
    unfold cnt
    split <;> simp <;> omega
theorem cnt_snoc (l : List Str) (y : Str) : cnt (l ++ [y]) = if y ∈ l then cnt l else cnt l + 1 := by
  induction l with
  | nil => simp [cnt]
  | cons x r ih =>
    rw [List.cons_append, cnt, cnt, ih]
    by_cases hxy : x = y
    · subst hxy
      by_cases hm : x ∈ r <;> simp [hm]
    · have hyx : y ≠ x := fun z => hxy z.symm
      by_cases hm : x ∈ r <;> by_cases hy : y ∈ r <;> simp [hm, hy, hxy, hyx]
def inX (xs : List Str) (i : Nat) : Str → Bool := fun k => decide (k ∈ xs.take i)
/-- set.update's loop -/
theorem set_update_strs {I : Addr} {fp wr : List Addr} {G : Array GenState → Array GenState → Prop} {n : Nat} {Pv : Nat → Value → Prop} {St : Nat → Shared → Prop} {R : Result → Shared → Prop}
    (W : WalksS P w A.in1 I fp wr G n Pv St) (S : Addr) (hSf : S ∉ fp) (xs : List Str) (hn : n = xs.length) (hfew : xs.length + 1 < scanBound) (hval : ∀ i v, Pv i v → ∃ z t, xs[i]? = some z ∧ v = .str z t) :
    ∀ (k i : Nat) (s : Shared), n - i = k → i ≤ n → St i s → SetX P w s.heap S (inX xs i) (cnt (xs.take i)) →
      (∀ s', Moved (S :: wr) G s s' → SetX P w s'.heap S (inX xs n) (cnt (xs.take n)) → R (.ok (.ret .none)) s') →
      codeAny (model P w) A (.builtin "set.update.loop" ⟨[.ref S, .ref I], []⟩) R s := by
  have hSw : S ∉ wr := fun h => hSf (W.sub _ h)
  have hsub : ∀ b ∈ wr, b ∈ S :: wr := fun b hb => List.mem_cons_of_mem _ hb
  intro k
  induction k with
  | zero =>
    intro i s hk' hi hst hS hR
    have hin : i = n := by omega
    subst hin
    refine codeAny_builtin F.entry_set_update_loop ?_
    rw [Around.under_plainId F.plain_set_update_loop _]
    show wpAny _ A.in1 (pyNext (.ref I) >>= _) _ _ s
    refine wpAny_bind (W.done s _ _ hst fun s' hm => ?_)
    show wpAny _ A.in1 (ret Value.none) _ _ s'
    exact wpAny_pure (hR s' (hm.mono hsub) (hS.at fun o e => hm.heap S o hSw e))
  | succ k ih =>
    intro i s hk' hi hst hS hR
    have hlt : i < n := by omega
    refine codeAny_builtin F.entry_set_update_loop ?_
    rw [Around.under_plainId F.plain_set_update_loop _]
    show wpAny _ A.in1 (pyNext (.ref I) >>= _) _ _ s
    refine wpAny_bind (W.item i s _ _ hlt hst fun v s' hP hst' hm => ?_)
    obtain ⟨z, t, hz, rfl⟩ := hval i v hP
    have hS' : SetX P w s'.heap S (inX xs i) (cnt (xs.take i)) := hS.at fun o e => hm.heap S o hSw e
    show wpAny _ A.in1 (holding [Value.str z t] (setAdd S (.str z t)) >>= _) _ _ s'
    refine wpAny_bind (wpAny_holding ?_)
    unfold setAdd
    refine wpAny_holding ?_
    refine wpAny_bind ((PySem.strKind P w).pyHash (k := z) (strKind_is _ _ _ _) ?_)
    have hroom : cnt (xs.take i) + 1 < scanBound := by
      have := cnt_le (xs.take i)
      have := List.length_take_le i xs
      rw [List.length_take] at *
      omega
    refine setX_add_hashed (s := { s' with toks := s'.toks + 1 }) hS' hroom fun h' hsb hS2 => ?_
    have htk : xs.take (i + 1) = xs.take i ++ [z] := by rw [List.take_succ, hz]; rfl
    have hSi : SetX P w h' S (inX xs (i + 1)) (cnt (xs.take (i + 1))) := by
      refine hS2.congr (fun k' => ?_) ?_
      · unfold inX
        rw [htk]
        by_cases e1 : k' ∈ xs.take i <;> by_cases e2 : k' = z <;> simp [e1, e2]
      · rw [htk, cnt_snoc]
        unfold inX
        simp only [decide_eq_true_eq]
    refine wpAny_pure ⟨plainId_quiet F.plain_set_update_loop _, ih (i + 1) _ (by omega) hlt (W.frame _ s' _ _ hst' (Nat.le_succ _) fun b hb o e => ?_) hSi fun s'' hm'' hS'' => ?_⟩
    · rw [hsb.2 b (fun h : b = S => hSf (by rw [← h]; exact hb))]; exact e
    · refine hR s'' (Moved.trans W.gtrans ((hm.mono hsub).then_heap (Nat.le_succ _) fun b o hb e => ?_) hm'') hS''
      rw [hsb.2 b (fun h : b = S => hb (by rw [h]; exact List.mem_cons_self))]; exact e
theorem strsAt {vs : List Value} {xs : List Str} (h : StrsAre vs xs) : ∀ (i : Nat) (v : Value), vs[i]? = some v → ∃ z t, xs[i]? = some z ∧ v = Value.str z t := by
  induction h with
  | nil => intro i v e; simp at e
  | cons y t r ih =>
    intro i v e
    cases i with
    | zero => exact ⟨y, t, rfl, by simpa using e.symm⟩
    | succ i =>
      have := ih i v (by simpa using e)
      simpa using this
set_option maxHeartbeats 3200000 in
/-- set(xs), xs a list of texts -/
theorem call_set_strs {l : Addr} {items : Array Value} {xs : List Str} {Q : Value → Shared → Prop} (hh : A.handled = none) (hl : s.heap.IsList l items) (hit : StrsAre items.toList xs) (hb : xs.length + 1 < scanBound)
    (h : ∀ (h' : Heap) (tk : Nat), SetX P w h' s.heap.objs.size (fun k => decide (k ∈ xs)) (cnt xs) → (∀ b o, s.heap.get? b = some o → h'.get? b = some o) → Q (.ref s.heap.objs.size) { s with heap := h', toks := tk }) :
    wpAny (model P w) A (PySem.call (.type "set") [.ref l]) Q E s := by
  have hisz : items.size = xs.length := by rw [← Array.length_toList, StrsAre.len_eq hit]
  obtain ⟨c, tl, hmro⟩ := F.called_set.mro
  have hmade := F.called_set.made
  have hsub := F.called_set.sub
  refine wpAny_call (codeAny_of_tree ?_)
  show wpAny _ _ (callAny (.type "set") _) _ _ _
  refine wpAny_pure ⟨Code.quiet_builtin _ (by decide +kernel), codeAny_builtin F.entry_type_call ?_⟩
  rw [Around.under_plain (weight_type_call_type "set" [.ref l] []) rfl]
  have h1 := F.called_set.notType
  have h2 := F.called_set.canCreate
  have hct := F.typeCall_set_1 (.ref l)
  repeat (any_goals (first | assumption | wp_step))
  refine codeAny_mono (code_set_led1 (.ref l) (E := E) (Q₁ := fun obj s₁ => obj = .ref s.heap.objs.size ∧ s₁ = { s with heap := s.heap.push { cls := .type "set", dict := none, data := .set #[] 0 (.fresh 0 0 (!w.params.followText "set-order")) } }) ⟨rfl, rfl⟩) fun r s₁ hr => ?_
  cases r with
  | error e => exact hr
  | ok fl =>
    cases fl with
    | ret obj =>
      obtain ⟨rfl, rfl⟩ := hr
      have hS : (s.heap.push { cls := .type "set", dict := none, data := .set #[] 0 (.fresh 0 0 (!w.params.followText "set-order")) }).get? s.heap.objs.size = some { cls := .type "set", dict := none, data := .set #[] 0 (.fresh 0 0 (!w.params.followText "set-order")) } := Heap.get?_push_size _ rfl
      have hT : Shared.TypeIs { s with heap := s.heap.push { cls := .type "set", dict := none, data := .set #[] 0 (.fresh 0 0 (!w.params.followText "set-order")) } } (.ref s.heap.objs.size) "set" := ⟨_, hS, rfl⟩
      have hli := F.called_set.init.lookup
      have hbi := F.called_set.init.bind (.ref s.heap.objs.size)
      repeat (any_goals (first | assumption | wp_step))
      refine codeAny_mono (codeAny_call_builtin (R := wants (fun r s₂ => r = .none ∧ ∃ h' tk, s₂ = { s with heap := h', toks := tk } ∧ SetX P w h' s.heap.objs.size (fun k => decide (k ∈ xs)) (cnt xs) ∧
          (∀ b o, s.heap.get? b = some o → h'.get? b = some o)) E) F.called_set.init.plain F.entry_set_init (check_set_init_1 hT ?_)) fun r₂ s₂ hr₂ => ?_
      · obtain ⟨ol, hol, hcl, nl, hdl⟩ := hl
        obtain ⟨ocls, odict, odata, oslots⟩ := ol
        simp only at hcl hdl
        subst hcl; subst hdl
        have hol' : (s.heap.push { cls := .type "set", dict := none, data := .set #[] 0 (.fresh 0 0 (!w.params.followText "set-order")) }).get? l = some { cls := .type "list", dict := odict, data := .seq items nl, slots := oslots } := Heap.get?_push_of_some _ hol
        have hsls := F.sub_list_set
        have hslf := F.sub_list_frozenset
        have hne : (Value.type "list" == Value.type "dict") = false := by decide
        have hl1 : (s.heap.push { cls := .type "set", dict := none, data := .set #[] 0 (.fresh 0 0 (!w.params.followText "set-order")) }).IsList l items := ⟨_, hol', rfl, nl, rfl⟩
        unfold Builtin.«set.__init__» noKeywords Builtin.Frozenset.updateFrom
        generalize hPI : pyIter = PI
        wp_walk
        subst hPI
        refine wpAny_pyIter_list hl1 ?_
        refine wpAny_bind (wpAny_runValue ?_)
        have hlS : l < s.heap.objs.size := Heap.lt_size hol
        have hh3 : A.in1.in1.in1.handled = none := by simp [hh]
        have hneI : l ≠ (s.heap.push { cls := .type "set", dict := none, data := .set #[] 0 (.fresh 0 0 (!w.params.followText "set-order")) }).objs.size := by
          rw [Heap.size_push]; exact Nat.ne_of_lt (Nat.lt_succ_of_lt hlS)
        have hSf : s.heap.objs.size ∉ [(s.heap.push { cls := .type "set", dict := none, data := .set #[] 0 (.fresh 0 0 (!w.params.followText "set-order")) }).objs.size, l] := by
          rw [Heap.size_push]; simp only [List.mem_cons, List.mem_singleton, List.not_mem_nil, or_false, not_or]
          exact ⟨Nat.ne_of_lt (Nat.lt_succ_self _), Nat.ne_of_gt hlS⟩
        have hval : ∀ (i : Nat) (v : Value), items[i]? = some v → ∃ z t, xs[i]? = some z ∧ v = .str z t := fun i v hv => strsAt hit i v (by rw [Array.getElem?_toList]; exact hv)
        refine set_update_strs ((Walks.list hh3 _ l hneI items).toS) s.heap.objs.size
          hSf xs hisz hb hval (items.size - 0) 0 _ (by omega) (Nat.zero_le _)
          ⟨⟨_, Heap.get?_push_size _ rfl, rfl, rfl⟩, (hl1.push _)⟩ ?hS0 ?hR
        case hS0 =>
          have hget : ((s.heap.push { cls := .type "set", dict := none, data := .set #[] 0 (.fresh 0 0 (!w.params.followText "set-order")) }).push { cls := .type "list_iterator", data := .fields #[.ref l, .int 0 0] }).get? s.heap.objs.size
              = some { cls := .type "set", dict := none, data := .set #[] 0 (.fresh 0 0 (!w.params.followText "set-order")) } := Heap.get?_push_of_some _ hS
          exact (setX_fresh hget).congr (fun k => by simp [inX]) (by simp [cnt])
        case hR =>
          intro s' hm hS'
          obtain ⟨h', g', d', tk', os'⟩ := s'
          have eg : g' = s.gens := hm.gens
          have ed : d' = s.drawn := hm.drawn
          have eo : os' = s.os := hm.os
          subst eg; subst ed; subst eo
          show wpAny _ _ _ _ _ _
          refine wpAny_pure ?_
          show wpAny _ _ (ret Value.none) _ _ _
          rw [hisz, List.take_length] at hS'
          refine wpAny_pure ⟨rfl, h', tk', rfl, hS'.congr (fun k => by unfold inX; rw [List.take_length]) rfl, fun b o e => ?_⟩
          have hb' : b < s.heap.objs.size := Heap.lt_size e
          have hb1 : b ≠ s.heap.objs.size := Nat.ne_of_lt hb'
          have hb2 : b ≠ (s.heap.push { cls := .type "set", dict := none, data := .set #[] 0 (.fresh 0 0 (!w.params.followText "set-order")) }).objs.size := by
            rw [Heap.size_push]; exact Nat.ne_of_lt (Nat.lt_succ_of_lt hb')
          exact hm.heap b o (by simp only [List.mem_cons, List.mem_singleton, List.not_mem_nil, or_false, not_or]; exact ⟨hb1, hb2⟩) (Heap.get?_push_of_some _ (Heap.get?_push_of_some _ e))
      · cases r₂ with
        | error e => exact hr₂
        | ok fl₂ =>
          cases fl₂ with
          | ret r =>
            obtain ⟨rfl, h', tk, rfl, hS', hk'⟩ := hr₂
            repeat (any_goals (first | assumption | wp_step))
            exact h _ _ hS' hk'
          | _ => exact hr₂.elim
    | _ => exact hr.elim
end
end Mn
/-! MnK2: sorted(set(xs)), len(set(xs)), xs a list of texts. -/
namespace Mn
section
open PySem PySem.Spec PyProof.Rows L2
variable {P : Program} {w : World} {A : Around} {E : Value → Shared → Prop} {s : Shared} {a : Addr} {S : Str → Bool} {n : Nat}
def txtV : Value → Str
  | .str z _ => z
  | _ => Str.empty
theorem strs_each : ∀ (l : List Value), (∀ v ∈ l, ∃ k tk, v = Value.str k tk) → StrsAre l (l.map txtV)
  | [], _ => .nil
  | v :: l, h => by
    obtain ⟨k, tk, rfl⟩ := h v List.mem_cons_self
    exact .cons k tk (strs_each l fun u hu => h u (List.mem_cons_of_mem _ hu))
theorem sorted_setX {Q : Value → Shared → Prop} (R : SetX P w s.heap a S n) (hh : A.handled = none) (h64 : n < 64)
    (hQ : ∀ s' p (out : Array Value) (c : Nat) (ys : List Str), (∀ b o, s.heap.get? b = some o → s'.heap.get? b = some o) → s'.gens = s.gens → s'.os = s.os → s.heap.objs.size ≤ p →
      s'.heap.get? p = some (seqObj "list" out c) → StrsAre out.toList ys → PyProof.Rows.sortedS ys = true → ys.Nodup → (∀ k, k ∈ ys ↔ S k = true) → ys.length = n → Q (.ref p) s') :
    wpAny (model P w) A (PySem.call (.builtin "sorted") [.ref a]) Q E s := by
  obtain ⟨o, es, ep, t, ho, hex, hd, g, nd, hm, hb, hf, hn, hr, hl⟩ := R
  refine Calls.call_function_entry kind_sorted plain_sorted entry_sorted (args_sorted1 _) ?_
  unfold Builtin.«sorted»
  refine wpAny_bind (m := checkCount "sorted" 1 1 _) (wpAny_pure ?_)
  refine wpAny_bind (L2.collect_set (A := A.in1) hh ⟨o, ho, hex.1, hd⟩ hf hb hr hl fun s1 vs k1 hz g1 o1 pm => ?_)
  have hvl : vs.length = n := by rw [pm.length_eq, List.length_map, Array.length_toList]; exact hn
  have hS : StrsAre vs (vs.map txtV) := strs_each vs fun v hv => by
    obtain ⟨e, he, q⟩ := List.mem_map.mp (pm.mem_iff.mp hv)
    obtain ⟨k, tk, h1, _⟩ := g e he
    exact ⟨k, tk, by rw [← q]; exact h1⟩
  have pk : (vs.map txtV).Perm (es.toList.map txtOf) := by
    have q := pm.map txtV
    rw [List.map_map] at q
    exact q
  refine wpAny_bind (wpAny_newList ?_ (by rw [hvl, sizeLine_eq]; omega))
  have hoL : (s1.heap.push (seqObj "list" vs.toArray 0)).get? s1.heap.objs.size = some (seqObj "list" vs.toArray 0) := Heap.get?_push_size _ rfl
  refine wpAny_bind (wpAny_holding (wpAny_call_entry slot_list_sort ⟨_, hoL, rfl⟩ entry_list_sort
    (list_sort_treeK strKind_oneLt hoL hS.keysOf (fun v₁ v₂ rest e => keyKind_strs (by rw [← e]; exact hS)) (by rw [hvl]; exact h64) fun st' hp hs => ⟨_, rfl, ?_⟩) (args_list_sort _)))
  obtain ⟨ys, q1, q2, q3⟩ := sorted_out_str hS hp hs
  obtain ⟨c, hc⟩ := sortedHeap_at (vs := vs) (out := (arrOf st').map (·.2)) hoL
  have pn : ys.Perm (es.toList.map txtOf) := q2.trans pk
  refine wpAny_pure ⟨_, rfl, hQ _ s1.heap.objs.size _ c ys (fun b u e => ?_) g1 o1 hz hc q1 q3 (pn.nodup_iff.mpr nd) (fun k => by rw [pn.mem_iff, ← hm k]) ?_⟩
  · have q := k1 b u e
    have hlt := Heap.lt_size q
    show (sortedHeap (s1.heap.push (seqObj "list" vs.toArray 0)) s1.heap.objs.size vs ((arrOf st').map (·.2))).get? b = some u
    rw [sortedHeap_old (Nat.ne_of_lt hlt) (by rw [size_push']; exact Nat.lt_succ_of_lt hlt)]
    exact Heap.get?_push_of_some _ q
  · rw [pn.length_eq, List.length_map, Array.length_toList]; exact hn
end
section
open PySem PySem.Spec PyProof.Rows L2
variable {X : Cx} {a : Expr} {ta : TE} {p p2 q pos : Pos}
theorem small64' {n : Nat} (h : n ≤ 1000) : n + 1 < scanBound := by
  unfold scanBound
  omega
theorem sorted_end {pins : List (Addr × Obj)} {σ : L2.St} {H1 : Hp} {s s' : Shared} {d : Addr} {out : Array Value} {c : Nat} {ys : List Str} {Q : VK} (I2 : L2.Inv X pins σ H1 s) (k : ∀ b o, s.heap.get? b = some o → s'.heap.get? b = some o) (g : s'.gens = s.gens) (o : s'.os = s.os) (hp : s.heap.objs.size ≤ d)
    (hgt : s'.heap.get? d = some (seqObj "list" out c)) (hi : StrsAre out.toList ys) (hlen : (ys.map V.str).length ≤ sizeLine) (q : Q (.ref d) (upd H1 d (.lst (ys.map V.str)))) : EP X pins σ Q (.ref d) s' := by
  have hn : H1 d = none := I2.hok.fresh hp
  have J : L2.Inv X pins σ (upd H1 d (.lst (ys.map V.str))) { s with heap := s'.heap, gens := s'.gens, drawn := s'.drawn, toks := s'.toks } :=
    I2.call (ch := []) (Un.laid k hp hn) (I2.hok.laid k hp ⟨hlen, out.toList, c, vals_of_strs hi, hgt⟩) (by rw [g]; exact I2.bare) (fun _ z => nomatch z)
  have e : s' = { s with heap := s'.heap, gens := s'.gens, drawn := s'.drawn, toks := s'.toks } := by
    cases s'
    cases s
    cases o
    rfl
  rw [e]
  exact ⟨.ref d, _, J, rfl, q⟩
theorem pe_sortedSet (hc : X.calm = true) (hg : Gl X "sorted") (hm : X.mg "sorted" = none) (hg2 : Gl X "set") (hm2 : X.mg "set" = none) (ha : PE X a ta)
    (na : starEach [a] X.env = (false, eval a X.env) :: starEach [] X.env) : PE X (.Call (.Name "sorted" p) [.Call (.Name "set" p2) [a] [] q] [] pos)
    (fun σ H Q => ta σ H fun x H1 => ∃ l, ∃ xs : List Str, x = .ref l ∧ SqL X.K H1 l (xs.map V.str) ∧ xs.length ≤ 1000 ∧ cnt xs < 64 ∧
      ∀ (ys : List Str) (d : Addr), PyProof.Rows.sortedS ys = true → ys.Nodup → (∀ k, k ∈ ys ↔ k ∈ xs) → H1 d = none → Q (.ref d) (upd H1 d (.lst (ys.map V.str)))) := by
  refine ⟨fun pins s σ H Q I h => ?_⟩
  refine Call_ (ld_blt I hg hm boot_sorted ?_)
  refine PyProof.Rows.callWith_builtin1 (PyProof.Rows.args_cons ?_ rfl) rfl rfl
  refine Call_ (ld_blt I hg2 hm2 PyProof.Rows.boot_set ?_)
  refine PyProof.Rows.callWith_type1 (PyProof.Rows.args_cons (thn (ha.run pins s σ H _ I h) fun v s1 ⟨x, H1, I1, r1, q1⟩ => PyProof.Rows.args_nil ?_) na) na rfl
  obtain ⟨l, xs, rfl, hq, h1, h64, q1⟩ := q1
  cases r1
  obtain ⟨its, r, pl, hz⟩ := I1.list hq
  refine call_set_strs (xs := xs) (I1.ok.hd hc) pl.isList (by simpa using strsAre_of r) (small64' h1) fun h' tk R hk => ?_
  have I2 : Inv X pins σ H1 { s1 with heap := h', toks := tk } := I1.kept hk
  refine PyProof.Rows.args_nil ?_
  refine sorted_setX (s := { s1 with heap := h', toks := tk }) R (I1.ok.hd hc) h64 fun s' d out c ys k g o hp hgt hi hs hnd hm hl => ?_
  have hlen : (ys.map V.str).length ≤ sizeLine := by
    have := cnt_le xs
    rw [List.length_map, hl, sizeLine_eq]
    omega
  exact sorted_end I2 k g o hp hgt hi hlen (q1 ys d hs hnd (fun k => by rw [hm k]; simp) (I2.hok.fresh hp))
theorem pe_lenSetX (hc : X.calm = true) (hg : Gl X "len") (hm : X.mg "len" = none) (hg2 : Gl X "set") (hm2 : X.mg "set" = none) (ha : PE X a ta)
    (na : starEach [a] X.env = (false, eval a X.env) :: starEach [] X.env) : PE X (.Call (.Name "len" p) [.Call (.Name "set" p2) [a] [] q] [] pos)
    (fun σ H Q => ta σ H fun x H1 => ∃ l, ∃ xs : List Str, x = .ref l ∧ SqL X.K H1 l (xs.map V.str) ∧ xs.length ≤ 1000 ∧ Q (.int (cnt xs)) H1) := by
  refine ⟨fun pins s σ H Q I h => ?_⟩
  refine Call_ (ld_blt I hg hm boot_len ?_)
  refine PyProof.Rows.callWith_builtin1 (PyProof.Rows.args_cons ?_ rfl) rfl rfl
  refine Call_ (ld_blt I hg2 hm2 PyProof.Rows.boot_set ?_)
  refine PyProof.Rows.callWith_type1 (PyProof.Rows.args_cons (thn (ha.run pins s σ H _ I h) fun v s1 ⟨x, H1, I1, r1, q1⟩ => PyProof.Rows.args_nil ?_) na) na rfl
  obtain ⟨l, xs, rfl, hq, h1, q1⟩ := q1
  cases r1
  obtain ⟨its, r, pl, hz⟩ := I1.list hq
  refine call_set_strs (xs := xs) (I1.ok.hd hc) pl.isList (by simpa using strsAre_of r) (small64' h1) fun h' tk R hk => ?_
  have I2 : Inv X pins σ H1 { s1 with heap := h', toks := tk } := I1.kept hk
  refine PyProof.Rows.args_nil ?_
  obtain ⟨o, es, ep, t, ho, hex, hd, _, _, _, _, hf, hn, _⟩ := R
  have := cnt_le xs
  refine call_len_set (s := { s1 with heap := h', toks := tk }) ho hex hd hf (by rw [hn]; omega) ⟨.int (cnt xs), H1, I2.tok _, ⟨_, by rw [hn]⟩, q1⟩
end
/-! ### unlike ones -/
theorem uniqT_mem : ∀ (l : List (List Nat)) (x : List Nat), x ∈ uniqT l ↔ x ∈ l
  | [], x => by simp [uniqT]
  | y :: r, x => by
    have ih := uniqT_mem r x
    unfold uniqT
    split
    · rename_i h
      rw [ih, List.mem_cons]
      exact ⟨.inr, fun z => z.elim (fun e => e ▸ h) id⟩
    · rw [List.mem_cons, List.mem_cons, ih]
theorem uniqT_nodup : ∀ l : List (List Nat), (uniqT l).Nodup
  | [] => List.nodup_nil
  | y :: r => by
    unfold uniqT
    split
    · exact uniqT_nodup r
    · rename_i h
      exact List.nodup_cons.mpr ⟨fun z => h ((uniqT_mem r y).mp z), uniqT_nodup r⟩
theorem uniqT_len : ∀ l : List (List Nat), (uniqT l).length ≤ l.length
  | [] => Nat.le_refl _
  | y :: r => by
    have := uniqT_len r
    unfold uniqT
    split <;> simp <;> omega
theorem cnt_uniq : ∀ l : List (List Nat), cnt (l.map stx) = (uniqT l).length
  | [] => rfl
  | y :: r => by
    have ih := cnt_uniq r
    have e : stx y ∈ r.map stx ↔ y ∈ r := ⟨fun h => by
      obtain ⟨z, hz, q⟩ := List.mem_map.mp h
      rw [← stx_inj q]
      exact hz, fun h => List.mem_map.mpr ⟨y, h, rfl⟩⟩
    rw [List.map_cons, cnt, uniqT, ih]
    by_cases h : y ∈ r
    · rw [if_pos (e.mpr h), if_pos h]
    · rw [if_neg fun z => h (e.mp z), if_neg h, List.length_cons]
theorem uniq_perm {ys : List PySem.Str} {ss : List (List Nat)} (h1 : ys.Nodup) (h2 : ∀ k, k ∈ ys ↔ k ∈ ss.map stx) : ys.Perm ((uniqT ss).map stx) := by
  refine (List.perm_ext_iff_of_nodup h1 ?_).mpr fun k => ?_
  · refine List.Pairwise.map _ (fun a b hab q => hab (stx_inj q)) (uniqT_nodup ss)
  · rw [h2 k, List.mem_map, List.mem_map]
    exact ⟨fun ⟨z, a, b⟩ => ⟨z, (uniqT_mem ss z).mpr a, b⟩, fun ⟨z, a, b⟩ => ⟨z, (uniqT_mem ss z).mp a, b⟩⟩
end Mn
/-! MnW: list(zip(a, b)) of two lists, two tuples, alike in length. -/
namespace Mn
section
open PySem PySem.Sem PyProof.Rows RZ
variable {prog : Program} {w : World} {A : Around} {E : Value → Shared → Prop} {s : Shared}
theorem wpAny_loadIfAlive {M : Model} {a : Addr} {Q : Option Obj → Shared → Prop} (h : Q (s.heap.get? a) s) : wpAny M A (loadIfAlive a) Q E s := fun Γ p _ => by
  show wp M Γ (.loadIfAlive a .pure) _ _ p s
  rw [Sem.wp_loadIfAlive]
  show wp M Γ (Sem.pure (s.heap.get? a)) _ _ p s
  rw [Sem.wp_pure]
  exact h
/-- one of zip's two iterators -/
structure Src (prog : Program) (w : World) (i l : Addr) (xs : Array Value) (I : Nat → Heap → Prop) : Prop where
  item : ∀ {A : Around} {E : Value → Shared → Prop} {s : Shared} {k : Nat} {x : Value} {Q : Value → Shared → Prop}, I k s.heap → xs[k]? = some x → (∀ h', I (k + 1) h' → Heap.SameBut i s.heap h' → Q x { s with heap := h' }) → wpAny (model prog w) A (Builtin.SmallTypes.nextOf (.ref i)) Q E s
  done : ∀ {A : Around} {E : Value → Shared → Prop} {s : Shared} {k : Nat} {Q : Value → Shared → Prop}, A.handled = none → I k s.heap → xs[k]? = none → (∀ h' e, Heap.ExtBut i s.heap h' → (∃ o, h'.get? e = some o ∧ o.cls = .type "StopIteration") → E (.ref e) { s with heap := h' }) → wpAny (model prog w) A (Builtin.SmallTypes.nextOf (.ref i)) Q E s
  keep : ∀ {k : Nat} {h h' : Heap}, I k h → (∀ o, h.get? i = some o → h'.get? i = some o) → (∀ o, h.get? l = some o → h'.get? l = some o) → I k h'
  there : ∀ {k : Nat} {h : Heap}, I k h → i < h.objs.size
def IsZb (h : Heap) (z TI TO T : Addr) (b : Bool) : Prop := h.get? z = some { cls := .type "zip", data := .fields #[rawInt T, .bool b, .bool false, .ref TI, .ref TO] }
variable {z TI TO i1 i2 l1 l2 T : Addr} {b : Bool} {xs ys : Array Value} {I1 I2 : Nat → Heap → Prop} {k : Nat} {x y : Value}
theorem set1 {Q : Bool → Shared → Prop} (hz : IsZb s.heap z TI TO T b) (h : ∀ h₁, IsZb h₁ z TI TO T true → Heap.SameBut z s.heap h₁ → Q false { s with heap := h₁ }) :
    wpAny (model prog w) A (if (Value.bool b != Value.bool true) = true then setField (.ref z) 1 (.bool true) >>= fun _ => Pure.pure false else Pure.pure false) Q E s := by
  cases b with
  | true =>
    rw [if_neg (by decide)]
    exact wpAny_pure (h s.heap hz ⟨rfl, fun _ _ => rfl⟩)
  | false =>
    rw [if_pos (by decide)]
    exact wpAny_bind (wpAny_setField_rec hz (by simp) fun h₁ hz₁ hs₁ => wpAny_pure (h h₁ hz₁ hs₁))
theorem busy_item {Q : Value → Shared → Prop} (D : ZipApart z TI TO i1 i2 l1 l2) (S1 : Src prog w i1 l1 xs I1) (S2 : Src prog w i2 l2 ys I2)
    (hz : IsZb s.heap z TI TO T b) (hT : ∃ o, s.heap.get? T = some o) (hTI : IsPair s.heap TI (.ref i1) (.ref i2)) (h1 : I1 k s.heap) (h2 : I2 k s.heap) (hx : xs[k]? = some x) (hy : ys[k]? = some y)
    (hQ : ∀ h', IsZb h' z TI TO T true → I1 (k + 1) h' → I2 (k + 1) h' → IsPair h' s.heap.objs.size x y → h'.objs.size = s.heap.objs.size + 1 →
      (∀ c o, c ≠ z → c ≠ i1 → c ≠ i2 → s.heap.get? c = some o → h'.get? c = some o) → Q (.ref s.heap.objs.size) { s with heap := h' }) :
    wpAny (model prog w) A (Builtin.«zip.__next__» ⟨[.ref z], []⟩) (fun fin s' => ∃ v, fin = .done (.ret v) ∧ Q v s') E s := by
  obtain ⟨oT, hT⟩ := hT
  show wpAny _ _ (field (.ref z) 2 >>= _) _ _ _
  refine wpAny_bind (wpAny_field hz rfl (x := .bool false) rfl ?_)
  show wpAny _ _ (field (.ref z) 3 >>= _) _ _ _
  refine wpAny_bind (wpAny_field hz rfl (x := .ref TI) rfl ?_)
  refine wpAny_bind (wpAny_seqItems hTI rfl ?_)
  show wpAny _ _ (Builtin.SmallTypes.ownedTupleIsFree (.ref z) >>= _) _ _ _
  refine wpAny_bind ?_
  unfold Builtin.SmallTypes.ownedTupleIsFree
  refine wpAny_bind (wpAny_field hz rfl (x := rawInt T) rfl ?_)
  show wpAny _ _ (loadIfAlive ((T : Int)).toNat >>= _) _ _ _
  refine wpAny_bind (wpAny_loadIfAlive ?_)
  rw [Int.toNat_natCast, hT]
  show wpAny _ _ (field (.ref z) 1 >>= _) _ _ _
  refine wpAny_bind (wpAny_field hz rfl (x := .bool b) rfl ?_)
  refine set1 hz fun h₁ hz₁ hs₁ => ?_
  have hTI₁ : IsPair h₁ TI (.ref i1) (.ref i2) := hs₁.extBut _ _ D.TIz hTI
  have keepI : ∀ {I : Nat → Heap → Prop} {i l : Addr} {zs : Array Value} (S : Src prog w i l zs I), i ≠ z → l ≠ z → I k s.heap → I k h₁ := fun S a b h => S.keep h (fun o e => hs₁.extBut _ _ a e) (fun o e => hs₁.extBut _ _ b e)
  have g1 := keepI S1 D.i1z D.l1z h1
  have g2 := keepI S2 D.i2z D.l2z h2
  refine wpAny_bind ?_
  rw [← Array.forIn_toList]
  simp only [List.forIn_cons, List.forIn_nil]
  refine wpAny_bind (wpAny_bind (wpAny_holding ?_))
  show wpAny _ _ (Builtin.SmallTypes.nextOf (.ref i1) >>= _) _ _ _
  refine wpAny_bind (S1.item g1 hx fun h₂ h1₂ hs₂ => wpAny_pure ?_)
  refine wpAny_pure ?_
  refine wpAny_bind (wpAny_bind (wpAny_holding ?_))
  show wpAny _ _ (Builtin.SmallTypes.nextOf (.ref i2) >>= _) _ _ _
  have g2₂ : I2 k h₂ := S2.keep g2 (fun o e => hs₂.extBut _ _ D.i12.symm e) (fun o e => hs₂.extBut _ _ D.l2i1 e)
  refine wpAny_bind (S2.item g2₂ hy fun h₃ h2₃ hs₃ => wpAny_pure ?_)
  refine wpAny_pure (wpAny_pure ?_)
  show wpAny (model prog w) A (newTuple [x, y] >>= fun v => ret v) _ _ { s with heap := h₃ }
  have hsz : h₃.objs.size = s.heap.objs.size := by rw [hs₃.1, hs₂.1, hs₁.1]
  refine wpAny_bind (wpAny_newTuple ?_)
  refine wpAny_pure ⟨_, rfl, ?_⟩
  show Q (.ref h₃.objs.size) { s with heap := h₃.push { cls := .type "tuple", data := .seq #[x, y] } }
  rw [hsz]
  have up : ∀ c o, h₃.get? c = some o → (h₃.push { cls := .type "tuple", data := .seq #[x, y] }).get? c = some o := fun c o e => Heap.get?_push_of_some _ e
  have hz₃ : IsZb h₃ z TI TO T true := hs₃.extBut _ _ D.i2z.symm (hs₂.extBut _ _ D.i1z.symm hz₁)
  have h1₃ : I1 (k + 1) h₃ := S1.keep h1₂ (fun o e => hs₃.extBut _ _ D.i12 e) (fun o e => hs₃.extBut _ _ D.l1i2 e)
  refine hQ _ (up _ _ hz₃) (S1.keep h1₃ (fun o e => up _ o e) (fun o e => up _ o e)) (S2.keep h2₃ (fun o e => up _ o e) (fun o e => up _ o e)) ?_ (by rw [Heap.size_push, hsz]) fun c o c1 c2 c3 e => up _ _ (hs₃.extBut _ _ c3 (hs₂.extBut _ _ c2 (hs₁.extBut _ _ c1 e)))
  rw [← hsz]
  exact Heap.get?_push_size _ rfl
/-- the end, the pair handed out still there -/
theorem busy_end {Q : PySem.Fin → Shared → Prop} (hh : A.handled = none) (D : ZipApart z TI TO i1 i2 l1 l2) (S1 : Src prog w i1 l1 xs I1)
    (hz : IsZb s.heap z TI TO T b) (hT : ∃ o, s.heap.get? T = some o) (hTI : IsPair s.heap TI (.ref i1) (.ref i2)) (h1 : I1 k s.heap) (hx : xs[k]? = none)
    (hE : ∀ h' e, (∀ c o, c ≠ z → c ≠ i1 → s.heap.get? c = some o → h'.get? c = some o) → (∃ o, h'.get? e = some o ∧ o.cls = .type "StopIteration") → E (.ref e) { s with heap := h' }) :
    wpAny (model prog w) A (Builtin.«zip.__next__» ⟨[.ref z], []⟩) Q E s := by
  obtain ⟨oT, hT⟩ := hT
  show wpAny _ _ (field (.ref z) 2 >>= _) _ _ _
  refine wpAny_bind (wpAny_field hz rfl (x := .bool false) rfl ?_)
  show wpAny _ _ (field (.ref z) 3 >>= _) _ _ _
  refine wpAny_bind (wpAny_field hz rfl (x := .ref TI) rfl ?_)
  refine wpAny_bind (wpAny_seqItems hTI rfl ?_)
  show wpAny _ _ (Builtin.SmallTypes.ownedTupleIsFree (.ref z) >>= _) _ _ _
  refine wpAny_bind ?_
  unfold Builtin.SmallTypes.ownedTupleIsFree
  refine wpAny_bind (wpAny_field hz rfl (x := rawInt T) rfl ?_)
  show wpAny _ _ (loadIfAlive ((T : Int)).toNat >>= _) _ _ _
  refine wpAny_bind (wpAny_loadIfAlive ?_)
  rw [Int.toNat_natCast, hT]
  show wpAny _ _ (field (.ref z) 1 >>= _) _ _ _
  refine wpAny_bind (wpAny_field hz rfl (x := .bool b) rfl ?_)
  refine set1 hz fun h₁ hz₁ hs₁ => ?_
  have g1 := S1.keep h1 (fun o e => hs₁.extBut _ _ D.i1z e) (fun o e => hs₁.extBut _ _ D.l1z e)
  refine wpAny_bind ?_
  rw [← Array.forIn_toList]
  simp only [List.forIn_cons, List.forIn_nil]
  refine wpAny_bind (wpAny_bind (wpAny_holding ?_))
  show wpAny _ _ (Builtin.SmallTypes.nextOf (.ref i1) >>= _) _ _ _
  refine wpAny_bind (S1.done hh g1 hx fun h₂ e hs₂ he => ?_)
  exact hE h₂ e (fun c o c1 c2 q => hs₂ _ _ c2 (hs₁.extBut _ _ c1 q)) he
/-- the first pair -/
theorem first_item {a0 b0 : Value} {Q : Value → Shared → Prop} (D : ZipApart z TI TO i1 i2 l1 l2) (S1 : Src prog w i1 l1 xs I1) (S2 : Src prog w i2 l2 ys I2)
    (hz : IsZip s.heap z TI TO .none) (hTI : IsPair s.heap TI (.ref i1) (.ref i2)) (hTO : IsPair s.heap TO a0 b0)
    (h1 : I1 k s.heap) (h2 : I2 k s.heap) (hx : xs[k]? = some x) (hy : ys[k]? = some y)
    (hQ : ∀ h', IsZip h' z TI TO (rawInt s.heap.objs.size) → I1 (k + 1) h' → I2 (k + 1) h' → IsPair h' s.heap.objs.size x y → h'.objs.size = s.heap.objs.size + 1 →
      (∀ c o, c ≠ z → c ≠ TO → c ≠ i1 → c ≠ i2 → s.heap.get? c = some o → h'.get? c = some o) → Q (.ref s.heap.objs.size) { s with heap := h' }) :
    wpAny (model prog w) A (Builtin.«zip.__next__» ⟨[.ref z], []⟩) (fun fin s' => ∃ v, fin = .done (.ret v) ∧ Q v s') E s := by
  show wpAny _ _ (field (.ref z) 2 >>= _) _ _ _
  refine wpAny_bind (wpAny_field hz rfl (x := .bool false) rfl ?_)
  show wpAny _ _ (field (.ref z) 3 >>= _) _ _ _
  refine wpAny_bind (wpAny_field hz rfl (x := .ref TI) rfl ?_)
  refine wpAny_bind (wpAny_seqItems hTI rfl ?_)
  show wpAny _ _ (Builtin.SmallTypes.ownedTupleIsFree (.ref z) >>= _) _ _ _
  refine wpAny_bind ?_
  unfold Builtin.SmallTypes.ownedTupleIsFree
  refine wpAny_bind (wpAny_field hz rfl (x := .none) rfl (wpAny_pure ?_))
  simp only [if_true]
  refine wpAny_bind (wpAny_rule ?_)
  refine wpAny_bind (wpAny_field hz rfl (x := .ref TO) rfl ?_)
  refine wpAny_bind (wpAny_setField_rec hz (by simp) fun h₁ hz₁ hs₁ => ?_)
  replace hz₁ : IsZip h₁ z TI TO .ellipsis := hz₁
  refine wpAny_bind ?_
  simp only [List.zipIdx_cons, List.zipIdx_nil, List.forIn_cons, List.forIn_nil]
  have g1 := S1.keep h1 (fun o e => hs₁.extBut _ _ D.i1z e) (fun o e => hs₁.extBut _ _ D.l1z e)
  have g2 := S2.keep h2 (fun o e => hs₁.extBut _ _ D.i2z e) (fun o e => hs₁.extBut _ _ D.l2z e)
  refine wpAny_bind (wpAny_bind (wpAny_onRaise ?_))
  show wpAny _ _ (Builtin.SmallTypes.nextOf (.ref i1) >>= _) _ _ _
  refine wpAny_bind (S1.item g1 hx fun h₂ h1₂ hs₂ => wpAny_pure ?_)
  have hTO₂ : IsPair h₂ TO a0 b0 := hs₂.extBut _ _ D.TOi1 (hs₁.extBut _ _ D.TOz hTO)
  refine wpAny_bind (wpAny_seqItems hTO₂ rfl ?_)
  refine wpAny_bind (wpAny_updateSeq_pair hTO₂ fun h₃ hTO₃ hs₃ => ?_)
  replace hTO₃ : IsPair h₃ TO x b0 := hTO₃
  refine wpAny_bind (wpAny_letGo (wpAny_pure ?_))
  have g2₂ := S2.keep g2 (fun o e => hs₂.extBut _ _ D.i12.symm e) (fun o e => hs₂.extBut _ _ D.l2i1 e)
  have g2₃ := S2.keep g2₂ (fun o e => hs₃.extBut _ _ D.TOi2.symm e) (fun o e => hs₃.extBut _ _ D.l2TO e)
  refine wpAny_bind (wpAny_bind (wpAny_onRaise ?_))
  show wpAny _ _ (Builtin.SmallTypes.nextOf (.ref i2) >>= _) _ _ _
  refine wpAny_bind (S2.item g2₃ hy fun h₄ h2₄ hs₄ => wpAny_pure ?_)
  have hTO₄ : IsPair h₄ TO x b0 := hs₄.extBut _ _ D.TOi2 hTO₃
  refine wpAny_bind (wpAny_seqItems hTO₄ rfl ?_)
  refine wpAny_bind (wpAny_updateSeq_pair hTO₄ fun h₅ hTO₅ hs₅ => ?_)
  replace hTO₅ : IsPair h₅ TO x y := hTO₅
  refine wpAny_bind (wpAny_letGo (wpAny_pure (wpAny_pure ?_)))
  refine wpAny_bind (wpAny_seqItems hTO₅ rfl ?_)
  refine wpAny_bind (wpAny_newTuple ?_)
  have hsz : h₅.objs.size = s.heap.objs.size := by rw [hs₅.1, hs₄.1, hs₃.1, hs₂.1, hs₁.1]
  have hz₅ : IsZip h₅ z TI TO .ellipsis := hs₅.extBut _ _ D.TOz.symm (hs₄.extBut _ _ D.i2z.symm (hs₃.extBut _ _ D.TOz.symm (hs₂.extBut _ _ D.i1z.symm hz₁)))
  have hk₅ : ∀ c o, c ≠ z → c ≠ TO → c ≠ i1 → c ≠ i2 → s.heap.get? c = some o → h₅.get? c = some o := fun c o c1 c2 c3 c4 e =>
    hs₅.extBut _ _ c2 (hs₄.extBut _ _ c4 (hs₃.extBut _ _ c2 (hs₂.extBut _ _ c3 (hs₁.extBut _ _ c1 e))))
  have h1₃ := S1.keep h1₂ (fun o e => hs₃.extBut _ _ D.TOi1.symm e) (fun o e => hs₃.extBut _ _ D.l1TO e)
  have h1₄ := S1.keep h1₃ (fun o e => hs₄.extBut _ _ D.i12 e) (fun o e => hs₄.extBut _ _ D.l1i2 e)
  have h1₅ := S1.keep h1₄ (fun o e => hs₅.extBut _ _ D.TOi1.symm e) (fun o e => hs₅.extBut _ _ D.l1TO e)
  have h2₅ := S2.keep h2₄ (fun o e => hs₅.extBut _ _ D.TOi2.symm e) (fun o e => hs₅.extBut _ _ D.l2TO e)
  have hzlt : z < h₅.objs.size := Heap.lt_size hz₅
  show wpAny _ _ (Builtin.SmallTypes.ownedTupleHandOut (.ref z) (.ref h₅.objs.size) >>= _) _ _ _
  refine wpAny_bind ?_
  unfold Builtin.SmallTypes.ownedTupleHandOut
  have hz₆ : IsZip (h₅.push { cls := .type "tuple", data := .seq #[x, y] }) z TI TO .ellipsis := Heap.get?_push_of_some _ hz₅
  refine wpAny_bind (wpAny_setField_rec hz₆ (by simp) fun h₇ hz₇ hs₇ => ?_)
  replace hz₇ : IsZip h₇ z TI TO (rawInt h₅.objs.size) := hz₇
  refine wpAny_setField_rec hz₇ (by simp) fun h₈ hz₈ hs₈ => ?_
  replace hz₈ : IsZip h₈ z TI TO (rawInt h₅.objs.size) := hz₈
  have up : ∀ c o, c ≠ z → h₅.get? c = some o → h₈.get? c = some o := fun c o c1 e => hs₈.extBut _ _ c1 (hs₇.extBut _ _ c1 (Heap.get?_push_of_some _ e))
  have hT₈ : IsPair h₈ h₅.objs.size x y := hs₈.extBut _ _ (Nat.ne_of_gt hzlt) (hs₇.extBut _ _ (Nat.ne_of_gt hzlt) (Heap.get?_push_size _ rfl))
  have hz8 : h₈.objs.size = h₅.objs.size + 1 := by rw [hs₈.1, hs₇.1, Heap.size_push]
  rw [hsz] at hz₈ hT₈ hz8
  refine wpAny_pure ⟨_, rfl, ?_⟩
  show Q (.ref h₅.objs.size) _
  rw [hsz]
  exact hQ h₈ hz₈ (S1.keep h1₅ (fun o e => up _ o D.i1z e) (fun o e => up _ o D.l1z e)) (S2.keep h2₅ (fun o e => up _ o D.i2z e) (fun o e => up _ o D.l2z e)) hT₈ hz8 fun c o c1 c2 c3 c4 e => up c o c1 (hk₅ c o c1 c2 c3 c4 e)
/-- nothing to pair -/
theorem first_end {a0 b0 : Value} {Q : PySem.Fin → Shared → Prop} (hh : A.handled = none) (D : ZipApart z TI TO i1 i2 l1 l2) (S1 : Src prog w i1 l1 xs I1)
    (hz : IsZip s.heap z TI TO .none) (hTI : IsPair s.heap TI (.ref i1) (.ref i2)) (hTO : IsPair s.heap TO a0 b0) (h1 : I1 k s.heap) (hx : xs[k]? = none)
    (hE : ∀ h' e, (∀ c o, c ≠ z → c ≠ i1 → s.heap.get? c = some o → h'.get? c = some o) → (∃ o, h'.get? e = some o ∧ o.cls = .type "StopIteration") → E (.ref e) { s with heap := h' }) :
    wpAny (model prog w) A (Builtin.«zip.__next__» ⟨[.ref z], []⟩) Q E s := by
  show wpAny _ _ (field (.ref z) 2 >>= _) _ _ _
  refine wpAny_bind (wpAny_field hz rfl (x := .bool false) rfl ?_)
  show wpAny _ _ (field (.ref z) 3 >>= _) _ _ _
  refine wpAny_bind (wpAny_field hz rfl (x := .ref TI) rfl ?_)
  refine wpAny_bind (wpAny_seqItems hTI rfl ?_)
  show wpAny _ _ (Builtin.SmallTypes.ownedTupleIsFree (.ref z) >>= _) _ _ _
  refine wpAny_bind ?_
  unfold Builtin.SmallTypes.ownedTupleIsFree
  refine wpAny_bind (wpAny_field hz rfl (x := .none) rfl (wpAny_pure ?_))
  simp only [if_true]
  refine wpAny_bind (wpAny_rule ?_)
  refine wpAny_bind (wpAny_field hz rfl (x := .ref TO) rfl ?_)
  refine wpAny_bind (wpAny_setField_rec hz (by simp) fun h₁ hz₁ hs₁ => ?_)
  replace hz₁ : IsZip h₁ z TI TO .ellipsis := hz₁
  refine wpAny_bind ?_
  simp only [List.zipIdx_cons, List.zipIdx_nil, List.forIn_cons, List.forIn_nil]
  have g1 := S1.keep h1 (fun o e => hs₁.extBut _ _ D.i1z e) (fun o e => hs₁.extBut _ _ D.l1z e)
  refine wpAny_bind (wpAny_bind (wpAny_onRaise ?_))
  show wpAny _ _ (Builtin.SmallTypes.nextOf (.ref i1) >>= _) _ _ _
  refine wpAny_bind (S1.done hh g1 hx fun h₂ e hs₂ he => ?_)
  obtain ⟨oe, hoe, hce⟩ := he
  have hz₂ : IsZip h₂ z TI TO .ellipsis := hs₂ _ _ D.i1z.symm hz₁
  have hez : e ≠ z := fun x => by subst x; rw [hz₂] at hoe; cases hoe; simp at hce
  exact wpAny_setField_rec hz₂ (by simp) fun h₃ _ hs₃ => hE h₃ e (fun c o c1 c3 x => hs₃.extBut _ _ c1 (hs₂ _ _ c3 (hs₁.extBut _ _ c1 x))) ⟨oe, hs₃.extBut _ _ hez hoe, hce⟩
end
end Mn
/-! MnW2: the walk of list(zip(a, b)), and its rule. -/
namespace Mn
section
open PySem PySem.Sem PyProof.Rows RZ
variable {prog : Program} {w : World} {A : Around} {E : Value → Shared → Prop} {s : Shared}
variable {z TI TO i1 i2 l1 l2 : Addr} {xs ys : Array Value} {I1 I2 : Nat → Heap → Prop}
/-- zip, i pairs drawn and kept -/
def ZS (z TI TO i1 i2 : Addr) (I1 I2 : Nat → Heap → Prop) : Nat → Heap → Prop
  | 0, h => IsZip h z TI TO .none ∧ IsPair h TI (.ref i1) (.ref i2) ∧ (∃ a b, IsPair h TO a b) ∧ I1 0 h ∧ I2 0 h
  | i + 1, h => ∃ T b, IsZb h z TI TO T b ∧ (∃ o, h.get? T = some o) ∧ T ≠ z ∧ T ≠ i1 ∧ T ≠ i2 ∧ IsPair h TI (.ref i1) (.ref i2) ∧ I1 (i + 1) h ∧ I2 (i + 1) h
theorem ZS.typeIs {i : Nat} (h : ZS z TI TO i1 i2 I1 I2 i s.heap) : s.TypeIs (.ref z) "zip" := by
  cases i with
  | zero => exact ⟨_, h.1, rfl⟩
  | succ i => obtain ⟨T, b, hz, _⟩ := h; exact ⟨_, hz, rfl⟩
theorem ZS.keep {i : Nat} {h h' : Heap} (D : ZipApart z TI TO i1 i2 l1 l2) (S1 : Src prog w i1 l1 xs I1) (S2 : Src prog w i2 l2 ys I2) (st : ZS z TI TO i1 i2 I1 I2 i h)
    (k : ∀ b ∈ [z, TI, TO, i1, i2, l1, l2], ∀ o, h.get? b = some o → h'.get? b = some o) (kt : ∀ T o, h.get? T = some o → ∃ o, h'.get? T = some o) : ZS z TI TO i1 i2 I1 I2 i h' := by
  cases i with
  | zero =>
    obtain ⟨hz, hTI, ⟨a, b, hTO⟩, h1, h2⟩ := st
    exact ⟨k _ (by simp) _ hz, k _ (by simp) _ hTI, ⟨a, b, k _ (by simp) _ hTO⟩, S1.keep h1 (k _ (by simp)) (k _ (by simp)), S2.keep h2 (k _ (by simp)) (k _ (by simp))⟩
  | succ i =>
    obtain ⟨T, b, hz, ⟨o, hT⟩, t1, t2, t3, hTI, h1, h2⟩ := st
    exact ⟨T, b, k _ (by simp) _ hz, kt _ _ hT, t1, t2, t3, k _ (by simp) _ hTI, S1.keep h1 (k _ (by simp)) (k _ (by simp)), S2.keep h2 (k _ (by simp)) (k _ (by simp))⟩
theorem next_item {i : Nat} {x y : Value} {Q : Option Value → Shared → Prop} (D : ZipApart z TI TO i1 i2 l1 l2) (S1 : Src prog w i1 l1 xs I1) (S2 : Src prog w i2 l2 ys I2) (st : ZS z TI TO i1 i2 I1 I2 i s.heap)
    (hx : xs[i]? = some x) (hy : ys[i]? = some y)
    (hQ : ∀ h', ZS z TI TO i1 i2 I1 I2 (i + 1) h' → IsPair h' s.heap.objs.size x y → h'.objs.size = s.heap.objs.size + 1 → (∀ c o, c ≠ z → c ≠ TO → c ≠ i1 → c ≠ i2 → s.heap.get? c = some o → h'.get? c = some o) → Q (some (.ref s.heap.objs.size)) { s with heap := h' }) :
    wpAny (model prog w) A (pyNext (.ref z)) Q E s := by
  have hT := st.typeIs
  unfold pyNext
  refine wpAny_bind (wpAny_attempt (wpAny_callSpecial?_slot (name := Str.ofString "__next__") hT F.slot_zip_next (wpAny_call_entry F.slot_zip_next hT F.entry_zip_next ?_ (F.args_zip_next_1 _))))
  cases i with
  | zero =>
    obtain ⟨hz, hTI, ⟨a, b, hTO⟩, h1, h2⟩ := st
    have l1 := S1.there h1
    have l2 := S2.there h2
    have lz := Heap.lt_size hz
    refine first_item D S1 S2 hz hTI hTO h1 h2 hx hy fun h' a1 a2 a3 a4 a5 a6 => wpAny_pure (hQ h' ⟨s.heap.objs.size, false, a1, ⟨_, a4⟩, Nat.ne_of_gt lz, Nat.ne_of_gt l1, Nat.ne_of_gt l2, a6 _ _ D.TIz D.TITO D.TIi1 D.TIi2 hTI, a2, a3⟩ a4 a5 a6)
  | succ i =>
    obtain ⟨T, b, hz, ⟨o, hTt⟩, t1, t2, t3, hTI, h1, h2⟩ := st
    refine busy_item D S1 S2 hz ⟨o, hTt⟩ hTI h1 h2 hx hy fun h' a1 a2 a3 a4 a5 a6 => wpAny_pure (hQ h' ⟨T, true, a1, ⟨o, a6 _ _ t1 t2 t3 hTt⟩, t1, t2, t3, a6 _ _ D.TIz D.TIi1 D.TIi2 hTI, a2, a3⟩ a4 a5 fun c o c1 _ c3 c4 e => a6 c o c1 c3 c4 e)
theorem next_end {i : Nat} {Q : Option Value → Shared → Prop} (hh : A.handled = none) (D : ZipApart z TI TO i1 i2 l1 l2) (S1 : Src prog w i1 l1 xs I1) (st : ZS z TI TO i1 i2 I1 I2 i s.heap) (hx : xs[i]? = none)
    (hQ : ∀ h', (∀ c o, c ≠ z → c ≠ TO → c ≠ i1 → c ≠ i2 → s.heap.get? c = some o → h'.get? c = some o) → Q none { s with heap := h' }) :
    wpAny (model prog w) A (pyNext (.ref z)) Q E s := by
  have hT := st.typeIs
  unfold pyNext
  refine wpAny_bind (wpAny_attempt (wpAny_callSpecial?_slot (name := Str.ofString "__next__") hT F.slot_zip_next (wpAny_call_entry F.slot_zip_next hT F.entry_zip_next ?_ (F.args_zip_next_1 _))))
  have fin : ∀ h' e, (∀ c o, c ≠ z → c ≠ i1 → s.heap.get? c = some o → h'.get? c = some o) → (∃ o, h'.get? e = some o ∧ o.cls = .type "StopIteration") → wpAny (model prog w) A (isInstance (.ref e) (.type "StopIteration")) (fun b s' => b = true ∧ s' = { s with heap := h' }) E { s with heap := h' } := fun h' e hk he => by
    obtain ⟨o, ho, hc⟩ := he
    exact wpAny_isInstance (T := "StopIteration") (b := true) ⟨o, ho, hc⟩ isSubtype_stop ⟨rfl, rfl⟩
  cases i with
  | zero =>
    obtain ⟨hz, hTI, ⟨a, b, hTO⟩, h1, h2⟩ := st
    refine first_end hh D S1 hz hTI hTO h1 hx fun h' e hk he => ?_
    obtain ⟨o, ho, hc⟩ := he
    refine wpAny_bind (wpAny_isInstance (T := "StopIteration") (b := true) ⟨o, ho, hc⟩ isSubtype_stop ?_)
    exact wpAny_pure (hQ _ fun c o c1 _ c3 _ e => hk c o c1 c3 e)
  | succ i =>
    obtain ⟨T, b, hz, hTt, t1, t2, t3, hTI, h1, h2⟩ := st
    refine busy_end hh D S1 hz hTt hTI h1 hx fun h' e hk he => ?_
    obtain ⟨o, ho, hc⟩ := he
    refine wpAny_bind (wpAny_isInstance (T := "StopIteration") (b := true) ⟨o, ho, hc⟩ isSubtype_stop ?_)
    exact wpAny_pure (hQ _ fun c o c1 _ c3 _ e => hk c o c1 c3 e)
theorem add_ne {a N j : Nat} (h : a < N) : N + j ≠ a := by omega
/-- the loop of list's extend -/
theorem zip_loop {R : Result → Shared → Prop} {S : Addr} {res : Value} (hh : A.handled = none) (D : ZipApart z TI TO i1 i2 l1 l2) (S1 : Src prog w i1 l1 xs I1) (S2 : Src prog w i2 l2 ys I2) (hS : S ∉ [z, TI, TO, i1, i2, l1, l2]) (hn : xs.size ≤ sizeLine) (hxy : xs.size = ys.size) :
    ∀ (m i : Nat) (s : Shared) (acc : Array Value) (c N : Nat), xs.size - i = m → i ≤ xs.size → ZS z TI TO i1 i2 I1 I2 i s.heap → s.heap.get? S = some { cls := .type "list", dict := none, data := .seq acc c, slots := #[] } →
      s.heap.objs.size = N + i → acc.size = i → S < N → (∀ b ∈ [z, TI, TO, i1, i2, l1, l2], b < N) → (∀ j, j < i → acc[j]? = some (.ref (N + j)) ∧ ∃ x y, xs[j]? = some x ∧ ys[j]? = some y ∧ IsPair s.heap (N + j) x y) →
      (∀ h' acc' c', h'.get? S = some { cls := .type "list", dict := none, data := .seq acc' c', slots := #[] } → acc'.size = xs.size → (∀ j, j < xs.size → acc'[j]? = some (.ref (N + j)) ∧ ∃ x y, xs[j]? = some x ∧ ys[j]? = some y ∧ IsPair h' (N + j) x y) →
        (∀ b o, b ∉ [S, z, TO, i1, i2] → s.heap.get? b = some o → h'.get? b = some o) → R (.ok (.ret res)) { s with heap := h' }) →
      codeAny (model prog w) A (.builtin "list.extend.loop" ⟨[.ref S, .ref z, res], []⟩) R s := by
  have hSz : S ≠ z := fun e => hS (by simp [e])
  have hSTO : S ≠ TO := fun e => hS (by simp [e])
  have hSi1 : S ≠ i1 := fun e => hS (by simp [e])
  have hSi2 : S ≠ i2 := fun e => hS (by simp [e])
  intro m
  induction m with
  | zero =>
    intro i s acc c N hm hi st hSl hsz hac hSN hlt hacc hR
    have hin : i = xs.size := by omega
    subst hin
    refine codeAny_builtin F.entry_extend_loop ?_
    rw [Around.under_plainId F.plain_extend_loop _]
    show wpAny _ A.in1 (pyNext (.ref z) >>= _) _ _ s
    refine wpAny_bind (next_end (A := A.in1) hh D S1 st (Array.getElem?_eq_none (Nat.le_refl _)) fun h' hk => ?_)
    refine wpAny_pure (hR h' acc c (hk _ _ hSz hSTO hSi1 hSi2 hSl) hac (fun j hj => ?_) fun b o hb e => hk b o (fun q => hb (by simp [q])) (fun q => hb (by simp [q])) (fun q => hb (by simp [q])) (fun q => hb (by simp [q])) e)
    obtain ⟨e1, x, y, e2, e3, e4⟩ := hacc j hj
    have a1 : N + j ≠ z := add_ne (hlt z (by simp))
    have a2 : N + j ≠ TO := add_ne (hlt TO (by simp))
    have a3 : N + j ≠ i1 := add_ne (hlt i1 (by simp))
    have a4 : N + j ≠ i2 := add_ne (hlt i2 (by simp))
    exact ⟨e1, x, y, e2, e3, hk _ _ a1 a2 a3 a4 e4⟩
  | succ m ih =>
    intro i s acc c N hm hi st hSl hsz hac hSN hlt hacc hR
    have hlti : i < xs.size := by omega
    refine codeAny_builtin F.entry_extend_loop ?_
    rw [Around.under_plainId F.plain_extend_loop _]
    show wpAny _ A.in1 (pyNext (.ref z) >>= _) _ _ s
    refine wpAny_bind (next_item (A := A.in1) D S1 S2 st (Array.getElem?_eq_getElem hlti) (Array.getElem?_eq_getElem (show i < ys.size by omega)) fun h' st' hp hsz' hk => ?_)
    have hS' := hk _ _ hSz hSTO hSi1 hSi2 hSl
    have hoth : ∀ b o, b ≠ S → h'.get? b = some o → (h'.update S (Obj.mapSeq (·.push (Value.ref s.heap.objs.size)))).get? b = some o := fun b o hb e => (Heap.get?_update_other _ _ (Ne.symm hb)).trans e
    have hself := Heap.get?_update_self (Obj.mapSeq (·.push (Value.ref s.heap.objs.size))) hS' rfl
    show wpAny _ A.in1 (updateSeq S (·.push (Value.ref s.heap.objs.size)) >>= _) _ _ _
    refine wpAny_bind ?_
    refine wpAny_updateSeq hS' rfl (wpAny_pure ⟨plainId_quiet F.plain_extend_loop _, ?_⟩) (by rw [hac]; omega) (by show (acc.push _).size ≤ sizeLine + 1; rw [Array.size_push, hac]; omega)
    have hne : ∀ j, N + j ≠ z ∧ N + j ≠ TO ∧ N + j ≠ i1 ∧ N + j ≠ i2 ∧ N + j ≠ S := fun j => by
      exact ⟨add_ne (hlt z (by simp)), add_ne (hlt TO (by simp)), add_ne (hlt i1 (by simp)), add_ne (hlt i2 (by simp)), add_ne hSN⟩
    refine ih (i + 1) _ (acc.push (.ref s.heap.objs.size)) _ N (by omega) (by omega) (st'.keep D S1 S2 (fun b hb o e => hoth b o (fun q => hS (q ▸ hb)) e) (fun T o e => ?_)) hself ?_ (by rw [Array.size_push, hac]) hSN hlt (fun j hj => ?_) fun h'' acc' c' g1 g2 g3 g4 => ?_
    · by_cases hT : T = S
      · subst hT
        exact ⟨_, hself⟩
      · exact ⟨o, hoth T o hT e⟩
    · show (h'.update S _).objs.size = N + (i + 1)
      rw [Heap.size_update, hsz', hsz]
      omega
    · by_cases hji : j = i
      · subst hji
        refine ⟨?_, _, _, Array.getElem?_eq_getElem hlti, Array.getElem?_eq_getElem (show j < ys.size by omega), hoth _ _ (hne j).2.2.2.2 ?_⟩
        · rw [← hac, Array.getElem?_push_size, hsz, hac]
        · rw [← hsz]
          exact hp
      · obtain ⟨e1, x, y, e2, e3, e4⟩ := hacc j (by omega)
        refine ⟨?_, x, y, e2, e3, hoth _ _ (hne j).2.2.2.2 (hk _ _ (hne j).1 (hne j).2.1 (hne j).2.2.1 (hne j).2.2.2.1 e4)⟩
        rw [Array.getElem?_push_lt (by omega)]
        rw [Array.getElem?_eq_getElem (by omega)] at e1
        exact e1
    · exact hR h'' acc' c' g1 g2 g3 fun b o hb e => g4 b o hb (hoth b o (fun q => hb (by simp [q])) (hk b o (fun q => hb (by simp [q])) (fun q => hb (by simp [q])) (fun q => hb (by simp [q])) (fun q => hb (by simp [q])) e))
theorem nolen_zip : typeLookup (.type "zip") "__len__" = pure none := by rw [typeLookup_type, builtinLookup_eq_fast]; kernel_rfl
theorem nohint_zip : typeLookup (.type "zip") "__length_hint__" = pure none := by rw [typeLookup_type, builtinLookup_eq_fast]; kernel_rfl
theorem ZS.iter {i : Nat} {Q : Value → Shared → Prop} (h : ZS z TI TO i1 i2 I1 I2 0 s.heap) (q : Q (.ref z) s) : wpAny (model prog w) A (pyIter (.ref z)) Q E s := wpAny_pyIter_zip h.1 q
theorem call_list_zip {Q : Value → Shared → Prop} (hh : A.handled = none) (D : ZipApart z TI TO i1 i2 l1 l2) (S1 : Src prog w i1 l1 xs I1) (S2 : Src prog w i2 l2 ys I2) (st : ZS z TI TO i1 i2 I1 I2 0 s.heap)
    (hlt : ∀ b ∈ [z, TI, TO, i1, i2, l1, l2], b < s.heap.objs.size) (hn : xs.size ≤ sizeLine) (hxy : xs.size = ys.size)
    (hQ : ∀ h' acc c, h'.get? s.heap.objs.size = some { cls := .type "list", dict := none, data := .seq acc c, slots := #[] } → acc.size = xs.size → (∀ j, j < xs.size → acc[j]? = some (.ref (s.heap.objs.size + 1 + j)) ∧ ∃ x y, xs[j]? = some x ∧ ys[j]? = some y ∧ IsPair h' (s.heap.objs.size + 1 + j) x y) →
      (∀ b o, b ∉ [z, TO, i1, i2] → s.heap.get? b = some o → h'.get? b = some o) → Q (.ref s.heap.objs.size) { s with heap := h' }) :
    wpAny (model prog w) A (PySem.call (.type "list") [.ref z]) Q E s := by
  have hSz : s.heap.objs.size ≠ z := Nat.ne_of_gt (hlt z (by simp))
  refine callType_codes (Q₁ := fun obj s₁ => obj = .ref s.heap.objs.size ∧ s₁ = { s with heap := s.heap.push { cls := .type "list", data := .seq #[] } }) F.called_list (F.typeCall_list_1 _) F.entry_list_init
    (code_list_new _ ⟨rfl, rfl⟩) fun obj s₁ h₁ => ?_
  obtain ⟨rfl, rfl⟩ := h₁
  have hS : (s.heap.push { cls := .type "list", data := .seq #[] }).get? s.heap.objs.size = some { cls := .type "list", data := .seq #[] } := Heap.get?_push_size _ rfl
  refine ⟨⟨_, hS, rfl⟩, F.args_list_init_2 _ _, ?_⟩
  show wpAny _ A.in1.in1 (do let old ← Builtin.List.listItems (.ref s.heap.objs.size); Builtin.List.listUpdate (.ref s.heap.objs.size) (fun _ => #[]); letGo old.toList.reverse; Builtin.List.listExtendWith (.ref s.heap.objs.size) (.ref z) .none) _ _ _
  refine wpAny_bind ?_
  unfold Builtin.List.listItems
  refine wpAny_bind (wpAny_seqItems hS rfl (wpAny_pure ?_))
  show wpAny _ A.in1.in1 (updateSeq s.heap.objs.size (fun _ => #[]) >>= fun _ => letGo (#[] : Array Value).toList.reverse >>= fun _ => Builtin.List.listExtendWith (.ref s.heap.objs.size) (.ref z) .none) _ _ _
  refine wpAny_bind (wpAny_updateSeq hS rfl ?_)
  have hS2 := Heap.get?_update_self (Obj.mapSeq (fun _ => (#[] : Array Value))) hS rfl
  refine wpAny_bind (wpAny_letGo ?_)
  unfold Builtin.List.listExtendWith
  have up : ∀ (h : Heap) (f : Obj → Obj), (∀ b o, s.heap.get? b = some o → h.get? b = some o) → ∀ b o, s.heap.get? b = some o → (h.update s.heap.objs.size f).get? b = some o := fun h f q b o e =>
    (Heap.get?_update_other _ _ (Ne.symm (Nat.ne_of_lt (Heap.lt_size e)))).trans (q b o e)
  have k1 : ∀ b o, s.heap.get? b = some o → (s.heap.push { cls := .type "list", data := .seq #[] }).get? b = some o := fun b o e => Heap.get?_push_of_some _ e
  have k2 := up _ (Obj.mapSeq (fun _ => (#[] : Array Value))) k1
  have stk : ∀ {h : Heap}, (∀ b o, s.heap.get? b = some o → h.get? b = some o) → ZS z TI TO i1 i2 I1 I2 0 h := fun {h} q => st.keep D S1 S2 (fun b _ o e => q b o e) (fun T o e => ⟨o, q T o e⟩)
  refine wpAny_bind (wpAny_typeOf (ZS.typeIs (s := { s with heap := _ }) (stk k2)) ?_)
  have h1 : Builtin.List.listSameRef (.ref s.heap.objs.size) (.ref z) = false := by simp [Builtin.List.listSameRef, hSz]
  have h2 : (Value.type "zip" == Value.type "list") = false := by decide
  have h3 : (Value.type "zip" == Value.type "tuple") = false := by decide
  simp only [h1, h2, h3, Bool.or_false, Bool.false_eq_true, if_false]
  refine wpAny_bind (wpAny_pyIter_zip (s := { s with heap := _ }) (stk k2).1 ?_)
  refine wpAny_bind (wpAny_holding ?_)
  unfold Builtin.List.listLengthHint
  refine wpAny_bind (wpAny_specialOf (ZS.typeIs (s := { s with heap := _ }) (stk k2)) nolen_zip ?_)
  show wpAny _ A.in1.in1 (specialOf (Value.ref z) (Str.ofString "__length_hint__") >>= _) _ _ _
  refine wpAny_bind (wpAny_specialOf (ZS.typeIs (s := { s with heap := _ }) (stk k2)) nohint_zip ?_)
  refine wpAny_pure ?_
  show wpAny _ A.in1.in1 (rule "list.extend.makes-room" >>= fun _ => Builtin.List.listTouch (.ref s.heap.objs.size) >>= fun _ =>
    again (.builtin "list.extend.loop" ⟨[.ref s.heap.objs.size, .ref z, .none], []⟩)) _ _ _
  refine wpAny_bind (wpAny_rule ?_)
  refine wpAny_bind ?_
  show wpAny _ A.in1.in1 (updateSeq s.heap.objs.size (·.push .none) >>= fun _ => updateSeq s.heap.objs.size (·.pop)) _ _ _
  refine wpAny_bind (wpAny_updateSeq hS2 rfl ?_)
  have hS3 := Heap.get?_update_self (Obj.mapSeq (·.push Value.none)) hS2 rfl
  refine wpAny_updateSeq (hz := by seq_fits) hS3 rfl ?_
  have hS4 := Heap.get?_update_self (Obj.mapSeq (·.pop)) hS3 rfl
  have k4 := up _ (Obj.mapSeq (·.pop)) (up _ (Obj.mapSeq (·.push Value.none)) k2)
  refine wpAny_pure ⟨plainId_quiet F.plain_extend_loop _, ?_⟩
  refine zip_loop (A := A.in1) hh D S1 S2 (S := s.heap.objs.size) (fun hm => Nat.lt_irrefl _ (hlt _ hm)) hn hxy xs.size 0 _ _ _ (s.heap.objs.size + 1) (Nat.sub_zero _) (Nat.zero_le _) (stk k4) hS4 ?_ rfl (Nat.lt_succ_self _) (fun b hb => Nat.lt_succ_of_lt (hlt b hb)) (fun j hj => absurd hj (Nat.not_lt_zero _)) fun h' acc' c' g1 g2 g3 g4 => ?_
  · show (((_ : Heap).update _ _).objs.size) = _
    rw [Heap.size_update, Heap.size_update, Heap.size_update, Heap.size_push]
  · refine ⟨rfl, hQ h' acc' c' g1 g2 g3 fun b o hb e => g4 b o (fun hm => ?_) (k4 b o e)⟩
    rcases List.mem_cons.mp hm with e' | hm
    · exact absurd (Heap.lt_size e) (by rw [e']; exact Nat.lt_irrefl _)
    · exact hb hm
/-! ### the two kinds of iterators -/
theorem srcT {i l : Addr} {zs : Array Value} (h : l ≠ i) : Src prog w i l zs (fun k h => h.IsTupleIter i l k ∧ h.IsTuple l zs) where
  item := fun st hx hQ => RZ.nextOf_tuple_item st.1 st.2 hx fun h' h1 hs => hQ h' ⟨h1, st.2.extBut hs.extBut h⟩ hs
  done := fun hh st hx hE => RZ.nextOf_tuple_end hh st.1 st.2 hx hE
  keep := fun st k1 k2 => ⟨st.1.at k1, st.2.at k2⟩
  there := fun st => by obtain ⟨_, e, _⟩ := st.1; exact Heap.lt_size e
theorem srcL {i l : Addr} {zs : Array Value} (h : l ≠ i) : Src prog w i l zs (fun k h => h.IsListIter i l k ∧ h.IsList l zs) where
  item := fun st hx hQ => wpAny_nextOf_list_item st.1 st.2 hx fun h' h1 hs => hQ h' ⟨h1, st.2.extBut hs.extBut h⟩ hs
  done := fun hh st hx hE => wpAny_nextOf_list_end hh st.1 st.2 hx hE
  keep := fun st k1 k2 => ⟨st.1.at k1, st.2.at k2⟩
  there := fun st => by obtain ⟨_, e, _⟩ := st.1; exact Heap.lt_size e
end
end Mn
/-! MnW3: the rule of list(zip(a, b)). -/
namespace Mn
open PySem L2
def layZ : Hp → Addr → List ((V × V) × (Value × Value)) → Hp
  | H, _, [] => H
  | H, T, p :: r => layZ (upd H T (.frz (tupO [p.2.1, p.2.2]) (.tup [p.1.1, p.1.2]))) (T + 1) r
def pushZ : Heap → List ((V × V) × (Value × Value)) → Heap
  | h, [] => h
  | h, p :: r => pushZ (h.push (tupO [p.2.1, p.2.2])) r
theorem layZ_lt : ∀ {ps : List ((V × V) × (Value × Value))} {H : Hp} {T b : Nat}, b < T → layZ H T ps b = H b
  | [], H, T, b, _ => rfl
  | p :: r, H, T, b, h => by
    rw [layZ, layZ_lt (Nat.lt_succ_of_lt h), upd_ne (Nat.ne_of_lt h)]
theorem layZ_at : ∀ {ps : List ((V × V) × (Value × Value))} {H : Hp} {T j : Nat} {p : (V × V) × (Value × Value)}, ps[j]? = some p → layZ H T ps (T + j) = some (.frz (tupO [p.2.1, p.2.2]) (.tup [p.1.1, p.1.2]))
  | [], H, T, j, p, h => by simp at h
  | q :: r, H, T, 0, p, h => by
    simp only [List.getElem?_cons_zero, Option.some.injEq] at h
    subst h
    show layZ _ (T + 1) r T = _
    rw [layZ_lt (Nat.lt_succ_self T)]
    exact upd_same
  | q :: r, H, T, j + 1, p, h => by
    rw [List.getElem?_cons_succ] at h
    rw [layZ, show T + (j + 1) = T + 1 + j by omega]
    exact layZ_at h
theorem layZ_keep : ∀ {ps : List ((V × V) × (Value × Value))} {H : Hp} {T : Nat}, (∀ b, T ≤ b → H b = none) → ∀ c o, H c = some o → layZ H T ps c = some o
  | [], H, T, _, c, o, h => h
  | p :: r, H, T, hf, c, o, h => by
    have hc : c ≠ T := fun q => by
      have := hf T (Nat.le_refl _)
      rw [← q, h] at this
      cases this
    have h' : upd H T (.frz (tupO [p.2.1, p.2.2]) (.tup [p.1.1, p.1.2])) c = some o := by
      rw [upd_ne hc]
      exact h
    exact layZ_keep (ps := r) (fun b hb => by
      have hb' : T ≤ b := Nat.le_of_succ_le hb
      rw [upd_ne (Nat.ne_of_gt hb)]
      exact hf b hb') c o h'
theorem pushZ_get : ∀ {ps : List ((V × V) × (Value × Value))} {h : Heap} {b : Nat} {o : Obj}, (pushZ h ps).get? b = some o → h.get? b = some o ∨ ∃ j p, ps[j]? = some p ∧ b = h.objs.size + j ∧ o = tupO [p.2.1, p.2.2]
  | [], h, b, o, e => .inl e
  | p :: r, h, b, o, e => by
    rcases pushZ_get (ps := r) e with e' | ⟨j, q, e1, e2, e3⟩
    · rcases Heap.get?_push_cases e' with ⟨hb, ho⟩ | e2
      · exact .inr ⟨0, p, rfl, hb, ho.symm ▸ rfl⟩
      · exact .inl e2
    · rw [Heap.size_push] at e2
      exact .inr ⟨j + 1, q, by simpa using e1, by omega, e3⟩
section
variable {X : Cx}
theorem layZ_inv {pins : List (Addr × Obj)} {σ : L2.St} : ∀ {ps : List ((V × V) × (Value × Value))} {H : Hp} {s : Shared}, (∀ p ∈ ps, RelV p.1.1 p.2.1 ∧ RelV p.1.2 p.2.2) → L2.Inv X pins σ H s → L2.Inv X pins σ (layZ H s.heap.objs.size ps) { s with heap := pushZ s.heap ps }
  | [], H, s, _, I => I
  | p :: r, H, s, hp, I => by
    obtain ⟨h1, h2⟩ := hp p List.mem_cons_self
    have I1 : L2.Inv X pins σ (upd H s.heap.objs.size (.frz (tupO [p.2.1, p.2.2]) (.tup [p.1.1, p.1.2]))) { s with heap := s.heap.push (tupO [p.2.1, p.2.2]), toks := s.toks } := laidT I (.cons h1 (.cons h2 .nil)) (show 2 ≤ sizeLine by decide)
    have := layZ_inv (ps := r) (fun q hq => hp q (List.mem_cons_of_mem _ hq)) I1
    simp only [Heap.size_push] at this
    exact this
def tLzip (K : PySem.W.Frag) (ta : TA) : TE := fun σ H Q => ta σ H fun vs H1 => ∃ (a b : Addr) (xs ys : List V), vs = [.ref a, .ref b] ∧ ((SqL K H1 a xs ∧ SqL K H1 b ys) ∨ (SqT K H1 a xs ∧ SqT K H1 b ys)) ∧ xs.length = ys.length ∧
  ∀ (D : Addr) (ts : List Addr) (H' : Hp), H1 D = none → (∀ c o, H1 c = some o → H' c = some o) → H' D = some (.lst (ts.map V.ref)) → ts.length = xs.length →
    (∀ (j : Nat) (t : Addr) (x y : V), ts[j]? = some t → xs[j]? = some x → ys[j]? = some y → ∃ o, o.dict = none ∧ H' t = some (.frz o (.tup [x, y]))) → Q (.ref D) H'
/-- behind the walk -/
theorem zip_fin {pins : List (Addr × Obj)} {σ : L2.St} {H1 : Hp} {Q : VK} {s1 : Shared} {h' h'' : Heap} {xs ys : List V} {its its2 : List Value} {acc : Array Value} {c : Nat} {z TO i1 i2 : Addr} (I2 : L2.Inv X pins σ H1 { s1 with heap := h' })
    (rv : Vals xs its) (rv2 : Vals ys its2) (hxy : xs.length = ys.length) (hz : xs.length ≤ sizeLine) (hfp : ∀ b ∈ [z, TO, i1, i2], b < h'.objs.size ∧ FpOk X pins H1 b)
    (g1 : h''.get? h'.objs.size = some { cls := .type "list", dict := none, data := .seq acc c, slots := #[] }) (g2 : acc.size = its.toArray.size)
    (g3 : ∀ j, j < its.toArray.size → acc[j]? = some (.ref (h'.objs.size + 1 + j)) ∧ ∃ x y, its.toArray[j]? = some x ∧ its2.toArray[j]? = some y ∧ IsPair h'' (h'.objs.size + 1 + j) x y)
    (g4 : ∀ b o, b ∉ [z, TO, i1, i2] → h'.get? b = some o → h''.get? b = some o)
    (q : ∀ (D : Addr) (ts : List Addr) (H' : Hp), H1 D = none → (∀ c o, H1 c = some o → H' c = some o) → H' D = some (.lst (ts.map V.ref)) → ts.length = xs.length →
      (∀ (j : Nat) (t : Addr) (x y : V), ts[j]? = some t → xs[j]? = some x → ys[j]? = some y → ∃ o, o.dict = none ∧ H' t = some (.frz o (.tup [x, y]))) → Q (.ref D) H') :
    EP X pins σ Q (.ref h'.objs.size) { s1 with heap := h'' } := by
  have n1 := rv.length
  have n2 := rv2.length
  have hsz : its.toArray.size = xs.length := by rw [List.size_toArray]; exact n1.symm
  rw [hsz] at g2 g3
  let ts : List Addr := (List.range xs.length).map fun j => h'.objs.size + 1 + j
  let ps : List ((V × V) × (Value × Value)) := (xs.zip ys).zip (its.zip its2)
  have hps : ∀ (j : Nat) (p : (V × V) × (Value × Value)), ps[j]? = some p → xs[j]? = some p.1.1 ∧ ys[j]? = some p.1.2 ∧ its[j]? = some p.2.1 ∧ its2[j]? = some p.2.2 := fun j p e => by
    obtain ⟨⟨x, y⟩, ⟨u, v⟩⟩ := p
    simp only [ps, List.getElem?_zip_eq_some] at e
    exact ⟨e.1.1, e.1.2, e.2.1, e.2.2⟩
  have hD : H1 h'.objs.size = none := I2.hok.fresh (Nat.le_refl _)
  have haccl : acc.toList = ts.map Value.ref := by
    apply List.ext_getElem?
    intro j
    by_cases hj : j < xs.length
    · rw [Array.getElem?_toList, (g3 j hj).1]
      simp [ts, hj]
    · rw [List.getElem?_eq_none (by simpa [g2] using Nat.le_of_not_lt hj), List.getElem?_eq_none (by simpa [ts] using Nat.le_of_not_lt hj)]
  have vr : ∀ l : List Addr, Vals (l.map V.ref) (l.map Value.ref) := fun l => by
    induction l with
    | nil => exact .nil
    | cons a l ih => exact .cons rfl ih
  have hacc : Vals (ts.map V.ref) acc.toList := by rw [haccl]; exact vr ts
  have I3 : L2.Inv X pins σ (upd H1 h'.objs.size (.lst (ts.map V.ref))) { s1 with heap := h'.push { cls := .type "list", dict := none, data := .seq acc c, slots := #[] } } :=
    I2.laid (t' := s1.toks) (fun _ _ e => Heap.get?_push_of_some _ e) (Nat.le_refl _) (show ObjOk X.prog X.w _ _ _ (.lst (ts.map V.ref)) from ⟨by simpa [ts] using hz, acc.toList, c, hacc, by rw [Array.toArray_toList]; exact Heap.get?_push_size _ rfl⟩)
  have hrel : ∀ p ∈ ps, RelV p.1.1 p.2.1 ∧ RelV p.1.2 p.2.2 := fun p hp => by
    obtain ⟨j, hj⟩ := List.mem_iff_getElem?.mp hp
    obtain ⟨e1, e2, e3, e4⟩ := hps j p hj
    obtain ⟨u, hu, ru⟩ := rv.get e1
    obtain ⟨v, hv, rw'⟩ := rv2.get e2
    rw [e3] at hu
    rw [e4] at hv
    cases hu
    cases hv
    exact ⟨ru, rw'⟩
  have I4 := layZ_inv (ps := ps) hrel I3
  have hsz1 : (h'.push { cls := .type "list", dict := none, data := .seq acc c, slots := #[] }).objs.size = h'.objs.size + 1 := Heap.size_push ..
  rw [show ({ s1 with heap := h'.push { cls := .type "list", dict := none, data := .seq acc c, slots := #[] } } : Shared).heap.objs.size = h'.objs.size + 1 from hsz1] at I4
  have fr : ∀ b, h'.objs.size + 1 ≤ b → upd H1 h'.objs.size (.lst (ts.map V.ref)) b = none := fun b hb => by
    rw [upd_ne (Nat.ne_of_gt hb)]
    exact I2.hok.fresh (Nat.le_of_succ_le hb)
  have k5 : ∀ b o, b ∉ [z, TO, i1, i2] → (pushZ (h'.push { cls := .type "list", dict := none, data := .seq acc c, slots := #[] }) ps).get? b = some o → h''.get? b = some o := fun b o hb e => by
    rcases pushZ_get e with e' | ⟨j, p, e1, e2, e3⟩
    · rcases Heap.get?_push_cases e' with ⟨hbS, ho⟩ | e2
      · subst hbS
        rw [g1]
        first | rw [ho] | (rw [← ho])
      · exact g4 b o hb e2
    · have hj : j < xs.length := by
        have := (List.getElem?_eq_some_iff.mp (hps j p e1).1).1
        exact this
      obtain ⟨_, x, y, a1, a2, a3⟩ := g3 j hj
      obtain ⟨_, _, b3, b4⟩ := hps j p e1
      have c1 : x = p.2.1 := by
        have : its[j]? = some x := by simpa using a1
        rw [b3] at this
        cases this
        rfl
      have c2 : y = p.2.2 := by
        have : its2[j]? = some y := by simpa using a2
        rw [b4] at this
        cases this
        rfl
      subst c1 c2
      have hb2 : b = h'.objs.size + 1 + j := by rw [e2, hsz1]
      rw [hb2, e3]
      exact a3
  have f5 : ∀ b ∈ [z, TO, i1, i2], FpOk X pins (layZ (upd H1 h'.objs.size (.lst (ts.map V.ref))) (h'.objs.size + 1) ps) b := fun b hb => by
    obtain ⟨hlt, f⟩ := hfp b hb
    obtain ⟨f0, f1⟩ := f
    refine ⟨?_, f1⟩
    rw [layZ_lt (Nat.lt_succ_of_lt hlt), upd_ne (Nat.ne_of_lt hlt)]
    exact f0
  have I5 := L2.Inv.turnedL (t' := s1.toks) (h' := h'') (ch := [z, TO, i1, i2]) I4 k5 f5
  refine ⟨.ref h'.objs.size, _, I5, rfl, q _ ts _ hD (fun c o e => ?_) ?_ (by simp [ts]) fun j t x y e1 e2 e3 => ?_⟩
  · refine layZ_keep fr c o ?_
    rw [upd_ne (ne_of_none e hD)]
    exact e
  · rw [layZ_lt (Nat.lt_succ_self _)]
    exact upd_same
  · have hj : j < xs.length := (List.getElem?_eq_some_iff.mp e2).1
    have ht : t = h'.objs.size + 1 + j := by
      simp [ts, hj] at e1
      exact e1.symm
    obtain ⟨u, hu, _⟩ := rv.get e2
    obtain ⟨v, hv, _⟩ := rv2.get e3
    have hp : ps[j]? = some ((x, y), (u, v)) := by
      simp only [ps, List.getElem?_zip_eq_some]
      exact ⟨⟨e2, e3⟩, hu, hv⟩
    rw [ht]
    exact ⟨_, rfl, layZ_at hp⟩
theorem seven_lt {n a b c : Nat} (ha : a < n) (hb : b < n) (h : c ∈ [n + 4, n + 2, n + 3, n, n + 1, a, b]) : c < n + 5 := by
  simp only [List.mem_cons, List.not_mem_nil, or_false] at h
  omega
theorem four_lt {pins : List (Addr × Obj)} {H1 : Hp} {n m c : Nat} (hm : m = n + 5) (f : ∀ c : Nat, n ≤ c → FpOk X pins H1 c) (h : c ∈ [n + 4, n + 3, n, n + 1]) : c < m ∧ FpOk X pins H1 c := by
  simp only [List.mem_cons, List.not_mem_nil, or_false] at h
  exact ⟨by omega, f c (by omega)⟩
open RZ PySem.Spec PyProof.Rows in
theorem pe_lzip {e e2 : Expr} {ta : TA} {p p2 pos pos2 : Pos} (hc : X.calm = true) (hg : Gl X "list") (hm : X.mg "list" = none) (hg2 : Gl X "zip") (hm2 : X.mg "zip" = none) (ha : PA X [e, e2] ta)
    (hs : starEach [e, e2] X.env = (false, eval e X.env) :: starEach [e2] X.env := by rfl) (hpl : (backTo pos2 (starEach [e2] X.env)).any (·.1) = false := by rfl)
    (hs2 : starEach [.Call (.Name "zip" p2) [e, e2] [] pos2] X.env = (false, eval (.Call (.Name "zip" p2) [e, e2] [] pos2) X.env) :: starEach [] X.env := by rfl) :
    PE X (.Call (.Name "list" p) [.Call (.Name "zip" p2) [e, e2] [] pos2] [] pos) (tLzip X.K ta) := by
  refine ⟨fun pins s σ H Q I h => ?_⟩
  refine Call_ (ld_blt I hg hm (boot_tn .lst) (PyProof.Rows.callWith_type1 (args_cons (Call_ (ld_blt I hg2 hm2 PyProof.Rows.boot_zip (PyProof.Rows.callWith_type1 (thn (ha.run pos2 pins s σ H _ I h) fun us s1 ⟨vs, H1, I1, r1, q1⟩ => ?_) hs hpl))) hs2) hs2 rfl))
  obtain ⟨a, b, xs, ys, ex, hq, hxy, q⟩ := q1
  subst ex
  cases r1 with
  | cons r rr =>
    cases rr with
    | cons r' rr =>
      cases rr
      cases r
      cases r'
      have fp : ∀ c, s1.heap.objs.size ≤ c → FpOk X pins H1 c := fun c hle => I1.fpOk hle (I1.hok.fresh hle)
      rcases hq with ⟨hqx, hqy⟩ | ⟨hqx, hqy⟩
      · obtain ⟨its, rv, p1, hz⟩ := I1.list hqx
        obtain ⟨its2, rv2, p2, _⟩ := I1.list hqy
        have n1 := rv.length
        have n2 := rv2.length
        refine call_zip_2 p1.isList p2.isList fun h' hzz hTI hTO h1 h2 hsz hk => args_nil ?_
        have D := PySem.W.ktu_apart s1.heap.objs.size a b p1.lt p2.lt
        have I2 : L2.Inv X pins σ H1 { s1 with heap := h' } := I1.kept (t' := s1.toks) hk
        have la := p1.lt
        have lb := p2.lt
        refine call_list_zip (s := { s1 with heap := h' }) (I1.ok.hd hc) D (srcL D.l1i1) (srcL D.l2i2) (xs := its.toArray) (ys := its2.toArray) ⟨hzz, hTI, ⟨_, _, hTO⟩, ⟨h1, p1.isList.at fun o e => hk _ o e⟩, ⟨h2, p2.isList.at fun o e => hk _ o e⟩⟩
          (fun c hcm => ?_) (by rw [List.size_toArray, ← n1]; exact hz) (by rw [List.size_toArray, List.size_toArray, ← n1, ← n2]; exact hxy) fun h'' acc c g1 g2 g3 g4 => ?_
        · show c < h'.objs.size
          rw [hsz]
          exact seven_lt la lb hcm
        · exact zip_fin I2 rv rv2 hxy hz (fun c hcm => four_lt hsz fp hcm) g1 g2 g3 g4 q
      · obtain ⟨its, rv, p1, hz⟩ := I1.tuple hqx
        obtain ⟨its2, rv2, p2, _⟩ := I1.tuple hqy
        have n1 := rv.length
        have n2 := rv2.length
        have hp1 : s1.heap.IsTuple a its.toArray := p1
        have hp2 : s1.heap.IsTuple b its2.toArray := p2
        refine call_zipT hp1 hp2 fun h' hzz hTI hTO h1 h2 hsz hk => args_nil ?_
        have la := p1.lt
        have lb := p2.lt
        have D := PySem.W.ktu_apart s1.heap.objs.size a b la lb
        have I2 : L2.Inv X pins σ H1 { s1 with heap := h' } := I1.kept (t' := s1.toks) hk
        refine call_list_zip (s := { s1 with heap := h' }) (I1.ok.hd hc) D (srcT D.l1i1) (srcT D.l2i2) (xs := its.toArray) (ys := its2.toArray) ⟨hzz, hTI, ⟨_, _, hTO⟩, ⟨h1, hp1.at fun o e => hk _ o e⟩, ⟨h2, hp2.at fun o e => hk _ o e⟩⟩
          (fun c hcm => ?_) (by rw [List.size_toArray, ← n1]; exact hz) (by rw [List.size_toArray, List.size_toArray, ← n1, ← n2]; exact hxy) fun h'' acc c g1 g2 g3 g4 => ?_
        · show c < h'.objs.size
          rw [hsz]
          exact seven_lt la lb hcm
        · exact zip_fin I2 rv rv2 hxy hz (fun c hcm => four_lt hsz fp hcm) g1 g2 g3 g4 q
end
end Mn
/-! MnW4: walks over zip(a, b) of two tuples, the pairs whole. -/
namespace Mn
open PySem PySem.Spec PyProof.Rows L2 RZ
def ItzX (K : PySem.W.Frag) (a b : Addr) : It :=
  ⟨fun i H => ∃ (xs ys : List V) (x y : V), SqT K H a xs ∧ SqT K H b ys ∧ xs[i]? = some x ∧ ys[i]? = some y,
    fun i H v H' => ∃ T x y o, v = .ref T ∧ o.dict = none ∧ H T = none ∧ H' = upd H T (.frz o (.tup [x, y])) ∧ (∀ xs, SqT K H a xs → xs[i]? = some x) ∧ ∀ ys, SqT K H b ys → ys[i]? = some y,
    fun i H => ∃ xs ys : List V, SqT K H a xs ∧ SqT K H b ys ∧ (xs.length ≤ i ∨ ys.length ≤ i)⟩
theorem turnX_zip {P : Program} {w : World} {K : PySem.W.Frag} {elts : List Expr} {kk : Nat} {tpos : Pos} {a b z TI TO i1 i2 : Addr} (D : ZipApart z TI TO i1 i2 a b) :
    Turn P w K (.Tuple elts kk tpos) (ItzX K a b) [z, TI, TO, i1, i2] z (fun i h => IsZip h z TI TO .none ∧ IsPair h TI (.ref i1) (.ref i2) ∧ (∃ x y, IsPair h TO x y) ∧ h.IsTupleIter i1 a i ∧ h.IsTupleIter i2 b i) where
  mem := by simp
  obj := fun i h st c hc => by
    obtain ⟨hz, hTI, ⟨x, y, hTO⟩, ⟨o1, e1, _, d1⟩, ⟨o2, e2, _, d2⟩⟩ := st
    have e' : c = z ∨ c = TI ∨ c = TO ∨ c = i1 ∨ c = i2 := by simpa using hc
    rcases e' with q | q | q | q | q
    · rw [q]; exact ⟨_, hz, fun v q => nomatch q⟩
    · rw [q]; exact ⟨_, hTI, fun v q => nomatch q⟩
    · rw [q]; exact ⟨_, hTO, fun v q => nomatch q⟩
    · rw [q]; exact ⟨o1, e1, fun v q => by rw [d1] at q; cases q⟩
    · rw [q]; exact ⟨o2, e2, fun v q => by rw [d2] at q; cases q⟩
  keep := fun i h h' st k => by
    obtain ⟨hz, hTI, ⟨x, y, hTO⟩, h1, h2⟩ := st
    exact ⟨k z (by simp) _ hz, k TI (by simp) _ hTI, ⟨x, y, k TO (by simp) _ hTO⟩, h1.at fun o q => k i1 (by simp) o q, h2.at fun o q => k i2 (by simp) o q⟩
  item := by
    intro X hP hw hK hc i pins s σ H E I hf st hg
    subst hP hw hK
    obtain ⟨hz, hTI, ⟨x0, y0, hTO⟩, h1, h2⟩ := st
    obtain ⟨xs, ys, x, y, hqx, hqy, hx, hy⟩ := hg
    obtain ⟨its, rv, p, _⟩ := I.tuple hqx
    obtain ⟨its2, rv2, p2, _⟩ := I.tuple hqy
    obtain ⟨u, hu, ru⟩ := rv.get hx
    obtain ⟨u2, hu2, ru2⟩ := rv2.get hy
    have hzl : z < s.heap.objs.size := Heap.lt_size hz
    refine pyNext_zipT_item D hz hTI hTO h1 h2 p p2 (x := u) (y := u2) (by simpa using hu) (by simpa using hu2) fun h' z' TO' h1' h2' hT hsz hk => ?_
    refine ⟨_, rfl, wpAny_letOwnedTupleGo_zip (s := { s with heap := h' }) z' fun h'' z'' sb => ?_⟩
    have hT2 : h''.get? s.heap.objs.size = some { cls := .type "tuple", data := .seq #[u, u2] } := (sb.2 _ (Nat.ne_of_gt hzl)).trans hT
    have new : ObjOk X.prog X.w (upd H s.heap.objs.size (.frz (tupO [u, u2]) (.tup [x, y]))) h'' s.heap.objs.size (.frz (tupO [u, u2]) (.tup [x, y])) :=
      ⟨hT2, by show 2 ≤ sizeLine; decide, [u, u2], .cons ru (.cons ru2 .nil), ⟨_, hT2, rfl, _, rfl⟩⟩
    have I1 : L2.Inv X pins σ (upd H s.heap.objs.size (.frz (tupO [u, u2]) (.tup [x, y]))) { s with heap := h'' } :=
      I.turnedNew (t' := s.toks) (ch := [z, TI, TO, i1, i2]) (fun c o hb q => (sb.2 c (fun q' => hb (by simp [q']))).trans (hk c o (fun q' => hb (by simp [q'])) (fun q' => hb (by simp [q'])) (fun q' => hb (by simp [q'])) (fun q' => hb (by simp [q'])) q)) hf (Nat.le_refl _) new
    refine ⟨.ref s.heap.objs.size, _, I1, rfl, ⟨_, x, y, tupO [u, u2], rfl, rfl, I.hok.fresh (Nat.le_refl _), rfl, fun l hl => by rw [I.tuple_inj hl hqx]; exact hx, fun l hl => by rw [I.tuple_inj hl hqy]; exact hy⟩, ⟨z'', ?_, ⟨u, u2, ?_⟩, ?_, ?_⟩, fun c hcm => ?_⟩
    · exact (sb.2 _ D.TIz).trans (hk _ _ D.TIz D.TITO D.TIi1 D.TIi2 hTI)
    · exact (sb.2 _ D.TOz).trans TO'
    · exact h1'.at fun o q => (sb.2 _ D.i1z).trans q
    · exact h2'.at fun o q => (sb.2 _ D.i2z).trans q
    · have hlt : c < s.heap.objs.size := by
        have e' : c = z ∨ c = TI ∨ c = TO ∨ c = i1 ∨ c = i2 := by simpa using hcm
        rcases e' with q | q | q | q | q
        · rw [q]; exact hzl
        · rw [q]; exact Heap.lt_size hTI
        · rw [q]; exact Heap.lt_size hTO
        · rw [q]; obtain ⟨_, e1, _⟩ := h1; exact Heap.lt_size e1
        · rw [q]; obtain ⟨_, e2, _⟩ := h2; exact Heap.lt_size e2
      rw [upd_ne (Nat.ne_of_lt hlt)]
      exact (hf c hcm).1
  done := by
    intro X hP hw hK hc i pins s σ H E I hf st hg
    subst hP hw hK
    obtain ⟨hz, hTI, ⟨x0, y0, hTO⟩, h1, h2⟩ := st
    obtain ⟨xs, ys, hqx, hqy, hend⟩ := hg
    obtain ⟨its, rv, p, _⟩ := I.tuple hqx
    obtain ⟨its2, rv2, p2, _⟩ := I.tuple hqy
    have l1 := rv.length
    have l2 := rv2.length
    have he : its.toArray[i]? = none ∨ its2.toArray[i]? = none := by
      rcases hend with q | q
      · exact .inl (by simp; omega)
      · exact .inr (by simp; omega)
    exact pyNext_zipT_end (I.ok.hd hc) D hz hTI hTO h1 h2 p p2 he fun h' hk => ⟨rfl, I.turnedL (t' := s.toks) (ch := [z, TI, TO, i1, i2]) (fun c o hb q =>
      hk c o (fun q' => hb (by simp [q'])) (fun q' => hb (by simp [q'])) (fun q' => hb (by simp [q'])) (fun q' => hb (by simp [q'])) q) hf⟩
  self := fun A i s Q E st h => wpAny_pyIter_zip st.1 h


theorem pi_zipX {X : Cx} {e e2 : Expr} {ta : TA} {p pos tpos : Pos} {elts : List Expr} {kk : Nat} (hg : Gl X "zip") (hm : X.mg "zip" = none) (ha : PA X [e, e2] ta)
    (hs : starEach [e, e2] X.env = (false, eval e X.env) :: starEach [e2] X.env := by rfl) (hpl : (backTo pos (starEach [e2] X.env)).any (·.1) = false := by rfl) :
    PI X (.Tuple elts kk tpos) (.Call (.Name "zip" p) [e, e2] [] pos) (fun σ H R => ta σ H fun vs H1 => ∃ a b xs ys, vs = [.ref a, .ref b] ∧ SqT X.K H1 a xs ∧ SqT X.K H1 b ys ∧ R (ItzX X.K a b) H1) := by
  refine ⟨fun pins s σ H R I h => ?_⟩
  refine Call_ (ld_blt I hg hm PyProof.Rows.boot_zip (PyProof.Rows.callWith_type1 (thn (ha.run pos pins s σ H _ I h) fun us s1 ⟨vs, H1, I1, r1, q1⟩ => ?_) hs hpl))
  obtain ⟨a, b, xs, ys, ex, hqx, hqy, q⟩ := q1
  subst ex
  cases r1 with
  | cons r rr =>
    cases rr with
    | cons r' rr =>
      cases rr
      cases r
      cases r'
      have fresh5 : ∀ c, c ∈ [s1.heap.objs.size + 4, s1.heap.objs.size + 2, s1.heap.objs.size + 3, s1.heap.objs.size, s1.heap.objs.size + 1] → FpOk X pins H1 c := fun c hcm => by
        have e' : c = s1.heap.objs.size + 4 ∨ c = s1.heap.objs.size + 2 ∨ c = s1.heap.objs.size + 3 ∨ c = s1.heap.objs.size ∨ c = s1.heap.objs.size + 1 := by simpa using hcm
        have hle : s1.heap.objs.size ≤ c := by
          rcases e' with z | z | z | z | z
          · rw [z]; exact Nat.le_add_right _ _
          · rw [z]; exact Nat.le_add_right _ _
          · rw [z]; exact Nat.le_add_right _ _
          · rw [z]; exact Nat.le_refl _
          · rw [z]; exact Nat.le_add_right _ _
        exact I1.fpOk hle (I1.hok.fresh hle)
      obtain ⟨its, rv, p1, _⟩ := I1.tuple hqx
      obtain ⟨its2, rv2, p2, _⟩ := I1.tuple hqy
      obtain ⟨o1, ho1, _⟩ := id p1
      obtain ⟨o2, ho2, _⟩ := id p2
      refine call_zipT (show s1.heap.IsTuple a its.toArray from p1) (show s1.heap.IsTuple b its2.toArray from p2) fun h' hz hTI hTO h1 h2 hsz hk => wpAny_pyIter_zip hz ?_
      have I2 : L2.Inv X pins σ H1 { s1 with heap := h' } := I1.kept (t' := s1.toks) hk
      exact ⟨s1.heap.objs.size + 4, [s1.heap.objs.size + 4, s1.heap.objs.size + 2, s1.heap.objs.size + 3, s1.heap.objs.size, s1.heap.objs.size + 1], _, _, H1, rfl, I2, turnX_zip (PySem.W.ktu_apart s1.heap.objs.size a b (Heap.lt_size ho1) (Heap.lt_size ho2)), ⟨hz, hTI, ⟨_, _, hTO⟩, h1, h2⟩, fresh5, q⟩
end Mn
/-! MnG3: popping, rows of operands, slices' parts, walks, comprehensions; the whole of the expressions. -/
namespace Mn
open PySem L2
theorem ext_upd {H : Hp} {a : Addr} {u v : HO} (h1 : H a = some u) (hu : Fz1 u) : Ext H (upd H a v) := by
  refine ⟨fun b xs q => ?_, fun b o' w q => ?_⟩
  · rw [upd_ne (fun z => by subst z; rw [h1] at q; rcases hu with ⟨xs, rfl⟩ | ⟨kvs, rfl⟩ <;> cases q)]
    exact q
  · rw [upd_ne (fun z => by subst z; rw [h1] at q; rcases hu with ⟨xs, rfl⟩ | ⟨kvs, rfl⟩ <;> cases q)]
    exact q
theorem stp_upd {H : Hp} {f : List Addr} {a : Addr} {u v : HO} (ha : a ∈ f) (h1 : H a = some u) (hu : Fz1 u) : Stp H f (upd H a v) f :=
  ⟨ext_upd h1 hu, fun b o q n => by rw [upd_ne (show b ≠ a from fun z => n (by rw [z]; exact ha))]; exact q, fun _ h => .inl h⟩
theorem Stp.beside {H H' : Hp} {f f' : List Addr} (g : List Addr) (s : Stp H f H' f') : Stp H (g ++ f) H' (g ++ f') := by
  refine ⟨s.1, fun a o h n => s.2.1 a o h fun z => n (List.mem_append_right _ z), fun a ha => ?_⟩
  rcases List.mem_append.mp ha with z | z
  · exact .inl (List.mem_append_left _ z)
  · rcases s.2.2 a z with y | y
    · exact .inl (List.mem_append_right _ y)
    · exact .inr y
section
variable {T : Tab} {N : List Str} {k : Nat}
theorem c_popV (i : Nat) : Sn T N k (.popV i) := by
  intro X sc top io e C h
  simp only [mE] at h
  split at h
  · rename_i o nm hv
    simp only [Bool.and_eq_true, decide_eq_true_eq] at h
    obtain ⟨rfl, h⟩ := h
    obtain ⟨p, q, rfl, hline⟩ := vCallA_of hv
    split at h
    · rename_i x hx
      obtain ⟨p2, rfl⟩ := vName_of hx
      obtain ⟨y, p3, e1, h1, _⟩ := var_of (e := .Name x p2) C (by simp only [mE, vName]; simpa using h)
      cases e1
      have z : PE X (.Call (.Attribute (.Name x p2) ("pop" : Str) p) [] [] q) (tG X.K (RV_ X.K) (evE (call T k) T.con (.popV i))) := by
        refine PE.imp (pe_bm0 PySem.F.plainAttrs_list PySem.F.slot_list_pop PySem.F.type_list_pop mt_pop h1 rfl hline) fun σ H Q q => ?_
        obtain ⟨env, f, w, env', rel, nd, e, q⟩ := q
        rw [evE] at e
        unfold popS at e
        split at e
        · rename_i xs hs
          split at e
          · rename_i y hy
            cases e
            obtain ⟨v, g, h', h1, h2, h3, h4⟩ := rel.out hs
            obtain ⟨a, vs, rfl, rfl, hH, r⟩ := h2
            have hl := r.len
            have hy' : xs[xs.length - 1]? = some y := by rw [← List.getLast?_eq_getElem?]; exact hy
            obtain ⟨yv, e2, r2⟩ := r.get hy'
            have nd' := h4.nodup_iff.mp nd
            have na : a ∉ h' := (List.nodup_cons.mp nd').1
            have hz : Fz1 (.lst vs) := .inl ⟨_, rfl⟩
            refine ⟨.ref a, h1, .inl ⟨rfl, vs, .inl (.inl hH)⟩, a, vs, yv, rfl, rfl, hH, by rw [hl]; exact e2, ?_⟩
            refine q yv _ ([a] ++ h') [] ?_ (mk_d (r2.ext (ext_upd hH hz))) (by simpa using nd') ?_
            · exact RelE.put (h3.keep (fun b hb => upd_ne fun z => na (z ▸ hb)) (ext_upd hH hz)) h1 ⟨a, _, rfl, rfl, upd_same, r.dropLast.ext (ext_upd hH hz)⟩
            · exact (stp_upd (h4.mem_iff.mpr (by simp)) hH hz).sub fun b hb => h4.mem_iff.mpr (by simpa using hb)
          · cases e
        · cases e
      exact ⟨z, fun _ => pt_plain z rfl⟩
    · cases h
  · cases h

theorem few1' {X : Cx} {x : Expr} {q : Pos} (hp : plainX x = true) : ((backTo q (starEach [x] X.env)).all (fun x => !x.1) && (backToKw q (keywordEach [] X.env)).all (fun x => x.1.isSome)
      && decide ([x].length + ([] : List Keyword).length + (if ([] : List Keyword).isEmpty then 0 else 1) < 30)) = true := by
  rw [back_all (fun y hy => by rw [List.mem_singleton] at hy; rw [hy]; exact hp)]
  rfl
theorem ls_at' {K : PySem.W.Frag} {H : Hp} {env : Env} {σ : L2.St} {f : List Addr} {i : Nat} (rel : RelE K H env σ f) (h : lsAt env i = true) : ∃ a vs, σ[i]? = some (some (.ref a)) ∧ H a = some (.lst vs) := by
  unfold lsAt at h
  split at h
  · rename_i xs hs
    obtain ⟨v, g, h', k1, k2, k3, k4⟩ := rel.out hs
    obtain ⟨a, vs, rfl, rfl, hH, r⟩ := k2
    exact ⟨a, vs, k1, hH⟩
  · cases h
theorem rep_erase {K : PySem.W.Frag} {H : Hp} {xs : List D} {vs : List V} (h : RepDs K H xs vs) (j : Nat) : RepDs K H (xs.eraseIdx j) (vs.eraseIdx j) := by
  rw [List.eraseIdx_eq_take_drop_succ, List.eraseIdx_eq_take_drop_succ]
  exact (h.take _).append (h.drop _)
theorem c_popI (i : Nat) {a : CE} (sa : Sn T N k a) : Sn T N k (.popI i a) := by
  intro X sc top io e C h
  simp only [mE] at h
  split at h
  · rename_i o nm y hv
    simp only [Bool.and_eq_true, decide_eq_true_eq] at h
    obtain ⟨⟨⟨rfl, hpl⟩, hma⟩, h⟩ := h
    obtain ⟨p, q, rfl, hline⟩ := vCallA_of hv
    split at h
    · rename_i x hx
      obtain ⟨p2, rfl⟩ := vName_of hx
      obtain ⟨y', p3, e1, h1, _⟩ := var_of (e := .Name x p2) C (by simp only [mE, vName]; simpa using h)
      cases e1
      have hst : starEach [y] X.env = (false, eval y X.env) :: starEach [] X.env := plain_star hpl
      have z : PE X (.Call (.Attribute (.Name x p2) ("pop" : Str) p) [y] [] q) (tG X.K (RV_ X.K) (evE (call T k) T.con (.popI i a))) := by
        refine PE.imp (pe_bm PySem.F.plainAttrs_list PySem.F.slot_list_pop PySem.F.type_list_pop mt_popAt h1 (pa_cons (fz_of C hma sa) pa_nil hst) rfl (few1' hpl) hline hst rfl) fun σ H Q q => ?_
        obtain ⟨env, f, w, env', rel, nd, e, q⟩ := q
        rw [evE] at e
        split at e
        · rename_i hls
          obtain ⟨d, e1, g1, g2⟩ := bnd_eq e
          obtain ⟨l, vs0, hsa, hHa⟩ := ls_at' rel hls
          refine ⟨.ref l, hsa, .inl ⟨rfl, vs0, .inl (.inl hHa)⟩, env, f, d, e1, rel, nd, g1, fun xv H1 f1 g rel1 r1 nd1 st1 => ?_⟩
          obtain ⟨rfl, r1⟩ := r1
          unfold popIS at g2
          split at g2
          · rename_i xs n hs
            split at g2
            · rename_i hz
              simp only [Option.bind_eq_some_iff, Option.map_eq_some_iff] at g2
              obtain ⟨j, hj, z, hzj, g3⟩ := g2
              cases g3
              obtain ⟨v, g, h', k1, k2, k3, k4⟩ := rel1.out hs
              obtain ⟨l', vs, rfl, rfl, hH, r⟩ := k2
              rw [hsa] at k1
              cases k1
              have hl := r.len
              obtain ⟨yv, e2, r2⟩ := r.get hzj
              have nd' := k4.nodup_iff.mp nd1
              have na : l ∉ h' := (List.nodup_cons.mp nd').1
              have hF : Fz1 (.lst vs) := .inl ⟨_, rfl⟩
              have hxv : xv = .int n := by simpa [RepD] using r1
              subst hxv
              have hsz : vs.length ≤ 16777216 := by rw [hl]; exact hz
              have hjx : seqIndex? n vs.length = some j := by
                rw [hl]
                unfold ixN at hj
                unfold seqIndex?
                split at hj
                · rename_i h0
                  split at hj
                  · rename_i h2
                    cases hj
                    have h0' : ¬ n < 0 := by omega
                    simp only [h0', if_false]
                    rw [if_pos (by simp; omega)]
                  · cases hj
                · rename_i h0
                  split at hj
                  · rename_i h2
                    cases hj
                    have h0' : n < 0 := by omega
                    simp only [h0', if_true]
                    rw [if_pos (by simp; omega)]
                  · cases hj
              have hb : -(2 ^ 63) ≤ n ∧ n < 2 ^ 63 := by
                unfold ixN at hj
                rw [hl] at hsz
                split at hj
                · split at hj
                  · omega
                  · cases hj
                · split at hj
                  · omega
                  · cases hj
              refine ⟨l, vs, n, j, yv, rfl, rfl, hH, hb.1, hb.2, hjx, e2, ?_⟩
              refine q yv _ ([l] ++ h') [] ?_ (mk_d (r2.ext (ext_upd hH hF))) (by simpa using nd') ?_
              · exact RelE.put (k3.keep (fun b hb => upd_ne fun z => na (z ▸ hb)) (ext_upd hH hF)) hsa ⟨l, _, rfl, rfl, upd_same, (rep_erase r j).ext (ext_upd hH hF)⟩
              · exact (st1.trans (stp_upd (show l ∈ f1 from k4.mem_iff.mpr (by simp)) hH hF)).sub fun b hb => k4.mem_iff.mpr (by simpa using hb)
            · cases g2
          · cases g2
        · cases e
      exact ⟨z, fun _ => pt_plain z rfl⟩
    · cases h
  · cases h
theorem few2' {X : Cx} {x y : Expr} {q : Pos} (hp : plainX x = true) (hp2 : plainX y = true) : ((backTo q (starEach [x, y] X.env)).all (fun x => !x.1) && (backToKw q (keywordEach [] X.env)).all (fun x => x.1.isSome)
      && decide ([x, y].length + ([] : List Keyword).length + (if ([] : List Keyword).isEmpty then 0 else 1) < 30)) = true := by
  rw [back_all (fun z hz => by
    rcases List.mem_cons.mp hz with z' | z'
    · rw [z']; exact hp
    · rw [List.mem_singleton] at z'
      rw [z']; exact hp2)]
  rfl
theorem dc_at' {K : PySem.W.Frag} {H : Hp} {env : Env} {σ : L2.St} {f : List Addr} {i : Nat} (rel : RelE K H env σ f) (h : dcAt env i = true) : ∃ a kws, σ[i]? = some (some (.ref a)) ∧ H a = some (.dK kws) := by
  unfold dcAt at h
  split at h
  · rename_i xs hs
    obtain ⟨v, g, h', k1, k2, k3, k4⟩ := rel.out hs
    obtain ⟨a, vs, rfl, rfl, hH, r⟩ := k2
    exact ⟨a, vs, k1, hH⟩
  · cases h
theorem c_sdf (i : Nat) {a b : CE} (sa : Sn T N k a) (sb : Sn T N k b) : Sn T N k (.sdf i a b) := by
  intro X sc top io e C h
  simp only [mE] at h
  split at h
  · rename_i o nm y z hv
    simp only [Bool.and_eq_true, decide_eq_true_eq] at h
    obtain ⟨⟨⟨⟨⟨rfl, hpl⟩, hpl2⟩, hma⟩, hmb⟩, h⟩ := h
    obtain ⟨p, q, rfl, hline⟩ := vCallA_of hv
    split at h
    · rename_i x hx
      obtain ⟨p2, rfl⟩ := vName_of hx
      obtain ⟨y', p3, e1, h1, _⟩ := var_of (e := .Name x p2) C (by simp only [mE, vName]; simpa using h)
      cases e1
      have hM : M2 X (.Name x p2) "setdefault" p y z q := ⟨rfl, few2' hpl hpl2, hline, by rw [plain_star hpl, plain_star hpl2]; rfl⟩
      have zz : PE X (.Call (.Attribute (.Name x p2) ("setdefault" : Str) p) [y, z] [] q) (tG X.K (RV_ X.K) (evE (call T k) T.con (.sdf i a b))) := by
        refine PE.imp (pe_dsetd h1 (fz_of C hma sa) (fz_of C hmb sb) hM) fun σ H Q q => ?_
        obtain ⟨env, f, w, env', rel, nd, e, q⟩ := q
        rw [evE] at e
        split at e
        · rename_i hdc
          obtain ⟨d, e1, g1, g2⟩ := bnd_eq e
          obtain ⟨d2, e2, g3, g4⟩ := bnd_eq g2
          obtain ⟨l, kw0, hsa, hHa⟩ := dc_at' rel hdc
          refine ⟨.ref l, hsa, l, rfl, .inl ⟨kw0, .inl hHa⟩, env, f, d, e1, rel, nd, g1, fun xv H1 f1 g rel1 r1 nd1 st1 => ?_⟩
          obtain ⟨rfl, r1⟩ := r1
          refine ⟨e1, f1, d2, e2, rel1, by simpa using nd1, g3, fun zv H2 f2 g' rel2 r2 nd2 st2 => ?_⟩
          obtain ⟨rfl, r2⟩ := r2
          unfold sdfIS at g4
          split at g4
          · rename_i kvs s hs
            split at g4
            · rename_i hz
              obtain ⟨v, g, h', k1, k2, k3, k4⟩ := rel2.out hs
              obtain ⟨l', kws, rfl, rfl, hH, rk, r⟩ := k2
              rw [hsa] at k1
              cases k1
              have hl : kws.length = kvs.length := by
                have := congrArg List.length rk
                simpa using this
              have nd' := k4.nodup_iff.mp nd2
              have na : l ∉ h' := (List.nodup_cons.mp nd').1
              have hF : Fz1 (.dK kws) := .inr ⟨_, rfl⟩
              have hxv : xv = .str (stx s) := by simpa [RepD] using r1
              subst hxv
              obtain ⟨kv1, kv2⟩ := keyOf_val (k := s) rk r
              have st12 := st1.trans (by simpa using st2)
              refine ⟨kws, Sum.inr (stx s), hH, rfl, by rw [hl, sizeLine_eq]; exact hz, fun v hv => ?_, fun hn => ?_⟩
              · split at g4
                · rename_i x hx
                  cases g4
                  obtain ⟨v', hv', rv⟩ := kv1 _ hx
                  rw [hv] at hv'
                  cases hv'
                  exact q v H2 f2 [] rel2 (mk_d rv) (by simpa using nd2) (by simpa using st12)
                · rename_i hx
                  rw [kv2 hx] at hv
                  cases hv
              · split at g4
                · rename_i x hx
                  obtain ⟨v', hv', rv⟩ := kv1 _ hx
                  rw [hn] at hv'
                  cases hv'
                · rename_i hx
                  cases g4
                  obtain ⟨p1, p2⟩ := put_rep s rk r r2
                  refine q zv _ ([l] ++ h') [] ?_ (mk_d (r2.ext (ext_upd hH hF))) (by simpa using nd') ?_
                  · exact RelE.put (k3.keep (fun b hb => upd_ne fun z => na (z ▸ hb)) (ext_upd hH hF)) hsa ⟨l, _, rfl, rfl, upd_same, p1, p2.ext (ext_upd hH hF)⟩
                  · exact (st12.trans (stp_upd (show l ∈ f2 from k4.mem_iff.mpr (by simp)) hH hF)).sub fun b hb => k4.mem_iff.mpr (by simpa using hb)
            · cases g4
          · cases g4
        · cases e
      exact ⟨zz, fun _ => pt_plain zz rfl⟩
    · cases h
  · cases h
/-! ### rows of operands -/
theorem tG_consP {K : PySem.W.Frag} {ra : Env → Option (PV × Env)} {rs : Env → Option (List PV × Env)} {σ : L2.St} {H : Hp} {Q : List V → Hp → Prop}
    (h : tG K (RPs_ K) (fun env => bnd (ra env) fun p e1 => bnd (rs e1) fun ps e2 => some (p :: ps, e2)) σ H Q) : tCons (tG K (RP_ K) ra) (tG K (RPs_ K) rs) σ H Q := by
  obtain ⟨env, f, w, env', rel, nd, e, q⟩ := h
  obtain ⟨p, e1, h1, h2⟩ := bnd_eq e
  obtain ⟨ps, e2, h3, h4⟩ := bnd_eq h2
  cases h4
  refine ⟨env, f, p, e1, rel, nd, h1, fun v1 H1 f1 g1 rel1 r1 nd1 st1 => ⟨e1, f1, ps, _, rel1, (nodup_app.mp nd1).2.1, h3, fun v2 H2 f2 g2 rel2 r2 nd2 st2 => ?_⟩⟩
  obtain ⟨nd3, st3, k3, x3⟩ := chain nd1 st1 r1.trk nd2 st2
  exact q _ H2 f2 (g1 ++ g2) rel2 ⟨v1, v2, g1, g2, rfl, r1.keep k3 x3, r2, rfl⟩ (by rw [List.append_assoc]; exact nd3) (by rw [List.append_assoc]; exact st3)
theorem tG_consD {K : PySem.W.Frag} {ra : Env → Option (D × Env)} {rs : Env → Option (List D × Env)} {σ : L2.St} {H : Hp} {Q : List V → Hp → Prop}
    (h : tG K (RDs_ K) (fun env => bnd (ra env) fun p e1 => bnd (rs e1) fun ps e2 => some (p :: ps, e2)) σ H Q) : tCons (tG K (RD_ K) ra) (tG K (RDs_ K) rs) σ H Q := by
  obtain ⟨env, f, w, env', rel, nd, e, q⟩ := h
  obtain ⟨p, e1, h1, h2⟩ := bnd_eq e
  obtain ⟨ps, e2, h3, h4⟩ := bnd_eq h2
  cases h4
  refine ⟨env, f, p, e1, rel, nd, h1, fun v1 H1 f1 g1 rel1 r1 nd1 st1 => ⟨e1, f1, ps, _, rel1, (nodup_app.mp nd1).2.1, h3, fun v2 H2 f2 g2 rel2 r2 nd2 st2 => ?_⟩⟩
  obtain ⟨rfl, r1⟩ := r1
  obtain ⟨rfl, r2⟩ := r2
  exact q _ H2 f2 [] rel2 ⟨rfl, .cons (r1.ext st2.1) r2⟩ nd2 (Stp.trans st1 st2)
theorem PTs.imp {X : Cx} {es : List Expr} {t t' : TT} (h : PTs X es t) (i : ∀ σ H Q, t' σ H Q → t σ H Q) : PTs X es t' := ⟨fun pins s σ H Q I q => h.run pins s σ H Q I (i σ H Q q)⟩
theorem tG_eq {α β : Type} {K : PySem.W.Frag} {R : Hp → L2.St → α → β → List Addr → Prop} {r r' : Env → Option (α × Env)} (h : ∀ env, r env = r' env) {σ : L2.St} {H : Hp} {Q : β → Hp → Prop} (q : tG K R r σ H Q) : tG K R r' σ H Q := by
  have : r = r' := funext h
  rw [← this]
  exact q
theorem tG_nil {α β : Type} {K : PySem.W.Frag} {R : Hp → L2.St → α → β → List Addr → Prop} {r : Env → Option (α × Env)} {x : α} {y : β} (h : ∀ env, r env = some (x, env)) {σ : L2.St} {H : Hp} {Q : β → Hp → Prop} (hr : R H σ x y []) (q : tG K R r σ H Q) : Q y H := by
  obtain ⟨env, f, w, env', rel, nd, e, q⟩ := q
  rw [h env] at e
  cases e
  exact q y H f [] rel hr nd (Stp.refl H f)
/-- a test first, then by its answer -/
theorem tG_thenV {K : PySem.W.Frag} {r1 r2 : Env → Option (Va × Env)} {d : Bool} {σ : L2.St} {H : Hp} {Q : VK}
    (h : tG K (RV_ K) (fun env => bnd (r1 env) fun w e => (asB w).bind fun t => if t = d then r2 e else some (.d (.bl (!d)), e)) σ H Q) :
    tG K (RV_ K) r1 σ H fun x H1 => ∃ c, x = .bl c ∧ if c = d then tG K (RV_ K) r2 σ H1 Q else Q (.bl (!d)) H1 := by
  obtain ⟨env, f, w', env', rel, nd, e, q⟩ := h
  obtain ⟨w2, e1, h1, h2⟩ := bnd_eq e
  simp only [Option.bind_eq_some_iff] at h2
  obtain ⟨t, h3, h4⟩ := h2
  have := asB_of h3
  subst this
  refine ⟨env, f, _, e1, rel, nd, h1, fun v H' f' g rel' r nd' st => ⟨t, rep_bl r, ?_⟩⟩
  have eg : g = [] := r.1
  subst eg
  by_cases ht : t = d
  · rw [if_pos ht] at h4 ⊢
    exact ⟨e1, f', w', env', rel', nd', h4, fun v2 H2 f2 g2 a2 r2 n2 s2 => q v2 H2 f2 g2 a2 r2 n2 (Stp.trans st s2)⟩
  · rw [if_neg ht] at h4 ⊢
    cases h4
    exact q _ H' f' [] rel' (mk_bl _) nd' st
theorem tG_thenB {K : PySem.W.Frag} {r1 r2 : Env → Option (Va × Env)} {d : Bool} {σ : L2.St} {H : Hp} {Q : Bool → Hp → Prop}
    (h : tG K RB_ (fun env => bnd (bnd (r1 env) fun w e => (asB w).bind fun t => if t = d then r2 e else some (.d (.bl (!d)), e)) fun w e => (asB w).map fun b => (b, e)) σ H Q) :
    tG K RB_ (fun env => bnd (r1 env) fun w e => (asB w).map fun b => (b, e)) σ H fun c H1 => if c = d then tG K RB_ (fun env => bnd (r2 env) fun w e => (asB w).map fun b => (b, e)) σ H1 Q else Q (!d) H1 := by
  obtain ⟨env, f, b, env', rel, nd, e, q⟩ := h
  obtain ⟨w0, e0, h0, h00⟩ := bnd_eq e
  obtain ⟨w2, e1, h1, h2⟩ := bnd_eq h0
  simp only [Option.bind_eq_some_iff] at h2
  obtain ⟨t, h3, h4⟩ := h2
  refine ⟨env, f, t, e1, rel, nd, by show bnd (r1 env) _ = _; rw [h1]; simp [h3], fun v H' f' g rel' r nd' st => ?_⟩
  obtain ⟨rfl, rfl⟩ := r
  by_cases ht : v = d
  · rw [if_pos ht] at h4 ⊢
    exact ⟨e1, f', b, env', rel', nd', by show bnd (r2 e1) _ = _; rw [h4]; exact h00, fun v2 H2 f2 g2 a2 r2 n2 s2 => q v2 H2 f2 g2 a2 r2 n2 (Stp.trans st s2)⟩
  · rw [if_neg ht] at h4 ⊢
    cases h4
    simp only [asB, Option.map_some, Option.some.injEq, Prod.mk.injEq] at h00
    obtain ⟨rfl, rfl⟩ := h00
    exact q _ H' f' [] rel' ⟨rfl, rfl⟩ nd' st
theorem l_nil : SnL T N k .nil := by
  intro X sc top io xs C h
  cases xs with
  | cons => simp [mEs] at h
  | nil =>
    refine ⟨PA.imp pa_nil fun σ H Q q => ?_, PA.imp pa_nil fun σ H Q q => ?_, fun z => absurd rfl z, fun _ => PTs.imp pts_nil fun σ H Q q => ?_⟩
    · exact tG_nil (x := []) (y := []) (fun env => by rw [evPs]) ⟨rfl, rfl⟩ q
    · exact tG_nil (x := []) (y := []) (fun env => by rw [evFs]) ⟨rfl, RepDs.nil⟩ q
    · exact tG_nil (x := true) (y := true) (fun env => by rw [evCs]) ⟨rfl, rfl⟩ q
theorem l_cons {a : CE} {as : CEs} (sa : Sn T N k a) (s : SnL T N k as) : SnL T N k (.cons a as) := by
  intro X sc top io xs C h
  cases xs with
  | nil => simp [mEs] at h
  | cons x xs =>
    simp only [mEs, Bool.and_eq_true] at h
    obtain ⟨⟨hp, ha⟩, hs⟩ := h
    obtain ⟨s1, s2, s3, s4⟩ := s C hs
    refine ⟨PA.imp (pa_cons (op_of C ha sa) s1 (plain_star hp)) fun σ H Q q => tG_consP (tG_eq (fun env => by rw [evPs]) q), PA.imp (pa_cons (fz_of C ha sa) s2 (plain_star hp)) fun σ H Q q => tG_consD (tG_eq (fun env => by rw [evFs]) q), fun _ pos => ?_, fun hc => ?_⟩
    · cases as with
      | nil =>
        cases xs with
        | cons => simp [mEs] at hs
        | nil =>
          refine ⟨PE.imp (pe_one (sa C ha).1) fun σ H Q q => tG_eq (fun env => by rw [evAnd]) q, PE.imp (pe_one (sa C ha).1) fun σ H Q q => tG_eq (fun env => by rw [evOr]) q, fun ht => ?_⟩
          have ht' : tst a x = true := by simpa [tsts] using ht
          exact ⟨PW.imp (pw_and1 ((sa C ha).2 ht')) fun σ H Q q => tG_eq (fun env => by rw [evAnd] <;> rfl) q, PW.imp (pw_or1 ((sa C ha).2 ht')) fun σ H Q q => tG_eq (fun env => by rw [evOr] <;> rfl) q⟩
      | cons b r =>
        cases xs with
        | nil => simp [mEs] at hs
        | cons y ys =>
          obtain ⟨m1, m2, m3⟩ := s3 (by simp) pos
          refine ⟨PE.imp (pe_and (sa C ha).1 m1) fun σ H Q q => tG_thenV (d := true) (tG_eq (fun env => by rw [evAnd] <;> rfl) q), PE.imp (pe_or (sa C ha).1 m2) fun σ H Q q => ?_, fun ht => ?_⟩
          · have := tG_thenV (d := false) (r1 := evE (call T k) T.con a) (r2 := evOr (call T k) T.con (.cons b r)) (tG_eq (fun env => by
              rw [evOr]
              congr 1
              funext w e
              congr 1
              funext t
              cases t <;> rfl) q)
            obtain ⟨env, f, w', env', rel, nd, e, q⟩ := this
            refine ⟨env, f, w', env', rel, nd, e, fun v H' f' g a1 a2 a3 a4 => ?_⟩
            obtain ⟨c, rfl, q2⟩ := q v H' f' g a1 a2 a3 a4
            refine ⟨c, rfl, ?_⟩
            cases c with
            | true => exact q2
            | false => exact q2
          · have ht' : tst a x = true ∧ tsts (.cons b r) (y :: ys) = true := by
              have : (tst a x && tsts (.cons b r) (y :: ys)) = true := by rw [tsts] at ht; exact ht
              simpa using this
            obtain ⟨n1, n2⟩ := m3 ht'.2
            refine ⟨PW.imp (pw_and ((sa C ha).2 ht'.1) n1) fun σ H Q q => tG_thenB (d := true) (tG_eq (fun env => by rw [evAnd] <;> rfl) q), PW.imp (pw_or ((sa C ha).2 ht'.1) n2) fun σ H Q q => ?_⟩
            have := tG_thenB (d := false) (r1 := evE (call T k) T.con a) (r2 := evOr (call T k) T.con (.cons b r)) (tG_eq (fun env => by
              rw [evOr]
              congr 1
              congr 1
              funext w e
              congr 1
              funext t
              cases t <;> rfl) q)
            obtain ⟨env, f, w', env', rel, nd, e, q⟩ := this
            refine ⟨env, f, w', env', rel, nd, e, fun v H' f' g a1 a2 a3 a4 => ?_⟩
            have q2 := q v H' f' g a1 a2 a3 a4
            cases v with
            | true => exact q2
            | false => exact q2
    · cases as with
      | cons b r => simp [cndB] at hc
      | nil =>
        cases xs with
        | cons => simp [mEs] at hs
        | nil =>
          have ht : tst a x = true := by simpa [cndB] using hc
          refine PTs.imp (pts_one ((sa C ha).2 ht)) fun σ H Q q => tG_eq (fun env => ?_) q
          rw [evCs]
          unfold evT
          congr 1
          funext w e
          cases asB w with
          | none => rfl
          | some t => cases t <;> simp [evCs]

/-! ### slices' parts, walks -/
theorem o_none : SnO T N k .none := by
  intro X sc top io x C h
  cases x with
  | some => simp [mO] at h
  | none => exact ⟨fun pins s σ H Q I q => po_none.run pins s σ H Q I (tG_nil (x := none) (y := none) (fun env => by rw [evO]) ⟨rfl, rfl⟩ q)⟩
theorem o_some {a : CE} (sa : Sn T N k a) : SnO T N k (.some a) := by
  intro X sc top io x C h
  cases x with
  | none => simp [mO] at h
  | some e =>
    have ha : mE T N sc a e = true := by simpa [mO] using h
    refine ⟨fun pins s σ H Q I q => (po_some (sa C ha).1).run pins s σ H Q I ?_⟩
    obtain ⟨env, f, o, env', rel, nd, e, q⟩ := q
    rw [evO] at e
    obtain ⟨w, e1, h1, h2⟩ := bnd_eq e
    simp only [Option.map_eq_some_iff] at h2
    obtain ⟨i, h3, h4⟩ := h2
    cases h4
    have := asI_of h3
    subst this
    refine ⟨env, f, _, _, rel, nd, h1, fun v H' f' g a r nd' st => ⟨i, ?_, ?_⟩⟩
    · have := r.2
      simpa [RepD] using this
    · have eg : g = [] := r.1
      subst eg
      exact q _ H' f' [] a ⟨rfl, rfl⟩ nd' st
theorem i_it {a : CE} (sa : Sn T N k a) : SnI T N k (.it a) := by
  intro X sc top io tg e C h
  have ha : mE T N sc a e = true := by simpa [mI] using h
  have hf := fz_of C ha sa
  refine ⟨fun pins s σ H R I q => ?_⟩
  obtain ⟨env, f, xs, env', rel, nd, e, q⟩ := q
  rw [evI] at e
  obtain ⟨x, e1, h1, h2⟩ := bnd_eq e
  simp only [Option.map_eq_some_iff] at h2
  obtain ⟨ys, h3, h4⟩ := h2
  cases h4
  cases x with
  | tup ys =>
    simp only [itemsD, Option.some.injEq] at h3
    subst h3
    refine (pi_tup hf).run pins s σ H R I ⟨env, f, _, _, rel, nd, h1, fun v H1 f1 g rel1 r1 nd1 st1 => ?_⟩
    obtain ⟨rfl, r1⟩ := r1
    simp only [RepD] at r1
    obtain ⟨b, vs, rfl, t1, r2⟩ := r1
    exact ⟨b, rfl, ⟨vs, t1.sq⟩, q _ H1 f1 rel1 nd1 st1 (walks_tup t1.sq r2)⟩
  | lst ys =>
    simp only [itemsD, Option.some.injEq] at h3
    subst h3
    refine (pi_list hf).run pins s σ H R I ⟨env, f, _, _, rel, nd, h1, fun v H1 f1 g rel1 r1 nd1 st1 => ?_⟩
    obtain ⟨rfl, r1⟩ := r1
    simp only [RepD] at r1
    obtain ⟨b, vs, rfl, t1, r2⟩ := r1
    exact ⟨b, rfl, ⟨vs, t1.sq⟩, q _ H1 f1 rel1 nd1 st1 (walks_list t1 r2)⟩
  | str z =>
    simp only [itemsD, Option.some.injEq] at h3
    subst h3
    refine (pi_str hf).run pins s σ H R I ⟨env, f, _, _, rel, nd, h1, fun v H1 f1 g rel1 r1 nd1 st1 => ?_⟩
    obtain ⟨rfl, r1⟩ := r1
    simp only [RepD] at r1
    exact ⟨stx z, r1, q _ H1 f1 rel1 nd1 st1 walks_str⟩
  | dct ks zs =>
    simp only [itemsD, Option.some.injEq] at h3
    subst h3
    refine (pi_keys hf).run pins s σ H R I ⟨env, f, _, _, rel, nd, h1, fun v H1 f1 g rel1 r1 nd1 st1 => ?_⟩
    obtain ⟨rfl, r1⟩ := r1
    simp only [RepD] at r1
    obtain ⟨b, o, kws, rfl, hz, hk, _⟩ := r1
    exact ⟨b, o, rfl, .inl ⟨kws, hz, q _ H1 f1 rel1 nd1 st1 (walks_keys hz hk)⟩⟩
  | _ => simp [itemsD] at h3
theorem rng_of {ws : List Va} {xs : List D} (h : rngS ws = some xs) : (∃ j : Int, ws = [.d (.int j)] ∧ (-(2 ^ 62) ≤ j ∧ j < 2 ^ 62) ∧ xs = rangeL 0 j.toNat) ∨
    ∃ i j : Int, ws = [.d (.int i), .d (.int j)] ∧ (-(2 ^ 62) ≤ i ∧ i < 2 ^ 62 ∧ -(2 ^ 62) ≤ j ∧ j < 2 ^ 62) ∧ xs = rangeL i (j - i).toNat := by
  unfold rngS at h
  split at h
  · split at h
    · rename_i j hj
      cases h
      exact .inl ⟨j, rfl, hj, rfl⟩
    · cases h
  · split at h
    · rename_i i j hj
      cases h
      exact .inr ⟨i, j, rfl, hj, rfl⟩
    · cases h
  · cases h
theorem evPs_len {Φ : Nat → List Va → Option (Va × List Va)} {Γ : Nat → Option D} {sc : Scope} : ∀ {as : CEs} {xs : List Expr} {env e1 : Env} {ps : List PV}, mEs T N sc as xs = true → evPs Φ Γ as env = some (ps, e1) → ps.length = xs.length
  | .nil, [], _, _, _, _, e => by rw [evPs] at e; cases e; rfl
  | .nil, _ :: _, _, _, _, h, _ => by simp [mEs] at h
  | .cons a as, [], _, _, _, h, _ => by simp [mEs] at h
  | .cons a as, x :: xs, _, _, _, h, e => by
    simp only [mEs, Bool.and_eq_true] at h
    rw [evPs] at e
    obtain ⟨p, e2, h1, h2⟩ := bnd_eq e
    obtain ⟨ps, e3, h3, h4⟩ := bnd_eq h2
    cases h4
    rw [List.length_cons, List.length_cons, evPs_len h.2 h3]
theorem resPs_len : ∀ {ps : List PV} {env : Env} {ws : List Va}, resPs ps env = some ws → ws.length = ps.length
  | [], _, _, h => by simp only [resPs, Option.some.injEq] at h; rw [← h]; rfl
  | p :: ps, env, ws, h => by
    simp only [resPs, Option.bind_eq_some_iff, Option.map_eq_some_iff] at h
    obtain ⟨w, e1, ws', e2, rfl⟩ := h
    rw [List.length_cons, List.length_cons, resPs_len e2]
theorem i_rng {as : CEs} (s : SnL T N k as) : SnI T N k (.rng as) := by
  intro X sc top io tg e C h
  simp only [mI] at h
  split at h
  · rename_i x xs hv
    simp only [Bool.and_eq_true] at h
    obtain ⟨⟨h1, h2⟩, h3⟩ := h
    obtain ⟨p, q, rfl⟩ := vCallN_of hv
    obtain ⟨rfl, m1, m2⟩ := blt_of C h1
    have hpl := mEs_plain h3
    have hA := (s C h3).1
    refine ⟨fun pins s0 σ H R I qq => ?_⟩
    obtain ⟨env, f, ys, env', rel, nd, e, qq⟩ := qq
    rw [evI] at e
    obtain ⟨ps, e1, g1, g2⟩ := bnd_eq e
    simp only [Option.bind_eq_some_iff, Option.map_eq_some_iff] at g2
    obtain ⟨ws, g3, zs, g4, g5⟩ := g2
    cases g5
    have hlen : ws.length = xs.length := by rw [resPs_len g3, evPs_len h3 g1]
    rcases rng_of g4 with ⟨j, rfl, hj, rfl⟩ | ⟨i, j, rfl, hj, rfl⟩
    · match xs, hlen, hpl, hA with
      | [y], _, hpl, hA =>
        refine (pi_range1 m2 m1 hA (plain_star (hpl y (by simp)))).run pins s0 σ H R I ⟨env, f, ps, _, rel, nd, g1, fun v H1 f1 g rel1 r1 nd1 st1 => ?_⟩
        have r2 := r1.res rel1 g3
        cases r2 with
        | cons a b =>
          cases b
          have ea := a.2
          simp only [RepD] at ea
          subst ea
          refine ⟨j, rfl, hj.1, hj.2, qq _ H1 f1 rel1 (nodup_app.mp nd1).2.1 (st1.sub fun z hz => List.mem_append_right _ hz) walks_range⟩
    · match xs, hlen, hpl, hA with
      | [y, z], _, hpl, hA =>
        refine (pi_range2 m2 m1 hA (by rw [plain_star (hpl y (by simp)), plain_star (hpl z (by simp))]; rfl) (plain_star (hpl z (by simp)))).run pins s0 σ H R I ⟨env, f, ps, _, rel, nd, g1, fun v H1 f1 g rel1 r1 nd1 st1 => ?_⟩
        have r2 := r1.res rel1 g3
        cases r2 with
        | cons a b =>
          cases b with
          | cons b c =>
            cases c
            have ea := a.2
            have eb := b.2
            simp only [RepD] at ea eb
            subst ea eb
            refine ⟨i, j, rfl, hj, qq _ H1 f1 rel1 (nodup_app.mp nd1).2.1 (st1.sub fun z hz => List.mem_append_right _ hz) walks_range⟩
  · cases h
theorem zip_walks {K : PySem.W.Frag} {a b : Addr} {xs ys : List Mn.D} {vs ws : List V} {H : Hp} (h1 : SqT K H a vs) (h2 : SqT K H b ws) (r1 : RepDs K H xs vs) (r2 : RepDs K H ys ws) (hl : xs.length = ys.length) : WalksI K (ItzX K a b) (zipD xs ys) H := by
  have zl : ∀ (xs ys : List Mn.D), xs.length = ys.length → (zipD xs ys).length = xs.length := fun xs => by
    induction xs with
    | nil => intro ys _; rfl
    | cons x xs ih =>
      intro ys h
      cases ys with
      | nil => simp at h
      | cons y ys => simp only [zipD, List.length_cons, ih ys (by simpa using h)]
  have zg : ∀ (xs ys : List Mn.D) (i : Nat) (x y : Mn.D), xs[i]? = some x → ys[i]? = some y → (zipD xs ys)[i]? = some (.tup [x, y]) := fun xs => by
    induction xs with
    | nil => intro ys i x y h; simp at h
    | cons x xs ih =>
      intro ys i x' y' e1 e2
      cases ys with
      | nil => simp at e2
      | cons y ys =>
        cases i with
        | zero =>
          simp only [List.getElem?_cons_zero, Option.some.injEq] at e1 e2
          subst e1 e2
          rfl
        | succ i =>
          rw [List.getElem?_cons_succ] at e1 e2
          simp only [zipD, List.getElem?_cons_succ]
          exact ih ys i x' y' e1 e2
  intro H2 e
  have q1 := e.rdt h1
  have q2 := e.rdt h2
  have l1 := r1.len
  have l2 := r2.len
  rw [zl xs ys hl]
  refine ⟨fun i hi => ⟨⟨vs, ws, vs[i]'(by omega), ws[i]'(by omega), q1, q2, List.getElem?_eq_getElem (by omega), List.getElem?_eq_getElem (by omega)⟩, fun v H' y => ?_⟩, fun i hi => ⟨vs, ws, q1, q2, .inl (by omega)⟩⟩
  obtain ⟨T, x', y', o, rfl, hd, hT, rfl, f1, f2⟩ := y
  have hx : xs[i]? = some xs[i] := List.getElem?_eq_getElem hi
  have hy : ys[i]? = some (ys[i]'(by omega)) := List.getElem?_eq_getElem (by omega)
  obtain ⟨v1, e1, e2⟩ := r1.get hx
  obtain ⟨v2, e3, e4⟩ := r2.get hy
  have g1 := f1 vs q1
  have g2 := f2 ws q2
  rw [e1] at g1
  rw [e3] at g2
  cases g1
  cases g2
  refine ⟨_, zg xs ys i _ _ hx hy, ?_, New.pure hT⟩
  simp only [RepD]
  refine ⟨T, [x', y'], rfl, mkT hd, ?_⟩
  exact .cons ((e2.ext e).ext (New.pure hT).ext) (.cons ((e4.ext e).ext (New.pure hT).ext) RepDs.nil)
theorem i_zip {as : CEs} (s : SnL T N k as) : SnI T N k (.zip as) := by
  intro X sc top io tg e C h
  cases tg with
  | Tuple elts kk tpos =>
    simp only [mI] at h
    split at h
    · rename_i x u v hv
      simp only [Bool.and_eq_true] at h
      obtain ⟨h1, h3⟩ := h
      obtain ⟨p, q, rfl⟩ := vCallN_of hv
      obtain ⟨rfl, m1, m2⟩ := blt_of C h1
      have hpl := mEs_plain h3
      have hA := (s C h3).1
      refine ⟨fun pins s0 σ H R I qq => ?_⟩
      obtain ⟨env, f, ys, env', rel, nd, e, qq⟩ := qq
      rw [evI] at e
      obtain ⟨ps, e1, g1, g2⟩ := bnd_eq e
      simp only [Option.bind_eq_some_iff, Option.map_eq_some_iff] at g2
      obtain ⟨ws, g3, zs, g4, g5⟩ := g2
      cases g5
      unfold zipT at g4
      split at g4
      · rename_i xs ys
        split at g4
        · rename_i hl
          cases g4
          refine (pi_zipX m2 m1 hA (plain_star (hpl u (by simp))) (back_any fun z hz => hpl z (by simp at hz; simp [hz]))).run pins s0 σ H R I ⟨env, f, ps, _, rel, nd, g1, fun v H1 f1 g rel1 r1 nd1 st1 => ?_⟩
          have r2 := r1.res rel1 g3
          obtain ⟨va, vb, ga, gb, rfl, ra, rb⟩ := r2.two
          obtain ⟨a, vs, rfl, t1, d1⟩ := rep_tup ra
          obtain ⟨b, us, rfl, t2, d2⟩ := rep_tup rb
          exact ⟨a, b, vs, us, rfl, t1.sq, t2.sq, qq _ H1 f1 rel1 (nodup_app.mp nd1).2.1 (st1.sub fun z hz => List.mem_append_right _ hz) (zip_walks t1.sq t2.sq d1 d2 hl)⟩
        · cases g4
      · cases g4
    · cases h
  | _ => simp [mI] at h
theorem zipD_len : ∀ {xs ys : List Mn.D}, xs.length = ys.length → (zipD xs ys).length = xs.length
  | [], _, _ => rfl
  | x :: xs, [], h => by simp at h
  | x :: xs, y :: ys, h => by simp only [zipD, List.length_cons, zipD_len (show xs.length = ys.length by simpa using h)]
/-- the pairs of a list(zip(..)) -/
theorem zip_rep {K : PySem.W.Frag} {H H' : Hp} (he : Ext H H') : ∀ {xs ys : List Mn.D} {vs ws : List V} {ts : List Addr}, RepDs K H xs vs → RepDs K H ys ws → xs.length = ys.length → ts.length = vs.length →
    (∀ (j : Nat) (t : Addr) (x y : V), ts[j]? = some t → vs[j]? = some x → ws[j]? = some y → ∃ o : Obj, o.dict = none ∧ H' t = some (.frz o (.tup [x, y]))) → RepDs K H' (zipD xs ys) (ts.map V.ref)
  | [], ys, vs, ws, ts, r1, _, _, ht, _ => by
    simp only [RepDs] at r1
    subst r1
    have : ts = [] := List.length_eq_zero_iff.mp (by simpa using ht)
    subst this
    exact RepDs.nil
  | x :: xs, [], _, _, _, _, _, hl, _, _ => by simp at hl
  | x :: xs, y :: ys, vs, ws, ts, r1, r2, hl, ht, hf => by
    simp only [RepDs] at r1 r2
    obtain ⟨v, vs', rfl, a1, a2⟩ := r1
    obtain ⟨w, ws', rfl, b1, b2⟩ := r2
    cases ts with
    | nil => simp at ht
    | cons t ts =>
      obtain ⟨o, hd, hT⟩ := hf 0 t v w rfl rfl rfl
      refine .cons ?_ (zip_rep he a2 b2 (by simpa using hl) (by simpa using ht) fun j t x y e1 e2 e3 => hf (j + 1) t x y (by simpa using e1) (by simpa using e2) (by simpa using e3))
      simp only [RepD]
      exact ⟨t, [v, w], rfl, .inl ⟨o, hT, hd⟩, .cons (a1.ext he) (.cons (b1.ext he) RepDs.nil)⟩
theorem RepDs.reverse {K : PySem.W.Frag} {H : Hp} : ∀ {xs : List Mn.D} {vs : List V}, RepDs K H xs vs → RepDs K H xs.reverse vs.reverse
  | [], vs, h => by
    simp only [RepDs] at h
    subst h
    exact RepDs.nil
  | x :: xs, vs, h => by
    simp only [RepDs] at h
    obtain ⟨v, r, rfl, h1, h2⟩ := h
    rw [List.reverse_cons, List.reverse_cons]
    exact (RepDs.reverse h2).append (.cons h1 .nil)
theorem c_lzip {as : CEs} (s : SnL T N k as) : Sn T N k (.lzip as) := by
  intro X sc top io e C h
  simp only [mE] at h
  split at h
  · rename_i x y hv
    simp only [Bool.and_eq_true] at h
    obtain ⟨h1, h⟩ := h
    split at h
    · rename_i x2 u v hv2
      simp only [Bool.and_eq_true] at h
      obtain ⟨h2, h3⟩ := h
      obtain ⟨p, q, rfl⟩ := vCallN_of hv
      obtain ⟨p2, q2, rfl⟩ := vCallN_of hv2
      obtain ⟨rfl, m1, m2⟩ := blt_of C h1
      obtain ⟨rfl, m3, m4⟩ := blt_of C h2
      have hpl := mEs_plain h3
      have hst : starEach [u, v] X.env = (false, eval u X.env) :: starEach [v] X.env := plain_star (hpl u List.mem_cons_self)
      have hba : (backTo q2 (starEach [v] X.env)).any (·.1) = false := back_any fun z hz => hpl z (List.mem_cons_of_mem _ hz)
      have z : PE X (.Call (.Name "list" p) [.Call (.Name "zip" p2) [u, v] [] q2] [] q) (tG X.K (RV_ X.K) (evE (call T k) T.con (.lzip as))) := PE.imp (pe_lzip C.calm m2 m1 m4 m3 (s C h3).1 hst hba) fun σ H Q q => by
        obtain ⟨env, f, w, env', rel, nd, e, q⟩ := q
        rw [evE] at e
        obtain ⟨ps, e1, h1, h2⟩ := bnd_eq e
        simp only [Option.bind_eq_some_iff, Option.map_eq_some_iff] at h2
        obtain ⟨xs, hx, u, hu, h3⟩ := h2
        cases h3
        refine ⟨env, f, ps, _, rel, nd, h1, fun vs H1 f1 g1 rel1 r1 nd1 st1 => ?_⟩
        have rr := r1.res rel1 hx
        have fin : ∀ {a b : Addr} {xs ys : List Mn.D} {us ws : List V}, vs = [.ref a, .ref b] → ((SqL X.K H1 a us ∧ SqL X.K H1 b ws) ∨ (SqT X.K H1 a us ∧ SqT X.K H1 b ws)) → RepDs X.K H1 xs us → RepDs X.K H1 ys ws → xs.length = ys.length → w = .ls (zipD xs ys) →
            ∃ (a b : Addr) (xs ys : List V), vs = [.ref a, .ref b] ∧ ((SqL X.K H1 a xs ∧ SqL X.K H1 b ys) ∨ (SqT X.K H1 a xs ∧ SqT X.K H1 b ys)) ∧ xs.length = ys.length ∧
              ∀ (D : Addr) (ts : List Addr) (H' : Hp), H1 D = none → (∀ c o, H1 c = some o → H' c = some o) → H' D = some (.lst (ts.map V.ref)) → ts.length = xs.length →
                (∀ (j : Nat) (t : Addr) (x y : V), ts[j]? = some t → xs[j]? = some x → ys[j]? = some y → ∃ o, o.dict = none ∧ H' t = some (.frz o (.tup [x, y]))) → Q (.ref D) H' := fun {a b xs ys us ws} ev hq d1 d2 hl hw => by
          subst hw
          refine ⟨a, b, us, ws, ev, hq, by rw [d1.len, d2.len]; exact hl, fun D ts H' hD hk hDl ht hf => ?_⟩
          have nw : New H1 H' [D] := ⟨hk, fun c hc => by rw [List.mem_singleton.mp hc]; exact hD, by simp⟩
          exact fin_op nd1 st1 rel1 q _ _ [D] ⟨D, _, rfl, rfl, hDl, zip_rep nw.ext d1 d2 hl ht hf⟩ nw
        unfold zipN at hu
        split at hu
        · rename_i xs ys
          split at hu
          · rename_i hl
            cases hu
            obtain ⟨va, vb, ga, gb, ev, ra, rb⟩ := rr.two
            obtain ⟨a, us, rfl, t1, d1⟩ := rep_tup ra
            obtain ⟨b, ws, rfl, t2, d2⟩ := rep_tup rb
            exact fin ev (.inr ⟨t1.sq, t2.sq⟩) d1 d2 hl rfl
          · cases hu
        · rename_i x y _
          simp only [Option.bind_eq_some_iff] at hu
          obtain ⟨xs, ex, ys, ey, hu⟩ := hu
          split at hu
          · rename_i hl
            cases hu
            obtain ⟨va, vb, ga, gb, ev, ra, rb⟩ := rr.two
            obtain ⟨a, us, rfl, t1, d1⟩ := rep_asLl ex ra
            obtain ⟨b, ws, rfl, t2, d2⟩ := rep_asLl ey rb
            exact fin ev (.inl ⟨t1, t2⟩) d1 d2 hl rfl
          · cases hu
        · cases hu
      exact ⟨z, fun _ => pt_plain z rfl⟩
    · cases h
  · cases h
theorem c_rev {a : CE} (sa : Sn T N k a) : Sn T N k (.rev a) := by
  intro X sc top io e C h
  simp only [mE] at h
  split at h
  · rename_i x s hv
    simp only [Bool.and_eq_true] at h
    obtain ⟨p, rfl⟩ := vSub_of hv
    obtain ⟨n, p1, p2, p3, rfl⟩ := revB_of h.1
    have z : PE X (.Subscript x (.Slice none none (some (.UnaryOp .USub (.Constant (.int 1) n p1) p2)) p3) p) (tG X.K (RV_ X.K) (evE (call T k) T.con (.rev a))) := by
      refine ⟨fun pins s σ H Q I q => ?_⟩
      obtain ⟨env, f, w, env', rel, nd, e, q⟩ := q
      rw [evE] at e
      obtain ⟨pv, e1, h1, h2⟩ := bnd_eq e
      simp only [Option.bind_eq_some_iff, Option.map_eq_some_iff] at h2
      obtain ⟨xv, hx, u, hu, h3⟩ := h2
      cases h3
      have lists : ∀ xs : List Mn.D, ((xv = .ls xs) ∨ xv = .d (.lst xs)) → w = .ls xs.reverse → wpAny (model X.prog X.w) X.A (eval (.Subscript x (.Slice none none (some (.UnaryOp .USub (.Constant (.int 1) n p1) p2)) p3) p) X.env) (EP X pins σ Q) X.xe s := fun xs hxs hw => by
        refine (pe_revL (op_of C h.2 sa)).run pins s σ H Q I ⟨env, f, pv, _, rel, nd, h1, fun v H1 f1 g1 rel1 r1 nd1 st1 => ?_⟩
        obtain ⟨ga, hga⟩ := r1.res rel1 hx
        obtain ⟨b, vs, rfl, sq, rd⟩ : ∃ b vs, v = .ref b ∧ SqL X.K H1 b vs ∧ RepDs X.K H1 xs vs := by
          rcases hxs with rfl | rfl
          · obtain ⟨b, vs, h1, h2, h3, h4⟩ := hga
            exact ⟨b, vs, h1, SqL.of h3, h4⟩
          · obtain ⟨b, vs, h1, h2, h3⟩ := rep_lst hga
            exact ⟨b, vs, h1, h2.sq, h3⟩
        subst hw
        exact ⟨b, vs, rfl, sq, fun pa hp => fin_op nd1 st1 rel1 q _ _ [pa] ⟨pa, _, rfl, rfl, upd_same, (RepDs.reverse rd).ext (New.one hp).ext⟩ (New.one hp)⟩
      unfold revS at hu
      split at hu
      · rename_i xs
        cases hu
        refine (pe_revT (op_of C h.2 sa)).run pins s σ H Q I ⟨env, f, pv, _, rel, nd, h1, fun v H1 f1 g1 rel1 r1 nd1 st1 => ?_⟩
        obtain ⟨ga, hga⟩ := r1.res rel1 hx
        obtain ⟨b, vs, rfl, t1, rd⟩ := rep_tup hga
        exact ⟨b, vs, rfl, t1.sq, fun pa o hp hd => fin_op nd1 st1 rel1 q _ _ [] (mk_tup (mkT hd) ((RepDs.reverse rd).ext (New.pure hp).ext)) (New.pure hp)⟩
      · rename_i t
        split at hu
        · rename_i hz
          cases hu
          refine (pe_revS (op_of C h.2 sa)).run pins s σ H Q I ⟨env, f, pv, _, rel, nd, h1, fun v H1 f1 g1 rel1 r1 nd1 st1 => ?_⟩
          obtain ⟨ga, hga⟩ := r1.res rel1 hx
          refine ⟨stx t, rep_str hga, by rw [stx_len]; exact hz, fin_op nd1 st1 rel1 q _ _ [] ?_ (New.refl H1)⟩
          rw [stx_tl]
          exact mk_str _
        · cases hu
      · cases hu
        exact lists _ (.inl rfl) rfl
      · cases hu
        exact lists _ (.inr rfl) rfl
      · cases hu
    exact ⟨z, fun _ => pt_plain z rfl⟩
  · cases h
theorem RepDs.drop1 {K : PySem.W.Frag} {H : Hp} {xs : List Mn.D} {vs : List V} (h : RepDs K H xs vs) : RepDs K H (xs.drop 1) (vs.drop 1) := by
  cases xs with
  | nil =>
    simp only [RepDs] at h
    subst h
    exact RepDs.nil
  | cons x xs =>
    simp only [RepDs] at h
    obtain ⟨v, r, rfl, h1, h2⟩ := h
    exact h2
theorem c_rev1 {a : CE} (sa : Sn T N k a) : Sn T N k (.rev1 a) := by
  intro X sc top io e C h
  simp only [mE] at h
  split at h
  · rename_i x s hv
    simp only [Bool.and_eq_true] at h
    obtain ⟨p, rfl⟩ := vSub_of hv
    obtain ⟨n0, p0, n, p1, p2, p3, rfl⟩ := rev1B_of h.1
    have z : PE X (.Subscript x (.Slice none (some (.Constant (.int 0) n0 p0)) (some (.UnaryOp .USub (.Constant (.int 1) n p1) p2)) p3) p) (tG X.K (RV_ X.K) (evE (call T k) T.con (.rev1 a))) := by
      refine ⟨fun pins s σ H Q I q => ?_⟩
      obtain ⟨env, f, w, env', rel, nd, e, q⟩ := q
      rw [evE] at e
      obtain ⟨pv, e1, h1, h2⟩ := bnd_eq e
      simp only [Option.bind_eq_some_iff, Option.map_eq_some_iff] at h2
      obtain ⟨xv, hx, u, hu, h3⟩ := h2
      cases h3
      unfold rev1S at hu
      split at hu
      · rename_i xs
        cases hu
        refine (pe_rev1 (op_of C h.2 sa)).run pins s σ H Q I ⟨env, f, pv, _, rel, nd, h1, fun v H1 f1 g1 rel1 r1 nd1 st1 => ?_⟩
        obtain ⟨ga, hga⟩ := r1.res rel1 hx
        obtain ⟨b, vs, rfl, t1, rd⟩ := rep_tup hga
        have rd1 : RepDs X.K H1 (xs.drop 1) (vs.drop 1) := rd.drop1
        exact ⟨b, vs, rfl, t1.sq, fun pa o hp hd => fin_op nd1 st1 rel1 q _ _ [] (mk_tup (mkT hd) ((RepDs.reverse rd1).ext (New.pure hp).ext)) (New.pure hp)⟩
      · cases hu
    exact ⟨z, fun _ => pt_plain z rfl⟩
  · cases h
theorem c_ssrt {a : CE} (sa : Sn T N k a) : Sn T N k (.ssrt a) := by
  intro X sc top io e C h
  simp only [mE] at h
  split at h
  · rename_i x y hv
    simp only [Bool.and_eq_true] at h
    obtain ⟨h1, h⟩ := h
    split at h
    · rename_i x2 z hv2
      simp only [Bool.and_eq_true] at h
      obtain ⟨⟨h2, hp⟩, h3⟩ := h
      obtain ⟨p, q, rfl⟩ := vCallN_of hv
      obtain ⟨p2, q2, rfl⟩ := vCallN_of hv2
      obtain ⟨rfl, m1, m2⟩ := blt_of C h1
      obtain ⟨rfl, m3, m4⟩ := blt_of C h2
      have z : PE X (.Call (.Name "sorted" p) [.Call (.Name "set" p2) [z] [] q2] [] q) (tG X.K (RV_ X.K) (evE (call T k) T.con (.ssrt a))) := PE.imp (pe_sortedSet C.calm m2 m1 m4 m3 (op_of C h3 sa) (plain_star hp)) fun σ H Q q => by
        obtain ⟨env, f, w, env', rel, nd, e, q⟩ := q
        rw [evE] at e
        obtain ⟨pv, e1, h1, h2⟩ := bnd_eq e
        simp only [Option.bind_eq_some_iff, Option.map_eq_some_iff] at h2
        obtain ⟨xv, hx, u, hu, h3⟩ := h2
        cases h3
        unfold ssrtS at hu
        simp only [Option.bind_eq_some_iff] at hu
        obtain ⟨xs, e2, ss, es, hf⟩ := hu
        split at hf
        · rename_i hz
          cases hf
          refine ⟨env, f, pv, _, rel, nd, h1, fun v H1 f1 g1 rel1 r1 nd1 st1 => ?_⟩
          obtain ⟨ga, hga⟩ := r1.res rel1 hx
          obtain ⟨b, vs, rfl, t1, rd⟩ := rep_asLl e2 hga
          have e3 := strs_rep es rd
          subst e3
          refine ⟨b, ss.map stx, rfl, t1, by simpa using hz.1, by rw [cnt_uniq]; exact hz.2, fun ys d sy hnd hm hd => ?_⟩
          have e6 := sorted_uniq (uniq_perm hnd hm) sy
          subst e6
          exact fin_op nd1 st1 rel1 q _ _ [d] ⟨d, _, rfl, rfl, upd_same, (rep_strs _).ext (New.one hd).ext⟩ (New.one hd)
        · cases hf
      exact ⟨z, fun _ => pt_plain z rfl⟩
    · cases h
  · cases h
theorem c_slen {a : CE} (sa : Sn T N k a) : Sn T N k (.slen a) := by
  intro X sc top io e C h
  simp only [mE] at h
  split at h
  · rename_i x y hv
    simp only [Bool.and_eq_true] at h
    obtain ⟨h1, h⟩ := h
    split at h
    · rename_i x2 z hv2
      simp only [Bool.and_eq_true] at h
      obtain ⟨⟨h2, hp⟩, h3⟩ := h
      obtain ⟨p, q, rfl⟩ := vCallN_of hv
      obtain ⟨p2, q2, rfl⟩ := vCallN_of hv2
      obtain ⟨rfl, m1, m2⟩ := blt_of C h1
      obtain ⟨rfl, m3, m4⟩ := blt_of C h2
      have z : PE X (.Call (.Name "len" p) [.Call (.Name "set" p2) [z] [] q2] [] q) (tG X.K (RV_ X.K) (evE (call T k) T.con (.slen a))) := PE.imp (pe_lenSetX C.calm m2 m1 m4 m3 (op_of C h3 sa) (plain_star hp)) fun σ H Q q => by
        obtain ⟨env, f, w, env', rel, nd, e, q⟩ := q
        rw [evE] at e
        obtain ⟨pv, e1, h1, h2⟩ := bnd_eq e
        simp only [Option.bind_eq_some_iff, Option.map_eq_some_iff] at h2
        obtain ⟨xv, hx, u, hu, h3⟩ := h2
        cases h3
        unfold slenS at hu
        simp only [Option.bind_eq_some_iff] at hu
        obtain ⟨xs, e2, ss, es, hf⟩ := hu
        split at hf
        · rename_i hz
          cases hf
          refine ⟨env, f, pv, _, rel, nd, h1, fun v H1 f1 g1 rel1 r1 nd1 st1 => ?_⟩
          obtain ⟨ga, hga⟩ := r1.res rel1 hx
          obtain ⟨b, vs, rfl, t1, rd⟩ := rep_asLl e2 hga
          have e3 := strs_rep es rd
          subst e3
          refine ⟨b, ss.map stx, rfl, t1, by simpa using hz, fin_op nd1 st1 rel1 q _ _ [] ?_ (New.refl H1)⟩
          rw [cnt_uniq]
          exact mk_int _
        · cases hf
      exact ⟨z, fun _ => pt_plain z rfl⟩
    · cases h
  · cases h
theorem tG_orv {K : PySem.W.Frag} {r1 r2 : Env → Option (Va × Env)} {σ : L2.St} {H : Hp} {Q : VK}
    (h : tG K (RV_ K) (fun env => bnd (r1 env) (orvS r2)) σ H Q) : tG K (RV_ K) r1 σ H fun x H1 => ∃ k, TruV K x H1 k ∧ if k = true then Q x H1 else tG K (RV_ K) r2 σ H1 Q := by
  obtain ⟨env, f, w', env', rel, nd, e, q⟩ := h
  obtain ⟨w2, e1, h1, h2⟩ := bnd_eq e
  refine ⟨env, f, _, e1, rel, nd, h1, fun v H' f' g rel' r nd' st => ?_⟩
  unfold orvS at h2
  split at h2
  · obtain ⟨b, vs, rfl, t1, rd⟩ := rep_tup r
    have ev : vs = [] := by simpa [RepDs] using rd
    subst ev
    have eg : g = [] := r.1
    subst eg
    refine ⟨false, .inr (.inl ⟨[], t1.sq, rfl⟩), ?_⟩
    rw [if_neg (by decide)]
    exact ⟨e1, f', w', env', rel', nd', h2, fun v2 H2 f2 g2 a2 r2 n2 s2 => q v2 H2 f2 g2 a2 r2 n2 (Stp.trans st s2)⟩
  · rename_i x r'
    cases h2
    obtain ⟨b, vs, rfl, t1, rd⟩ := rep_tup r
    refine ⟨true, .inr (.inl ⟨vs, t1.sq, ?_⟩), ?_⟩
    · simp only [RepDs] at rd
      obtain ⟨v, r0, rfl, _⟩ := rd
      rfl
    rw [if_pos rfl]
    exact q _ H' f' g rel' r nd' st
  · cases h2
theorem c_orv {a b : CE} (sa : Sn T N k a) (sb : Sn T N k b) : Sn T N k (.orv a b) := by
  intro X sc top io e C h
  simp only [mE] at h
  split at h
  · rename_i x y hv
    simp only [Bool.and_eq_true] at h
    obtain ⟨p, rfl⟩ := vBool_of hv
    refine ⟨PE.imp (pe_orT (sa C h.1).1 (pe_one (sb C h.2).1)) fun σ H Q q => tG_orv (tG_eq (fun env => by rw [evE] <;> rfl) q), fun ht => ?_⟩
    simp [tst, plainT] at ht
  · cases h
theorem case_core {X : Cx} {sc : Scope} {top : Bool} {io : List Nat} {o : Expr} {a c : CE} {nm : Str} {p q : Pos} {f : Nat → Nat} {te : TE} (C : Ctx T N k X sc top io) (ha : mE T N sc a o = true) (sa : Sn T N k a) (hev : ∀ env, evE (call T k) T.con c env = un1 (caseS f) (opnd a (evE (call T k) T.con a)) env)
    (hp : PE X (.Call (.Attribute o nm p) [] [] q) te)
    (ht : ∀ σ H (Q : VK), tG X.K (RP_ X.K) (opnd a (evE (call T k) T.con a)) σ H (fun x H1 => ∃ s : List Nat, x = .str (stx s) ∧ s.length ≤ 5592405 ∧ s.all (· < 128) = true ∧ Q (.str (stx (s.map f))) H1) → te σ H Q) :
    PE X (.Call (.Attribute o nm p) [] [] q) (tG X.K (RV_ X.K) (evE (call T k) T.con c)) := PE.imp hp fun σ H Q qq => ht σ H Q (by
  obtain ⟨env, f', w, env', rel, nd, e, qq⟩ := qq
  rw [hev] at e
  obtain ⟨pv, e1, h1, h2⟩ := bnd_eq e
  simp only [Option.bind_eq_some_iff, Option.map_eq_some_iff] at h2
  obtain ⟨xv, hx, u, hu, h3⟩ := h2
  cases h3
  unfold caseS at hu
  split at hu
  · rename_i t
    split at hu
    · rename_i hz
      cases hu
      refine ⟨env, f', pv, _, rel, nd, h1, fun v H1 f1 g1 rel1 r1 nd1 st1 => ?_⟩
      obtain ⟨ga, hga⟩ := r1.res rel1 hx
      exact ⟨t, rep_str hga, hz.1, hz.2, fin_op nd1 st1 rel1 qq _ _ [] (mk_str _) (New.refl H1)⟩
    · cases hu
  · cases hu)
theorem c_up {a : CE} (sa : Sn T N k a) : Sn T N k (.up a) := by
  intro X sc top io e C h
  simp only [mE] at h
  split at h
  · rename_i o nm hv
    simp only [Bool.and_eq_true, decide_eq_true_eq] at h
    obtain ⟨⟨rfl, h1⟩, ha⟩ := h
    obtain ⟨p, q, rfl, hline⟩ := vCallA_of hv
    have z := case_core (c := .up a) (f := upC) C ha sa (fun env => by rw [evE]) (pe_bm0 (apos := p) (cpos := q) PySem.F.plainAttrs_str PySem.F.slot_str_upper PySem.F.type_str_upper mt_upper (op_of C ha sa) (plain_attr h1 _ _) hline) fun σ H Q qq => by
      obtain ⟨env, f', w, env', rel, nd, e, qq⟩ := qq
      refine ⟨env, f', w, env', rel, nd, e, fun v H1 f1 g1 rel1 r1 nd1 st1 => ?_⟩
      obtain ⟨s, rfl, h3, h4, h5⟩ := qq v H1 f1 g1 rel1 r1 nd1 st1
      refine ⟨rfl, stx s, rfl, rfl, by rw [stx_len]; exact h3, ?_⟩
      have e2 : Txt.upper (stx s) = stx (s.map upC) := SX.upper_S (a := s) h4
      rw [e2]
      exact h5
    exact ⟨z, fun _ => pt_plain z rfl⟩
  · cases h
theorem c_lo {a : CE} (sa : Sn T N k a) : Sn T N k (.lo a) := by
  intro X sc top io e C h
  simp only [mE] at h
  split at h
  · rename_i o nm hv
    simp only [Bool.and_eq_true, decide_eq_true_eq] at h
    obtain ⟨⟨rfl, h1⟩, ha⟩ := h
    obtain ⟨p, q, rfl, hline⟩ := vCallA_of hv
    have z := case_core (c := .lo a) (f := loC) C ha sa (fun env => by rw [evE]) (pe_bm0 (apos := p) (cpos := q) PySem.F.plainAttrs_str PySem.F.slot_str_lower PySem.F.type_str_lower mt_lower (op_of C ha sa) (plain_attr h1 _ _) hline) fun σ H Q qq => by
      obtain ⟨env, f', w, env', rel, nd, e, qq⟩ := qq
      refine ⟨env, f', w, env', rel, nd, e, fun v H1 f1 g1 rel1 r1 nd1 st1 => ?_⟩
      obtain ⟨s, rfl, h3, h4, h5⟩ := qq v H1 f1 g1 rel1 r1 nd1 st1
      refine ⟨rfl, stx s, rfl, rfl, by rw [stx_len]; exact h3, ?_⟩
      have e2 : Txt.lower (stx s) = stx (s.map loC) := SX.lower_S (a := s) h4
      rw [e2]
      exact h5
    exact ⟨z, fun _ => pt_plain z rfl⟩
  · cases h
/-! ### a written dict -/
def SnAll (T : Tab) (N : List Str) (k : Nat) : CEs → Prop
  | .nil => True
  | .cons a r => Sn T N k a ∧ SnAll T N k r
def dTrs (K : PySem.W.Frag) (Φ : Nat → List Va → Option (Va × List Va)) (Γ : Nat → Option Mn.D) : List (List Nat) → CEs → List (TE × TE)
  | k :: ks, .cons a r => (tC (.str (stx k)), tG K (RD_ K) (fopn a (evE Φ Γ a))) :: dTrs K Φ Γ ks r
  | _, _ => []
theorem pps_of {X : Cx} {sc : Scope} {top : Bool} {io : List Nat} {pos : Pos} (C : Ctx T N k X sc top io) : ∀ {ks : List (List Nat)} {as : CEs} {kx : List (Option Expr)} {vs : List Expr}, SnAll T N k as → keysB ks kx = true → kx.length = vs.length → mEs T N sc as vs = true →
    PPs X pos kx vs (dTrs X.K (call T k) T.con ks as) ∧ kx.all (·.isSome) = true
  | [], as, [], [], _, _, _, _ => ⟨by cases as <;> exact pps_nil, rfl⟩
  | [], _, _ :: _, _, _, h, _, _ => by simp [keysB] at h
  | _ :: _, _, [], _, _, h, _, _ => by simp [keysB] at h
  | [], _, [], _ :: _, _, _, h, _ => by simp at h
  | _ :: _, _, _ :: _, [], _, _, h, _ => by simp at h
  | _ :: _, .nil, _ :: _, _ :: _, _, _, _, h => by simp [mEs] at h
  | q :: ks, .cons a as, none :: kx, v :: vs, _, h, _, _ => by simp [keysB] at h
  | q :: ks, .cons a as, some e :: kx, v :: vs, hs, hk, hl, hm => by
    simp only [keysB, Bool.and_eq_true] at hk
    simp only [mEs, Bool.and_eq_true] at hm
    obtain ⟨hk1, hk2⟩ := hk
    split at hk1
    · rename_i z hz
      simp only [decide_eq_true_eq] at hk1
      subst hk1
      obtain ⟨n, p, rfl⟩ := vConst_of hz
      obtain ⟨r1, r2⟩ := pps_of (pos := pos) C hs.2 hk2 (by simpa using hl) hm.2
      exact ⟨pps_cons pe_str (fz_of C hm.1.2 hs.1) r1, by simpa using r2⟩
    · cases hk1
def csLen : CEs → Nat
  | .nil => 0
  | .cons _ r => csLen r + 1
theorem mEs_len {sc : Scope} : ∀ {as : CEs} {xs : List Expr}, mEs T N sc as xs = true → csLen as = xs.length
  | .nil, [], _ => rfl
  | .nil, _ :: _, h => by simp [mEs] at h
  | .cons a as, [], h => by simp [mEs] at h
  | .cons a as, x :: xs, h => by
    simp only [mEs, Bool.and_eq_true] at h
    simp only [csLen, List.length_cons, mEs_len h.2]
theorem keysB_len : ∀ {ks : List (List Nat)} {kx : List (Option Expr)}, keysB ks kx = true → ks.length = kx.length
  | [], [], _ => rfl
  | [], _ :: _, h => by simp [keysB] at h
  | _ :: _, [], h => by simp [keysB] at h
  | _ :: _, none :: _, h => by simp [keysB] at h
  | _ :: ks, some _ :: kx, h => by
    simp only [keysB, Bool.and_eq_true] at h
    simp only [List.length_cons, keysB_len h.2]
theorem tG_pairs {K : PySem.W.Frag} {Φ : Nat → List Va → Option (Va × List Va)} {Γ : Nat → Option Mn.D} : ∀ {ks : List (List Nat)} {as : CEs} {σ : L2.St} {H : Hp} {R : List (V × V) → Hp → Prop},
    csLen as = ks.length → tG K (RDs_ K) (evFs Φ Γ as) σ H (fun vs H2 => R ((ks.zip vs).map fun p => (V.str (stx p.1), p.2)) H2) → tPairs (dTrs K Φ Γ ks as) σ H R
  | [], .nil, σ, H, R, hl, h => by
    have := tG_nil (K := K) (R := RDs_ K) (r := evFs Φ Γ .nil) (x := []) (y := []) (fun env => by rw [evFs]) ⟨rfl, RepDs.nil⟩ h
    exact this
  | [], .cons a as, σ, H, R, hl, h => by simp [csLen] at hl
  | q :: ks, .nil, σ, H, R, hl, h => by simp [csLen] at hl
  | q :: ks, .cons a as, σ, H, R, hl, h => by
    have h2 := tG_consD (ra := fopn a (evE Φ Γ a)) (rs := evFs Φ Γ as) (tG_eq (fun env => by rw [evFs]) h)
    obtain ⟨env, f, d, env', rel, nd, e, qq⟩ := h2
    exact ⟨env, f, d, env', rel, nd, e, fun v H1 f1 g r1 r2 r3 r4 => tG_pairs (by simpa [csLen] using hl) (qq v H1 f1 g r1 r2 r3 r4)⟩
theorem merge_rep {K : PySem.W.Frag} {H : Hp} : ∀ {ks : List (List Nat)} {xs : List Mn.D} {vs : List V} {kvs : List (List Nat × Mn.D)} {kws : List (Key × V)}, RepDs K H xs vs → kws.map (·.1) = kvs.map (fun p => (Sum.inr (stx p.1) : Key)) → RepDs K H (kvs.map (·.2)) (kws.map (·.2)) →
    (mergeK kws ((ks.zip vs).map fun p => ((Sum.inr (stx p.1) : Key), p.2))).map (·.1) = (intoKeys kvs (ks.zip xs)).map (fun p => (Sum.inr (stx p.1) : Key)) ∧
      RepDs K H ((intoKeys kvs (ks.zip xs)).map (·.2)) ((mergeK kws ((ks.zip vs).map fun p => ((Sum.inr (stx p.1) : Key), p.2))).map (·.2))
  | [], xs, vs, kvs, kws, _, hk, hr => by simp only [List.zip_nil_left, List.map_nil, intoKeys, mergeK, List.foldl_nil]; exact ⟨hk, hr⟩
  | k :: ks, [], vs, kvs, kws, h, hk, hr => by
    simp only [RepDs] at h
    subst h
    simp only [List.zip_nil_right, List.map_nil, intoKeys, mergeK, List.foldl_nil]
    exact ⟨hk, hr⟩
  | k :: ks, x :: xs, vs, kvs, kws, h, hk, hr => by
    simp only [RepDs] at h
    obtain ⟨v, r, rfl, h1, h2⟩ := h
    obtain ⟨p1, p2⟩ := put_rep k hk hr h1
    simp only [List.zip_cons_cons, List.map_cons, intoKeys, mergeK, List.foldl_cons]
    exact merge_rep h2 p1 p2
theorem c_dlit {ks : List (List Nat)} {as : CEs} (sa : SnAll T N k as) : Sn T N k (.dlit ks as) := by
  intro X sc top io e C h
  simp only [mE] at h
  split at h
  · rename_i kx vs hv
    simp only [Bool.and_eq_true, Bool.not_eq_true', decide_eq_true_eq] at h
    obtain ⟨⟨⟨⟨h1, h2⟩, h3⟩, h4⟩, h5⟩ := h
    obtain ⟨p, rfl⟩ := vDlit_of hv
    obtain ⟨r1, r2⟩ := pps_of (pos := p) C sa h4 h3 h5
    have hne : kx ≠ [] := fun z => by rw [z] at h1; simp at h1
    have hlen : csLen as = ks.length := by rw [mEs_len h5, keysB_len h4, h3]
    have z : PE X (.Dict kx vs p) (tG X.K (RV_ X.K) (evE (call T k) T.con (.dlit ks as))) := PE.imp (pe_disp r1 r2 h3 hne h2) fun σ H Q q => by
      obtain ⟨env, f, w, env', rel, nd, e, q⟩ := q
      rw [evE] at e
      obtain ⟨xs, e1, g1, g2⟩ := bnd_eq e
      split at g2
      · rename_i hz
        cases g2
        intro pa hp
        have hn := New.one (H := H) (p := pa) (o := .dK []) hp
        have npf : pa ∉ f := fun z => rel.trk pa z hp
        refine tG_pairs hlen ⟨env, f, xs, _, rel.keep (fun a ha => hn.at_ (rel.trk a ha)) hn.ext, nd, g1, fun vs' H2 f2 g rel2 r2 nd2 st2 => ?_⟩
        obtain ⟨rfl, r2⟩ := r2
        have hH2 : H2 pa = some (.dK []) := st2.2.1 pa _ upd_same npf
        have npf2 : pa ∉ f2 := fun z => by
          rcases st2.2.2 pa z with y | y
          · exact npf y
          · rw [upd_same] at y; cases y
        have hF : Fz1 (.dK []) := .inr ⟨_, rfl⟩
        refine ⟨hH2, (ks.zip vs').map fun p => ((Sum.inr (stx p.1) : Key), p.2), by rw [List.map_map]; rfl, ?_, ?_⟩
        · rw [List.length_map, List.length_zip]
          have := hz.2
          omega
        · obtain ⟨m1, m2⟩ := merge_rep (ks := ks) (kvs := []) (kws := []) r2 rfl RepDs.nil
          refine q (.ref pa) _ f2 [pa] (rel2.keep (fun a ha => upd_ne fun z => npf2 (z ▸ ha)) (ext_upd hH2 hF)) ⟨pa, _, rfl, rfl, upd_same, m1, m2.ext (ext_upd hH2 hF)⟩ (List.nodup_cons.mpr ⟨npf2, nd2⟩) ?_
          have s1 : Stp H f (upd H pa (.dK [])) ([pa] ++ f) := (hn.stp (fun a ha => rel.trk a ha) nd).2
          exact (s1.trans (Stp.beside [pa] st2)).trans (stp_upd List.mem_cons_self hH2 hF)
      · cases g2
    exact ⟨z, fun _ => pt_plain z rfl⟩
  · cases h
end
end Mn
/-! MnG5: lists of own lists. -/
namespace Mn
open PySem L2
section
variable {T : Tab} {N : List Str} {k : Nat}
theorem llAt_of {env : Env} {i : Nat} {rows : List (List D)} (h : llAt env i = some rows) : getS env i = some (.ll rows) := by
  unfold llAt at h
  split at h
  · rename_i r hs
    cases h
    exact hs
  · cases h
theorem c_lln : Sn T N k .lln := by
  intro X sc top io e C h
  simp only [mE] at h
  obtain ⟨p1, p2, rfl⟩ := llnB_of h
  have z : PE X (.List [.List [] p1] p2) (tG X.K (RV_ X.K) (evE (call T k) T.con .lln)) := PE.imp (pe_lst (pa_cons (pe_lst pa_nil) pa_nil)) fun σ H Q q => by
    obtain ⟨env, f, w, env', rel, nd, e, q⟩ := q
    rw [evE] at e
    cases e
    refine ⟨by decide, fun pa ha => ⟨show 1 ≤ sizeLine by decide, fun pb hb => ?_⟩⟩
    have hne : pb ≠ pa := fun z => by rw [z, upd_same] at hb; cases hb
    have hb0 : H pb = none := by rw [upd_ne hne] at hb; exact hb
    refine fin_op (g := []) (by simpa using nd) (Stp.refl H f) rel q _ _ [pb, pa] ⟨pb, [pa], rfl, rfl, upd_same, pa, [], [], rfl, ?_, RepDs.nil, rfl⟩ ⟨fun a o ho => ?_, fun a ha' => ?_, ?_⟩
    · rw [upd_ne hne.symm]; exact upd_same
    · rw [upd_ne (fun z => by rw [z, hb0] at ho; cases ho), upd_ne (fun z => by rw [z, ha] at ho; cases ho)]
      exact ho
    · simp only [List.mem_cons, List.not_mem_nil, or_false] at ha'
      rcases ha' with rfl | rfl
      · exact hb0
      · exact ha
    · simp [hne]
  exact ⟨z, fun _ => pt_plain z rfl⟩
theorem nm_of {X : Cx} {sc : Scope} {top : Bool} {io : List Nat} {i : Nat} {o : Expr} (C : Ctx T N k X sc top io) (h : nmB N sc i o = true) : ∃ x p, o = .Name x p ∧ PE X (.Name x p) (tVar i) := by
  unfold nmB at h
  split at h
  · rename_i x hx
    obtain ⟨p, rfl⟩ := vName_of hx
    obtain ⟨y, p3, e1, h1, _⟩ := var_of (T := T) (k := k) (e := .Name x p) C (i := i) (by simp only [mE, vName]; simpa using h)
    cases e1
    exact ⟨x, p, rfl, h1⟩
  · cases h
theorem atI_last {vs : List V} {v : V} : L2.atI (vs ++ [v]) (-1) = some v := by
  unfold L2.atI L2.ixN
  have h1 : ¬ (0 : Int) ≤ -1 := by omega
  simp only [h1, if_false]
  have h2 : -(((vs ++ [v]).length : Nat) : Int) ≤ -1 := by simp; omega
  rw [if_pos h2]
  have h3 : (-1 + (((vs ++ [v]).length : Nat) : Int)).toNat = vs.length := by simp; omega
  simp only [Option.bind_some, h3]
  simp
theorem pe_last {X : Cx} {i : Nat} {o : Expr} {j : Nat} {p1 p2 p3 : Pos} (h1 : PE X o (tVar i)) :
    PE X (.Subscript o (.UnaryOp .USub (.Constant (.int 1) j p1) p2) p3) (fun σ H Q => ∃ a vs v, σ[i]? = some (some (.ref a)) ∧ SqL X.K H a (vs ++ [v]) ∧ Q v H) :=
  PE.imp (pe_ix ix_list h1 (pe_un un_neg pe_int) (plain_ix rfl)) fun σ H Q ⟨a, vs, v, h2, h3, h4⟩ => ⟨.ref a, h2, 1, rfl, a, vs ++ [v], -1, v, rfl, rfl, h3, atI_last, h4⟩
theorem pe_first {X : Cx} {i : Nat} {o : Expr} {j : Nat} {p1 p3 : Pos} (h1 : PE X o (tVar i)) :
    PE X (.Subscript o (.Constant (.int 0) j p1) p3) (fun σ H Q => ∃ a vs v, σ[i]? = some (some (.ref a)) ∧ SqL X.K H a (v :: vs) ∧ Q v H) :=
  PE.imp (pe_ix ix_list h1 pe_int (plain_ix rfl)) fun σ H Q ⟨a, vs, v, h2, h3, h4⟩ => ⟨.ref a, h2, a, v :: vs, 0, v, rfl, rfl, h3, by
    unfold L2.atI L2.ixN
    simp, h4⟩
/-- what stands in a list of lists -/
theorem ll_out {K : PySem.W.Frag} {H : Hp} {env : Env} {σ : L2.St} {f : List Addr} {i : Nat} {rows : List (List D)} (rel : RelE K H env σ f) (nd : f.Nodup) (hs : getS env i = some (.ll rows)) :
    ∃ a as h', σ[i]? = some (some (.ref a)) ∧ H a = some (.lst (as.map V.ref)) ∧ RepLs K H rows as ∧ RelE K H (env.set i none) σ h' ∧ f.Perm ((a :: as) ++ h') ∧ ((a :: as) ++ h').Nodup := by
  obtain ⟨v, g, h', k1, k2, k3, k4⟩ := rel.out hs
  obtain ⟨a, as, rfl, rfl, hH, r⟩ := k2
  exact ⟨a, as, h', k1, hH, r, k3, k4, k4.nodup_iff.mp nd⟩
theorem c_lasE (i : Nat) : Sn T N k (.lasE i) := by
  intro X sc top io e C h
  simp only [mE] at h
  split at h
  · rename_i x y hv
    simp only [Bool.and_eq_true] at h
    obtain ⟨hy, h⟩ := h
    split at h
    · rename_i o ho
      obtain ⟨q, rfl⟩ := vCmp1_of hv
      obtain ⟨p4, rfl⟩ := lnB_of hy
      obtain ⟨j, p1, p2, p3, rfl⟩ := vLast_of ho
      obtain ⟨x, p, rfl, h1⟩ := nm_of C h
      have fw : ∀ σ H (Q : VK), tG X.K (RV_ X.K) (evE (call T k) T.con (.lasE i)) σ H Q → tOp (rS2 X.K (cmpS .Eq)) (fun σ H Q => ∃ a vs v, σ[i]? = some (some (.ref a)) ∧ SqL X.K H a (vs ++ [v]) ∧ Q v H) (tLst tNil) σ H Q := fun σ H Q q => by
        obtain ⟨env, f, w, env', rel, nd, e, q⟩ := q
        rw [evE] at e
        unfold lasS at e
        simp only [Option.bind_eq_some_iff, Option.map_eq_some_iff] at e
        obtain ⟨rows, hr, r, hl, e⟩ := e
        cases e
        obtain ⟨a, as, h', k1, kH, kR, k3, k4, k5⟩ := ll_out rel nd (llAt_of hr)
        rw [last_split hl] at kR
        obtain ⟨t, b, vs, rfl, r1, r2, r3⟩ := kR.snoc_inv
        refine ⟨a, t.map V.ref, .ref b, k1, ?_, by decide, fun pb hb => ?_⟩
        · rw [List.map_append] at kH
          exact SqL.of kH
        have nw : New H (upd H pb (.lst [])) [] := New.pure hb
        obtain ⟨nd2, st2⟩ := nw.stp rel.trk nd
        exact ⟨.ls r, .ls [], [b], [pb], .d (.bl r.isEmpty), ⟨b, vs, rfl, rfl, nw.1 _ _ r2, r3.ext nw.ext⟩, ⟨pb, [], rfl, rfl, upd_same, RepDs.nil⟩, rfl, fin_op (g := []) nd2 st2 (rel.keep (fun c hc => nw.at_ (rel.trk c hc)) nw.ext) q⟩
      refine ⟨PE.imp (pe_cmpR (op_cmp C.hu .Eq) (pe_last h1) (pe_lst pa_nil) (plain_mark rfl .Eq)) fw, fun _ => ?_⟩
      exact PT.imp (pt_cmpR (op_cmp C.hu .Eq) (pe_last h1) (pe_lst pa_nil) (plain_mark rfl .Eq)) fun σ H Q q => fw _ _ _ (tG_T q)
    · cases h
  · cases h
theorem cb_tup {X : Cx} (hc : X.calm = true) : CallR X (bnVal .tuple) (rSN X.K (cbS .tuple)) := cr_all_of hc .tuple
theorem c_popT (i : Nat) : Sn T N k (.popT i) := by
  intro X sc top io e C h
  simp only [mE] at h
  split at h
  · rename_i x y hv
    simp only [Bool.and_eq_true] at h
    obtain ⟨hbl, h⟩ := h
    split at h
    · rename_i o nm hy
      simp only [Bool.and_eq_true, decide_eq_true_eq] at h
      obtain ⟨rfl, h⟩ := h
      obtain ⟨p, q, rfl⟩ := vCallN_of hv
      obtain ⟨p2, q2, rfl, hline⟩ := vCallA_of hy
      obtain ⟨x3, p3, rfl, h1⟩ := nm_of C h
      obtain ⟨rfl, m1, m2⟩ := blt_of C hbl
      have z : PE X (.Call (.Name ("tuple" : Str) p) [.Call (.Attribute (.Name x3 p3) ("pop" : Str) p2) [] [] q2] [] q) (tG X.K (RV_ X.K) (evE (call T k) T.con (.popT i))) := by
        have hb := boot_bn .tuple
        obtain ⟨n1, n2⟩ := bn_ne .tuple
        refine PE.imp (pe_callTy (cb_tup C.calm) m2 m1 hb (pa_cons (pe_bm0 PySem.F.plainAttrs_list PySem.F.slot_list_pop PySem.F.type_list_pop mt_pop h1 rfl hline) pa_nil) n1 n2 rfl rfl) fun σ H Q q => ?_
        obtain ⟨env, f, w, env', rel, nd, e, q⟩ := q
        rw [evE] at e
        unfold popTS at e
        simp only [Option.bind_eq_some_iff, Option.map_eq_some_iff] at e
        obtain ⟨rows, hr, r, hl, e⟩ := e
        cases e
        obtain ⟨a, as, h', k1, kH, kR, k3, k4, k5⟩ := ll_out rel nd (llAt_of hr)
        rw [last_split hl] at kR
        obtain ⟨t, b, vs, rfl, r1, r2, r3⟩ := kR.snoc_inv
        have hz : Fz1 (.lst ((t ++ [b]).map V.ref)) := .inl ⟨_, rfl⟩
        obtain ⟨na, k6⟩ := List.nodup_cons.mp k5
        have nab : b ≠ a := fun z => na (by rw [← z]; simp)
        have nat : ∀ c ∈ t, c ≠ a := fun c hc z => na (by rw [← z]; simp [hc])
        have nah : ∀ c ∈ h', c ≠ a := fun c hc z => na (by rw [← z]; simp [hc])
        refine ⟨.ref a, k1, .inl ⟨rfl, _, .inl (.inl kH)⟩, a, _, .ref b, rfl, rfl, kH, by simp, ?_⟩
        have ex := ext_upd (v := .lst ((t ++ [b]).map V.ref).dropLast) kH hz
        have rel1 : RelE X.K (upd H a (.lst ((t ++ [b]).map V.ref).dropLast)) (env.set i (some (.ll rows.dropLast))) σ ((a :: t) ++ h') :=
          RelE.put (k3.keep (fun c hc => upd_ne (nah c hc)) ex) k1 ⟨a, t, rfl, rfl, by rw [upd_same]; simp, r1.keep (fun c hc => upd_ne (nat c hc)) ex⟩
        have nd1 : ((a :: t) ++ h').Nodup := by
          refine k5.sublist ?_
          simp
        have st1 : Stp H f (upd H a (.lst ((t ++ [b]).map V.ref).dropLast)) ((a :: t) ++ h') := (stp_upd (k4.mem_iff.mpr (by simp)) kH hz).sub fun c hc => k4.mem_iff.mpr (by
          simp only [List.cons_append, List.mem_cons, List.mem_append, List.append_assoc, List.mem_singleton] at hc ⊢
          rcases hc with h | h | h
          · exact .inl h
          · exact .inr (.inl h)
          · simp [h])
        exact ⟨[.ls r], .d (.tup r), .cons ⟨b, vs, rfl, rfl, (upd_ne nab).trans r2, r3.ext ex⟩ .nil, rfl, fin_op (g := []) (by simpa using nd1) (by simpa using st1) rel1 q⟩
      exact ⟨z, fun _ => pt_plain z rfl⟩
    · cases h
  · cases h
theorem c_rowT (i : Nat) : Sn T N k (.rowT i) := by
  intro X sc top io e C h
  simp only [mE] at h
  split at h
  · rename_i x y hv
    simp only [Bool.and_eq_true] at h
    obtain ⟨hbl, h⟩ := h
    split at h
    · rename_i o hy
      obtain ⟨p, q, rfl⟩ := vCallN_of hv
      obtain ⟨j, p1, p2, rfl⟩ := vFirst_of hy
      obtain ⟨x3, p3, rfl, h1⟩ := nm_of C h
      obtain ⟨rfl, m1, m2⟩ := blt_of C hbl
      have z : PE X (.Call (.Name ("tuple" : Str) p) [.Subscript (.Name x3 p3) (.Constant (.int 0) j p1) p2] [] q) (tG X.K (RV_ X.K) (evE (call T k) T.con (.rowT i))) := by
        have hb := boot_bn .tuple
        obtain ⟨n1, n2⟩ := bn_ne .tuple
        refine PE.imp (pe_callTy (cb_tup C.calm) m2 m1 hb (pa_cons (pe_first h1) pa_nil) n1 n2 rfl rfl) fun σ H Q q => ?_
        obtain ⟨env, f, w, env', rel, nd, e, q⟩ := q
        rw [evE] at e
        unfold rowTS at e
        simp only [Option.bind_eq_some_iff, Option.map_eq_some_iff] at e
        obtain ⟨rows, hr, r, hl, e⟩ := e
        cases e
        obtain ⟨a, as, h', k1, kH, kR, k3, k4, k5⟩ := ll_out rel nd (llAt_of hr)
        cases rows with
        | nil => simp at hl
        | cons r0 rs =>
          simp at hl
          subst hl
          obtain ⟨b, t, vs, rfl, r2, r3, r1⟩ := kR
          exact ⟨a, t.map V.ref, .ref b, k1, SqL.of kH, [.ls r0], .d (.tup r0), .cons ⟨b, vs, rfl, rfl, r2, r3⟩ .nil, rfl, fin_op (g := []) (by simpa using nd) (Stp.refl H f) rel q⟩
      exact ⟨z, fun _ => pt_plain z rfl⟩
    · cases h
  · cases h
theorem c_dl1 {a b : CE} (sa : Sn T N k a) (sb : Sn T N k b) : Sn T N k (.dl1 a b) := by
  intro X sc top io e C h
  simp only [mE] at h
  split at h
  · rename_i x y hv
    simp only [Bool.and_eq_true] at h
    obtain ⟨p, rfl⟩ := vDlit_of hv
    have z : PE X (.Dict [some x] [y] p) (tG X.K (RV_ X.K) (evE (call T k) T.con (.dl1 a b))) := PE.imp (pe_disp (pps_cons (fz_of C h.1 sa) (fz_of C h.2 sb) pps_nil) rfl rfl (by simp) (show 1 ≤ 15 by decide)) fun σ H Q q => by
      obtain ⟨env, f, w, env', rel, nd, e, q⟩ := q
      rw [evE] at e
      obtain ⟨d1, e1, g1, g2⟩ := bnd_eq e
      obtain ⟨d2, e2, g3, g4⟩ := bnd_eq g2
      unfold dl1S at g4
      split at g4
      · rename_i s
        cases g4
        intro pa hp
        have hn := New.one (H := H) (p := pa) (o := .dK []) hp
        have npf : pa ∉ f := fun z => rel.trk pa z hp
        refine ⟨env, f, .str s, e1, rel.keep (fun a ha => hn.at_ (rel.trk a ha)) hn.ext, nd, g1, fun v1 H1 f1 g r1 ra n1 st1 => ?_⟩
        obtain ⟨rfl, ra⟩ := ra
        have n1' : f1.Nodup := by simpa using n1
        refine ⟨e1, f1, d2, _, r1, n1', g3, fun v2 H2 f2 g' r2 rb n2 st2 => ?_⟩
        obtain ⟨rfl, rb⟩ := rb
        have n2' : f2.Nodup := by simpa using n2
        have st12 : Stp (upd H pa (.dK [])) f H2 f2 := (by simpa using st1 : Stp (upd H pa (.dK [])) f H1 f1).trans (by simpa using st2)
        have hH2 : H2 pa = some (.dK []) := st12.2.1 pa _ upd_same npf
        have npf2 : pa ∉ f2 := fun z => by
          rcases st12.2.2 pa z with y | y
          · exact npf y
          · rw [upd_same] at y; cases y
        have hF : Fz1 (.dK []) := .inr ⟨_, rfl⟩
        have ev : v1 = .str (stx s) := by simpa [RepD] using ra
        subst ev
        refine ⟨hH2, [((Sum.inr (stx s) : Key), v2)], rfl, show 1 ≤ 15 by decide, ?_⟩
        have hm : mergeK [] [((Sum.inr (stx s) : Key), v2)] = [((Sum.inr (stx s) : Key), v2)] := rfl
        rw [hm]
        refine q (.ref pa) _ f2 [pa] (r2.keep (fun a ha => upd_ne fun z => npf2 (z ▸ ha)) (ext_upd hH2 hF)) ⟨pa, _, rfl, rfl, upd_same, rfl, ?_⟩ (List.nodup_cons.mpr ⟨npf2, n2'⟩) ?_
        · exact (RepDs.cons rb .nil).ext (ext_upd hH2 hF)
        · have s1 : Stp H f (upd H pa (.dK [])) ([pa] ++ f) := (hn.stp (fun a ha => rel.trk a ha) nd).2
          exact (s1.trans (Stp.beside [pa] st12)).trans (stp_upd List.mem_cons_self hH2 hF)
      · cases g4
    exact ⟨z, fun _ => pt_plain z rfl⟩
  · cases h
theorem dict_out {K : PySem.W.Frag} {H : Hp} {env : Env} {σ : L2.St} {f : List Addr} {i : Nat} {kvs : List (List Nat × Mn.D)} (rel : RelE K H env σ f) (h : dictAt env i = some kvs) :
    ∃ a, σ[i]? = some (some (.ref a)) ∧ IsD H a ∧ ∀ k, ∃ o, DGet H a (.str (stx k)) o ∧ (∀ x, keyOf kvs k = some x → ∃ y, o = some y ∧ RepD K H x y) ∧ (keyOf kvs k = none → o = none) := by
  unfold dictAt at h
  split at h
  · rename_i kv hs
    cases h
    obtain ⟨v, g, h', k1, k2, k3, k4⟩ := rel.out hs
    have k2' := k2
    obtain ⟨a, kws, rfl, rfl, hH, rk, r⟩ := k2'
    refine ⟨a, k1, .inl ⟨kws, .inl hH⟩, fun k => ?_⟩
    obtain ⟨a', o, e1, e2, e3, e4⟩ := dc_get k2 k
    cases e1
    exact ⟨o, e2, e3, e4⟩
  · rename_i ks zs hs
    cases h
    obtain ⟨v, g, h', k1, k2, k3, k4⟩ := rel.out hs
    have k2' := k2.2
    simp only [RepD] at k2'
    obtain ⟨a, oo, kws, rfl, hH, rk, r⟩ := k2'
    refine ⟨a, k1, .inl ⟨kws, .inr ⟨oo, hH⟩⟩, fun k => ?_⟩
    obtain ⟨a', o, e1, e2, e3, e4⟩ := dct_get k2 k
    cases e1
    exact ⟨o, e2, e3, e4⟩
  · cases h
theorem c_dg2 (i : Nat) {a b : CE} (sa : Sn T N k a) (sb : Sn T N k b) : Sn T N k (.dg2 i a b) := by
  intro X sc top io e C h
  simp only [mE] at h
  split at h
  · rename_i o nm y z hv
    simp only [Bool.and_eq_true, decide_eq_true_eq] at h
    obtain ⟨⟨⟨⟨⟨rfl, hpl⟩, hpl2⟩, hma⟩, hmb⟩, h⟩ := h
    obtain ⟨p, q, rfl, hline⟩ := vCallA_of hv
    obtain ⟨x, p2, rfl, h1⟩ := nm_of C h
    have hM : M2 X (.Name x p2) "get" p y z q := ⟨rfl, few2' hpl hpl2, hline, by rw [plain_star hpl, plain_star hpl2]; rfl⟩
    have zz : PE X (.Call (.Attribute (.Name x p2) ("get" : Str) p) [y, z] [] q) (tG X.K (RV_ X.K) (evE (call T k) T.con (.dg2 i a b))) := by
      refine PE.imp (pe_dget2 (by have := C.hu; omega) h1 (fz_of C hma sa) (fz_of C hmb sb) hM) fun σ H Q q => ?_
      obtain ⟨env, f, w, env', rel, nd, e, q⟩ := q
      rw [evE] at e
      split at e
      · rename_i hdc
        obtain ⟨kvs0, hk0⟩ := Option.isSome_iff_exists.mp hdc
        obtain ⟨d, e1, g1, g2⟩ := bnd_eq e
        obtain ⟨d2, e2, g3, g4⟩ := bnd_eq g2
        obtain ⟨l, hsa, hD, _⟩ := dict_out rel hk0
        refine ⟨.ref l, hsa, l, rfl, hD, env, f, d, e1, rel, nd, g1, fun xv H1 f1 g rel1 r1 nd1 st1 => ?_⟩
        obtain ⟨rfl, r1⟩ := r1
        refine ⟨e1, f1, d2, e2, rel1, by simpa using nd1, g3, fun zv H2 f2 g' rel2 r2 nd2 st2 => ?_⟩
        obtain ⟨rfl, r2⟩ := r2
        unfold dg2S at g4
        simp only [Option.bind_eq_some_iff] at g4
        obtain ⟨kvs, hk, g4⟩ := g4
        split at g4
        · rename_i s
          cases g4
          obtain ⟨l', hs2, _, hg⟩ := dict_out rel2 hk
          rw [hsa] at hs2
          cases hs2
          obtain ⟨o, d1, d2', d3⟩ := hg s
          have hxv : xv = .str (stx s) := by simpa [RepD] using r1
          subst hxv
          refine ⟨o, d1, ?_⟩
          exact q _ H2 f2 [] rel2 (mk_d (getD_rep d2' d3 r2)) (by simpa using nd2) (st1.trans (by simpa using st2) |> fun s => by simpa using s)
        · cases g4
      · cases e
    exact ⟨zz, fun _ => pt_plain zz rfl⟩
  · cases h
theorem c_keysL (i : Nat) : Sn T N k (.keysL i) := by
  intro X sc top io e C h
  simp only [mE] at h
  split at h
  · rename_i x y hv
    simp only [Bool.and_eq_true] at h
    obtain ⟨hbl, h⟩ := h
    obtain ⟨p, q, rfl⟩ := vCallN_of hv
    obtain ⟨x3, p3, rfl, h1⟩ := nm_of C h
    obtain ⟨rfl, m1, m2⟩ := blt_of C hbl
    have z : PE X (.Call (.Name ("list" : Str) p) [.Name x3 p3] [] q) (tG X.K (RV_ X.K) (evE (call T k) T.con (.keysL i))) := by
      have hb := boot_bn .list
      obtain ⟨n1, n2⟩ := bn_ne .list
      refine PE.imp (pe_callTy (call_listD C.calm) m2 m1 hb (pa_cons h1 pa_nil) n1 n2 rfl rfl) fun σ H Q q => ?_
      obtain ⟨env, f, w, env', rel, nd, e, q⟩ := q
      rw [evE] at e
      unfold keysLS at e
      split at e
      · rename_i kvs hs
        cases e
        obtain ⟨v, g, h', k1, k2, k3, k4⟩ := rel.out hs
        obtain ⟨a, kws, rfl, rfl, hH, rk, r⟩ := k2
        refine ⟨.ref a, k1, a, kws, rfl, .inl hH, fun pa hp => ?_⟩
        have e1 : (kws.map fun kv => kV kv.1) = ((kvs.map (·.1)).map stx).map V.str := by
          have e0 : (kws.map fun kv => kV kv.1) = (kws.map (·.1)).map kV := by rw [List.map_map]; rfl
          rw [e0, rk, List.map_map, List.map_map, List.map_map]
          rfl
        have e2 : (kvs.map fun p => D.str p.1) = (kvs.map (·.1)).map .str := by rw [List.map_map]; rfl
        rw [e1]
        refine fin_op (g := []) (by simpa using nd) (Stp.refl H f) rel q _ _ [pa] ⟨pa, _, rfl, rfl, upd_same, ?_⟩ (New.one hp)
        rw [e2]
        exact reps_strs _
      · cases e
    exact ⟨z, fun _ => pt_plain z rfl⟩
  · cases h
end
end Mn
/-! MnG4: targets, comprehensions; the whole of the expressions. -/
namespace Mn
open PySem L2
section
variable {T : Tab} {N : List Str} {k : Nat}
/-! ### targets -/
theorem tgn_of {X : Cx} {sc : Scope} {top : Bool} {io io' : List Nat} {i : Nat} {e : Expr} (C : Ctx T N k X sc top io') (h : tgB N top sc io i e = true) : ∃ x p, e = .Name x p ∧ PG X (.Name x p) (gName i) ∧ N[i]? = some x ∧ Loc X.env.scope x ∧ (X.fn x = true ∨ X.env.scope.names.lookup x = some .local) ∧ io.contains i = false := by
  unfold tgB at h
  split at h
  · rename_i x hv
    obtain ⟨p, rfl⟩ := vName_of hv
    simp only [Bool.and_eq_true, decide_eq_true_eq, Bool.or_eq_true, Bool.not_eq_true'] at h
    obtain ⟨⟨⟨h1, h2⟩, h3⟩, h4⟩ := h
    have hN : X.N[i]? = some x := by rw [C.n]; exact h1
    have hnd : X.N.Nodup := by rw [C.n]; exact C.nd
    rcases h4 with h4 | ⟨rfl, h4⟩
    · have hl : X.env.scope.names.lookup x = some .local := by rw [C.sc]; exact h4
      exact ⟨x, p, rfl, pg_name hnd hN (.inl hl) (.inr hl), h1, .inl hl, .inr hl, h3⟩
    · have hl : X.env.scope.names.lookup x = some .cell := by rw [C.sc]; exact h4
      exact ⟨x, p, rfl, pg_name hnd hN (.inr hl) (.inl (C.fn rfl x)), h1, .inr hl, .inl (C.fn rfl x), h3⟩
  · cases h
theorem tgs_of {X : Cx} {sc : Scope} {top : Bool} {io io' : List Nat} (C : Ctx T N k X sc top io') : ∀ {is : List Nat} {es : List Expr}, tgsB N top sc io is es = true →
    PGs X es (gMany X.K is) ∧ (assignEach es X.env).length = is.length ∧ (assignEach es X.env).findIdx? (·.1) = none
  | [], [], _ => ⟨pgs_nil, rfl, rfl⟩
  | [], _ :: _, h => by simp [tgsB] at h
  | _ :: _, [], h => by simp [tgsB] at h
  | i :: is, e :: es, h => by
    simp only [tgsB, Bool.and_eq_true] at h
    obtain ⟨x, p, rfl, h1, _⟩ := tgn_of C h.1
    obtain ⟨h2, h3, h4⟩ := tgs_of C h.2
    refine ⟨pgs_cons h1 h2, ?_, ?_⟩
    · show (assignEach es X.env).length + 1 = _
      rw [h3] <;> rfl
    · show List.findIdx? (·.1) ((false, assign (.Name x p) X.env) :: assignEach es X.env) = none
      rw [List.findIdx?_cons]
      simp only [Bool.false_eq_true, if_false, h4, Option.map_none]
theorem tgt_of {X : Cx} {sc : Scope} {top : Bool} {io io' : List Nat} {tg : Tg} {e : Expr} (C : Ctx T N k X sc top io') (h : tgtB N top sc io tg e = true) : PG X e (gT X.K tg) := by
  cases tg with
  | one i =>
    obtain ⟨x, p, rfl, h1, _⟩ := tgn_of C (show tgB N top sc io i e = true from h)
    exact h1
  | many is =>
    simp only [tgtB] at h
    split at h
    · rename_i es hv
      obtain ⟨n, p, rfl⟩ := vTup_of hv
      obtain ⟨h1, h2, h3⟩ := tgs_of C h
      exact pg_tup C.calm h1 h2 h3
    · cases h
theorem wipe_wipe {σ : L2.St} {vs : List Nat} : wipe (wipe σ vs) vs = wipe σ vs := by
  have key : ∀ us : List Nat, (∀ u ∈ us, u ∈ vs) → wipe (wipe σ us) vs = wipe σ vs := by
    intro us
    induction us with
    | nil => intro _; rfl
    | cons u us ih =>
      intro h
      show wipe ((wipe σ us).set u none) vs = wipe σ vs
      rw [wipe_set (h u List.mem_cons_self)]
      exact ih fun x hx => h x (List.mem_cons_of_mem _ hx)
  exact key vs fun _ h => h
theorem ctx_blk {X : Cx} {sc : Scope} {top : Bool} {io io' : List Nat} (C : Ctx T N k X sc top io) (s : Shared) (H : Hp) (scope : Scope) (cl : List (Str × Addr)) (A : Addr) (fp : List Addr) :
    Ctx T N k (X.blk s H scope (compEnvC scope cl A X.env) fp) (relS scope sc) false io' :=
  { n := C.n, sc := by rw [← C.sc]; rfl, nd := C.nd, calm := C.calm, room := C.room, xe := rfl, fn := (fun z => nomatch z), blt := C.blt, con := C.con, fns := C.fns }
theorem drop_cons {α : Type} {xs : List α} {i : Nat} {x : α} (h : xs[i]? = some x) : xs.drop i = x :: xs.drop (i + 1) := by
  obtain ⟨h1, h2⟩ := List.getElem?_eq_some_iff.mp h
  rw [List.drop_eq_getElem_cons h1, h2]
theorem tG_lc {X : Cx} {own : List (Str × Nat)} {tg : Tg} {it : CI} {cs : CEs} {el : CE} {σ : L2.St} {H : Hp} {Q : VK} (h3 : tgIn tg (own.map (·.2)) = true) (q : tG X.K (RV_ X.K) (evE (call T k) T.con (.comp own tg it cs el)) σ H Q) :
    tLc (tI X.K (evI (call T k) T.con it)) (gT X.K tg) (tG X.K RB_ (evCs (call T k) T.con cs)) (tG X.K (RD_ X.K) (fopn el (evE (call T k) T.con el))) (own.map (·.2)) σ H Q := by
  obtain ⟨env, f, w, env', rel, nd, e, q⟩ := q
  rw [evE] at e
  obtain ⟨xs, e1, g1, g2⟩ := bnd_eq e
  obtain ⟨ys, e6, g3, g4⟩ := bnd_eq g2
  cases g4
  generalize hvs : own.map (·.2) = vs at g3 ⊢
  have h3' := h3
  rw [hvs] at h3'
  generalize hturn : (fun (x : D) (e2 : Env) => (tgS tg x e2).bind fun e3 => bnd (evCs (call T k) T.con cs e3) fun t e4 => if t = true then bnd (fopn el (evE (call T k) T.con el) e4) fun y e5 => some (some y, e5) else some (none, e4)) = turn at g3
  refine ⟨env, f, xs, e1, rel, nd, g1, fun J H1 f1 rel1 nd1 st1 wk D hD => ?_⟩
  let P : Nat → Hp → Prop := fun i H' => Ext H1 H' ∧ ∃ (acc : List Mn.D) (ea E0 : Env) (fa : List Addr) (av : List V), ea = wipeS E0 vs ∧ H' D = some (.lst av) ∧ RepDs X.K H' acc av ∧ RelE X.K H' ea (wipe σ vs) fa ∧ (D :: fa).Nodup ∧ Stp H f H' (D :: fa) ∧ i ≤ xs.length ∧ compL turn vs (xs.drop i) ea acc = some (ys, env')
  refine ⟨fun i m H' => m = xs.length - i ∧ P i H', ⟨_, rfl, ?_⟩, ?_⟩
  · have hn := New.one (H := H1) (p := D) (o := .lst []) hD
    obtain ⟨f2, rel2, nd2, sub2⟩ := RelE.wiped vs rel1 nd1
    have nD : D ∉ f2 := fun z => rel2.trk D z hD
    refine ⟨hn.ext, [], _, e1, f2, [], rfl, upd_same, RepDs.nil, rel2.keep (fun a ha => hn.at_ (rel2.trk a ha)) hn.ext, List.nodup_cons.mpr ⟨nD, nd2⟩, ?_, Nat.zero_le _, by rw [List.drop_zero]; exact g3⟩
    exact (st1.sub sub2).trans (hn.stp (fun a ha => rel2.trk a ha) nd2).2
  · rintro i m H' ⟨rfl, hx, acc, ea, E0, fa, av, rfl, hav, rav, rela, nda, sta, hi, hc⟩
    obtain ⟨wk1, wk2⟩ := wk H' hx
    by_cases hlt : i < xs.length
    · obtain ⟨go, yld⟩ := wk1 i hlt
      refine .inr ⟨go, P (i + 1), fun H2 hp => ⟨xs.length - (i + 1), by omega, rfl, hp⟩, fun v H2 hy => ?_⟩
      obtain ⟨x, hxi, rx, nw⟩ := yld v H2 hy
      rw [drop_cons hxi] at hc
      unfold compL at hc
      obtain ⟨yo, e5, c1, c2⟩ := bnd_eq hc
      rw [← hturn] at c1
      simp only [Option.bind_eq_some_iff] at c1
      obtain ⟨e3, c3, c4⟩ := c1
      have relb : RelE X.K H2 (wipeS E0 vs) (wipe σ vs) fa := rela.keep (fun a ha => nw.at_ (rela.trk a ha)) nw.ext
      have stb : Stp H f H2 (D :: fa) := sta.trans (by
        have := (nw.stp (f := D :: fa) (fun a ha => by
          rcases List.mem_cons.mp ha with z | z
          · subst z; rw [hav]; exact fun z => nomatch z
          · exact rela.trk a z) nda).2
        simpa using this)
      have hav2 : H2 D = some (.lst av) := nw.1 D _ hav
      have nDf : D ∉ fa := (List.nodup_cons.mp nda).1
      refine tg_ok c3 rx relb (List.nodup_cons.mp nda).2 fun σ2 f2 rel2 nd2 sub2 wp2 _ => ⟨by rw [wp2 vs (tgIn_of h3'), wipe_wipe], ?_⟩
      obtain ⟨t, e4, c5, c6⟩ := bnd_eq c4
      refine ⟨e3, f2, t, e4, rel2, nd2, c5, fun b H3 f3 g rel3 r3 nd3 st3 => ?_⟩
      obtain ⟨rfl, rfl⟩ := r3
      have nDf2 : D ∉ f2 := fun z => nDf (sub2 D z)
      have hav3 : H3 D = some (.lst av) := st3.2.1 D _ hav2 nDf2
      have nDf3 : D ∉ f3 := fun z => by
        rcases st3.2.2 D z with y | y
        · exact nDf2 y
        · rw [y] at hav2; cases hav2
      have stc : Stp H f H3 (D :: f3) := (stb.sub (f2 := D :: f2) fun a ha => by
        rcases List.mem_cons.mp ha with z | z
        · exact z ▸ List.mem_cons_self
        · exact List.mem_cons_of_mem _ (sub2 a z)).trans (Stp.beside [D] st3)
      have hw : wipe σ2 vs = wipe σ vs := by rw [wp2 vs (tgIn_of h3'), wipe_wipe]
      cases b with
      | false =>
        rw [if_neg Bool.false_ne_true] at c6 ⊢
        cases c6
        obtain ⟨f4, rel4, nd4, sub4⟩ := RelE.wiped vs rel3 nd3
        rw [hw] at rel4
        refine ⟨hx.trans (nw.ext.trans st3.1), acc, _, _, f4, av, rfl, hav3, rav.ext (nw.ext.trans st3.1), rel4, List.nodup_cons.mpr ⟨fun z => nDf3 (sub4 D z), nd4⟩, stc.sub fun a ha => ?_, hlt, c2⟩
        rcases List.mem_cons.mp ha with z | z
        · exact z ▸ List.mem_cons_self
        · exact List.mem_cons_of_mem _ (sub4 a z)
      | true =>
        rw [if_pos rfl] at c6 ⊢
        obtain ⟨y, e5', c7, c8⟩ := bnd_eq c6
        cases c8
        refine ⟨e4, f3, y, _, rel3, nd3, c7, fun yv H4 f4 g rel4 r4 nd4 st4 => ?_⟩
        obtain ⟨rfl, r4⟩ := r4
        have hav4 : H4 D = some (.lst av) := st4.2.1 D _ hav3 nDf3
        have nDf4 : D ∉ f4 := fun z => by
          rcases st4.2.2 D z with y | y
          · exact nDf3 y
          · rw [y] at hav3; cases hav3
        simp only at c2
        split at c2
        · rename_i hz
          have hl := rav.len
          have hF : Fz1 (.lst av) := .inl ⟨_, rfl⟩
          have ex5 : Ext H4 (upd H4 D (.lst (av ++ [yv]))) := ext_upd hav4 hF
          obtain ⟨f5, rel5, nd5, sub5⟩ := RelE.wiped vs rel4 nd4
          rw [hw] at rel5
          have nDf5 : D ∉ f5 := fun z => nDf4 (sub5 D z)
          refine ⟨av, hav4, by rw [hl, sizeLine_eq]; exact hz, ?_⟩
          refine ⟨hx.trans (nw.ext.trans (st3.1.trans (st4.1.trans ex5))), acc ++ [y], _, _, f5, av ++ [yv], rfl, upd_same, ?_, rel5.keep (fun a ha => upd_ne fun z => nDf5 (z ▸ ha)) ex5, List.nodup_cons.mpr ⟨nDf5, nd5⟩, ?_, hlt, c2⟩
          · exact ((rav.ext (nw.ext.trans (st3.1.trans st4.1))).append (.cons r4 .nil)).ext ex5
          · have std : Stp H f H4 (D :: f4) := stc.trans (Stp.beside [D] st4)
            refine (std.trans (stp_upd List.mem_cons_self hav4 hF)).sub fun a ha => ?_
            rcases List.mem_cons.mp ha with z | z
            · exact z ▸ List.mem_cons_self
            · exact List.mem_cons_of_mem _ (sub5 a z)
        · cases c2
    · refine .inl ⟨wk2 i (by omega), ?_⟩
      rw [List.drop_eq_nil_of_le (by omega)] at hc
      unfold compL at hc
      cases hc
      exact q (.ref D) H' fa [D] (RelE.unwipe vs rela) ⟨D, av, rfl, rfl, hav, rav⟩ nda sta
theorem c_comp {own : List (Str × Nat)} {tg : Tg} {it : CI} {cs : CEs} {el : CE} (si : SnI T N k it) (scs : SnL T N k cs) (se : Sn T N k el) : Sn T N k (.comp own tg it cs el) := by
  intro X sc top io e C h
  simp only [mE] at h
  split at h
  · rename_i elt tgx iter ifs scope hv
    simp only [Bool.and_eq_true] at h
    obtain ⟨⟨⟨⟨⟨⟨⟨h1, h2⟩, h3⟩, h4⟩, h5⟩, h6⟩, h7⟩, h8⟩ := h
    obtain ⟨p, rfl⟩ := vComp_of hv
    have ok : BlkOk X.N X.env.scope scope own := by
      rw [C.n, C.sc]
      exact blkOk_by h2
    have hnd : X.N.Nodup := by rw [C.n]; exact C.nd
    have z : PE X (.ListComp elt [⟨tgx, iter, ifs, 0⟩] scope p) (tG X.K (RV_ X.K) (evE (call T k) T.con (.comp own tg it cs el))) := by
      refine PE.imp (pe_lc (wi := tI X.K (evI (call T k) T.con it)) (g := gT X.K tg) (tt := tG X.K RB_ (evCs (call T k) T.con cs)) (te := tG X.K (RD_ X.K) (fopn el (evE (call T k) T.con el))) C.calm hnd (si C h6) ok
        (fun s H A cl fp => tgt_of (io' := []) (ctx_blk C s H scope cl A fp) h5)
        (fun s H A cl fp => (scs (ctx_blk (io' := []) C s H scope cl A fp) h7).2.2.2 h4)
        (fun s H A cl fp => fz_of (ctx_blk (io' := []) C s H scope cl A fp) h8 se) (plain_fold h1 X.env)) fun σ H Q q => tG_lc h3 q
    exact ⟨z, fun _ => pt_plain z rfl⟩
  · cases h

/-! ### and, or -/
theorem c_and {as : CEs} (s : SnL T N k as) : Sn T N k (.and as) := by
  intro X sc top io e C h
  simp only [mE] at h
  split at h
  · rename_i xs hv
    simp only [Bool.and_eq_true, Bool.not_eq_true'] at h
    obtain ⟨p, rfl⟩ := vBool_of hv
    obtain ⟨_, _, m3, _⟩ := s C h.2
    have hne : xs ≠ [] := fun z => by rw [z] at h; simp at h
    obtain ⟨m1, m2, m4⟩ := m3 hne p
    refine ⟨PE.imp m1 fun σ H Q q => tG_eq (fun env => by rw [evE]) q, fun ht => ?_⟩
    have ht' : tsts as xs = true := by simpa [tst, vBool] using ht
    exact PT.imp (m4 ht').1.pt fun σ H Q q => tG_eq (fun env => by unfold evT; rw [evE]) q
  · cases h
theorem c_or {as : CEs} (s : SnL T N k as) : Sn T N k (.or as) := by
  intro X sc top io e C h
  simp only [mE] at h
  split at h
  · rename_i xs hv
    simp only [Bool.and_eq_true, Bool.not_eq_true'] at h
    obtain ⟨p, rfl⟩ := vBool_of hv
    obtain ⟨_, _, m3, _⟩ := s C h.2
    have hne : xs ≠ [] := fun z => by rw [z] at h; simp at h
    obtain ⟨m1, m2, m4⟩ := m3 hne p
    refine ⟨PE.imp m2 fun σ H Q q => tG_eq (fun env => by rw [evE]) q, fun ht => ?_⟩
    have ht' : tsts as xs = true := by simpa [tst, vBool] using ht
    exact PT.imp (m4 ht').2.pt fun σ H Q q => tG_eq (fun env => by unfold evT; rw [evE]) q
  · cases h

/-! ### all of it -/
mutual
theorem snE (T : Tab) (N : List Str) (k : Nat) : ∀ c : CE, Sn T N k c
  | .var i => c_var i
  | .glb g => c_glb g
  | .lit x => c_lit x
  | .neg a => c_neg (snE T N k a)
  | .bin o a b => c_bin (snE T N k a) (snE T N k b)
  | .cmp o a b => c_cmp (snE T N k a) (snE T N k b)
  | .cmp2 o p a b c => c_cmp2 (snE T N k a) (snE T N k b) (snE T N k c)
  | .and as => c_and (snL T N k as)
  | .or as => c_or (snL T N k as)
  | .not a => c_not (snE T N k a)
  | .ife c a b => c_ife (snE T N k c) (snE T N k a) (snE T N k b)
  | .sub a b => c_sub (snE T N k a) (snE T N k b)
  | .slc a lo hi => c_slc (snE T N k a) (snO T N k lo) (snO T N k hi)
  | .tup as => c_tup (snL T N k as)
  | .lst as => c_lst (snL T N k as)
  | .dnew => c_dnew
  | .cb f as => c_cb (snL T N k as)
  | .isi a ts => c_isi (snE T N k a)
  | .cf f as => c_cf (snL T N k as)
  | .mt m a as => c_mt (snE T N k a) (snL T N k as)
  | .popV i => c_popV i
  | .popI i a => c_popI i (snE T N k a)
  | .sdf i a b => c_sdf i (snE T N k a) (snE T N k b)
  | .comp own tg it cs e => c_comp (snI T N k it) (snL T N k cs) (snE T N k e)
  | .fz a => c_fz (snE T N k a)
  | .ssrt a => c_ssrt (snE T N k a)
  | .slen a => c_slen (snE T N k a)
  | .dlit ks as => c_dlit (snA T N k as)
  | .rev a => c_rev (snE T N k a)
  | .lzip as => c_lzip (snL T N k as)
  | .rev1 a => c_rev1 (snE T N k a)
  | .orv a b => c_orv (snE T N k a) (snE T N k b)
  | .lln => c_lln
  | .lasE i => c_lasE i
  | .popT i => c_popT i
  | .rowT i => c_rowT i
  | .keysL i => c_keysL i
  | .dg2 i a b => c_dg2 i (snE T N k a) (snE T N k b)
  | .dl1 a b => c_dl1 (snE T N k a) (snE T N k b)
  | .up a => c_up (snE T N k a)
  | .lo a => c_lo (snE T N k a)
theorem snA (T : Tab) (N : List Str) (k : Nat) : ∀ c : CEs, SnAll T N k c
  | .nil => trivial
  | .cons a as => ⟨snE T N k a, snA T N k as⟩
theorem snL (T : Tab) (N : List Str) (k : Nat) : ∀ c : CEs, SnL T N k c
  | .nil => l_nil
  | .cons a as => l_cons (snE T N k a) (snL T N k as)
theorem snO (T : Tab) (N : List Str) (k : Nat) : ∀ c : CO, SnO T N k c
  | .none => o_none
  | .some a => o_some (snE T N k a)
theorem snI (T : Tab) (N : List Str) (k : Nat) : ∀ c : CI, SnI T N k c
  | .it a => i_it (snE T N k a)
  | .rng as => i_rng (snL T N k as)
  | .zip as => i_zip (snL T N k as)
  | .enu a => by intro C h; simp [mI] at h
end
end
end Mn
/-! MnH: the checker for statements and their soundness. -/
namespace Mn
open PySem L2
section
open PyProof.Rows
section
open PySem.AutoSeq1
theorem list_extend_tup (l : Addr) (items : Array Value) (n : Nat) (b : Addr) (items2 : Array Value) (n2 : Nat) (dd : Option Addr) (ss : Array (Option Value)) (hs0 : ¬(!items.isEmpty && Builtin.List.listTooLong (items.size + items2.size)) = true) (hs1 : items.size ≤ sizeLine) (hs2 : items.size + items2.size ≤ sizeLine + 1) :
    Meets (Builtin.«list.extend» ⟨[.ref l, .ref b], []⟩) (fun _ R s => s.heap.get? l = some { cls := .type "list", dict := none, data := .seq items n, slots := #[] } ∧ s.heap.get? b = some { cls := .type "tuple", dict := dd, data := .seq items2 n2, slots := ss } ∧ R (.ok (.ret Value.none)) { s with heap := s.heap.update l (Obj.mapSeq fun x => x ++ items2), toks := s.toks }) :=
  .of_wp fun prog w A R s h => by
    obtain ⟨hp, g, d, tk, os⟩ := s; obtain ⟨hl, hb, h⟩ := h; have f1 := idx_int; have f2 := AutoSeq1.sub_tuple_tuple; have f3 := AutoSeq1.sub_list_list; have f4 := AutoSeq1.sub_tuple_list; have f5 := AutoSeq1.sub_list_tuple;
    have hz' : (items ++ items2).size ≤ sizeLine + 1 := by rw [Array.size_append]; exact hs2
    wp_walk using (wpAny_updateSeq hl rfl (hz := hs1) (_hz' := hz')), wpAny_loadPart' hl, wpAny_loadPart' hb; exact ⟨_, rfl, h⟩
end
section
variable {X : Cx}
def rExtT (K : PySem.W.Frag) : V → List V → Hp → VK → Prop := fun x vs H Q => ∃ l b xs zs, x = .ref l ∧ vs = [.ref b] ∧ H l = some (.lst xs) ∧ SqT K H b zs ∧ xs.length + zs.length ≤ sizeLine ∧ Q .non (upd H l (.lst (xs ++ zs)))
theorem mt_extT : MtM X "list.extend" (rExtT X.K) := by
  intro pins s σ H x vs v us Q I rx rv h
  obtain ⟨l, b, xs, zs, rfl, rfl, hH, hB, hz, q⟩ := h
  cases rx
  obtain ⟨u, rfl, ru⟩ := rv.one
  cases ru
  obtain ⟨z, its, n, r, hl, e⟩ := I.lstM hH
  obtain ⟨its2, r2, ⟨o, e2, hc, n2, hd⟩, z2⟩ := I.tuple hB
  have hl2 := r2.length
  obtain ⟨oc, od, odt, os⟩ := o
  simp only at hc hd
  subst hc hd
  have hsz : its.toArray.size + its2.toArray.size ≤ sizeLine := by rw [List.size_toArray, List.size_toArray]; omega
  have hlong : ¬ (!its.toArray.isEmpty && Builtin.List.listTooLong (its.toArray.size + its2.toArray.size)) = true := by
    rw [notLongL hsz, Bool.and_false]
    exact Bool.false_ne_true
  refine call_meets F.slot_list_extend ⟨_, e, rfl⟩ F.entry_list_extend (F.args_list_extend_2 _ _)
    (list_extend_tup l its.toArray n b its2.toArray n2 _ _ hlong (by rw [List.size_toArray]; omega) (by omega)) ⟨e, e2, ?_⟩
  refine ⟨.non, _, I.lset (its' := its ++ its2) hH e (by simp) (r.append r2) ?_, rfl, q⟩
  rw [List.length_append]
  omega
end
theorem MtM.or {X : Cx} {n : String} {r r' : V → List V → Hp → VK → Prop} (h : MtM X n r) (h' : MtM X n r') : MtM X n (fun x vs H Q => r x vs H Q ∨ r' x vs H Q) := by
  intro pins s σ H x vs v us Q I rx rv q
  rcases q with q | q
  · exact h pins s σ H x vs v us Q I rx rv q
  · exact h' pins s σ H x vs v us Q I rx rv q
end
/-- no comprehension, no written tuple or list -/
def plainA : Expr → Bool
  | .ListComp .. => false
  | .SetComp .. => false
  | .DictComp .. => false
  | .Tuple .. => false
  | .List .. => false
  | _ => true
def plainC : Expr → Bool
  | .ListComp .. => false
  | .SetComp .. => false
  | .DictComp .. => false
  | _ => true
theorem plain_sw {e : Expr} (h : plainC e = true) (t : Option Expr) (l : Nat) (env : PySem.Env) : swapsWith e t l env = pure false := by
  cases e <;> first | rfl | (simp [plainC] at h)
theorem sw_cell {x : Str} {env : PySem.Env} (h : env.scope.names.lookup x = some .cell) (e : Expr) (l : Nat) (p : Pos) : swapsWith e (some (.Name x p)) l env = pure false := by
  have hk : (env.kindOf x == some .local) = false := by
    unfold PySem.Env.kindOf
    rw [h]
    rfl
  cases e <;> first | rfl | simp [swapsWith, hk]
theorem plain_sws {e : Expr} (h : plainC e = true) (t : Expr) (l : Nat) (env : PySem.Env) : swapsWithSole [t] e l env = pure false := plain_sw h (some t) l env
theorem plainA_C {e : Expr} (h : plainA e = true) : plainC e = true := by
  cases e <;> first | rfl | (simp [plainA] at h)
theorem plain_ss {es : List Expr} {n : Nat} {p : Pos} {e : Expr} (h : plainA e = true) (env : PySem.Env) : swappedStores [.Tuple es n p] e env = pure none := by
  cases e <;> first | rfl | (simp [plainA] at h)
theorem name_ss {x : Str} {p : Pos} (e : Expr) (env : PySem.Env) : swappedStores [.Name x p] e env = pure none := by
  cases e <;> rfl
theorem plain_asg {o j : Expr} {p : Pos} {env : PySem.Env} (h : plainX j = true) : ∀ v, assign (.Subscript o j p) env v = (do
      let ov ← holding [v] (eval o env)
      let iv ← holding [v, ov] (eval j env)
      standAt p
      holding [v, ov, iv] (setItem ov iv v)
      release [v, ov, iv] []) := by
  intro v
  cases j <;> first | rfl | (simp [plainX] at h)
theorem ixN_eq {n : Nat} {i : Int} {m : Nat} (h : Mn.ixN n i = some m) : L2.ixN n i = some m := by
  rw [← h]
  rfl
/-- what a comprehension that is given a name at once must be -/
def swB (sc : Scope) (y : Str) (py : Pos) : Expr → Bool
  | .ListComp _ _ scope pos => (match sc.kind with | .function => true | _ => false) && decide (sc.names.lookup y = some .local) && (py.line == pos.line) && !(scope.names.any fun (n, k) => n == y && (k == .local || k == .cell))
  | _ => false
def vNm : Expr → Option (Str × Pos)
  | .Name x p => some (x, p)
  | _ => none
theorem vNm_of {e : Expr} {x : Str} {p : Pos} (h : vNm e = some (x, p)) : e = .Name x p := by
  cases e <;> simp [vNm] at h
  obtain ⟨rfl, rfl⟩ := h
  rfl
def vAsg : Stmt → Option (Expr × Expr)
  | .Assign [t] e _ => some (t, e)
  | _ => none
theorem vAsg_of {s : Stmt} {t e : Expr} (h : vAsg s = some (t, e)) : ∃ p, s = .Assign [t] e p := by
  unfold vAsg at h
  split at h <;> simp at h
  obtain ⟨rfl, rfl⟩ := h
  exact ⟨_, rfl⟩
def vExp : Stmt → Option Expr
  | .Expr e _ => some e
  | _ => none
theorem vExp_of {s : Stmt} {e : Expr} (h : vExp s = some e) : ∃ p, s = .Expr e p := by
  cases s <;> simp [vExp] at h
  subst h
  exact ⟨_, rfl⟩
def vAug : Stmt → Option (Expr × Operator × Expr)
  | .AugAssign t o e _ => some (t, o, e)
  | _ => none
theorem vAug_of {s : Stmt} {t e : Expr} {o : Operator} (h : vAug s = some (t, o, e)) : ∃ p, s = .AugAssign t o e p := by
  cases s <;> simp [vAug] at h
  obtain ⟨rfl, rfl, rfl⟩ := h
  exact ⟨_, rfl⟩
def vIfS : Stmt → Option (Expr × List Stmt × List Stmt)
  | .If c a b _ => some (c, a, b)
  | _ => none
theorem vIfS_of {s : Stmt} {c : Expr} {a b : List Stmt} (h : vIfS s = some (c, a, b)) : ∃ p, s = .If c a b p := by
  cases s <;> simp [vIfS] at h
  obtain ⟨rfl, rfl, rfl⟩ := h
  exact ⟨_, rfl⟩
def vWhl : Stmt → Option (Expr × List Stmt)
  | .While c a [] _ => some (c, a)
  | _ => none
theorem vWhl_of {s : Stmt} {c : Expr} {a : List Stmt} (h : vWhl s = some (c, a)) : ∃ p, s = .While c a [] p := by
  unfold vWhl at h
  split at h <;> simp at h
  obtain ⟨rfl, rfl⟩ := h
  exact ⟨_, rfl⟩
def vFor : Stmt → Option (Expr × Expr × List Stmt)
  | .For t i a [] _ => some (t, i, a)
  | _ => none
theorem vFor_of {s : Stmt} {t i : Expr} {a : List Stmt} (h : vFor s = some (t, i, a)) : ∃ p, s = .For t i a [] p := by
  unfold vFor at h
  split at h <;> simp at h
  obtain ⟨rfl, rfl, rfl⟩ := h
  exact ⟨_, rfl⟩
def vRet : Stmt → Option (Option Expr)
  | .Return e _ => some e
  | _ => none
theorem vRet_of {s : Stmt} {e : Option Expr} (h : vRet s = some e) : ∃ p, s = .Return e p := by
  cases s <;> simp [vRet] at h
  subst h
  exact ⟨_, rfl⟩
def brkB : Stmt → Bool
  | .Break _ => true
  | _ => false
def cntB : Stmt → Bool
  | .Continue _ => true
  | _ => false
def passB : Stmt → Bool
  | .Pass _ => true
  | _ => false
def rseB : Stmt → Bool
  | .Raise _ _ _ => true
  | _ => false
def isCmp : CE → Bool
  | .comp .. => true
  | _ => false
/-- a method's call on a name: the name's slot, the method, the arguments -/
def mthB (N : List Str) (sc : Scope) (i : Nat) (m : String) (e : Expr) : Option (List Expr) := match vCallA e with
  | some (o, nm, xs) => match vName o with
    | some x => if (decide (nm = (m : Str)) && decide (N[i]? = some x) && visB sc x && okN x) = true then some xs else none
    | none => none
  | none => none
section
variable (T : Tab) (N : List Str) (sc : Scope) (io : List Nat)
mutual
def mS : CS → Stmt → Bool
  | .asg i e, s => match vAsg s with
    | some (t, v) => tgB N true sc io i t && mE T N sc e v && (plainC v || (isCmp e && (match vNm t with
      | some (y, py) => decide (sc.names.lookup y = some .cell) || swB sc y py v
      | none => false)))
    | none => false
  | .asgT is e, s => match vAsg s with
    | some (t, v) => (match vTup t with
      | some _ => true
      | none => false) && tgtB N true sc io (.many is) t && mE T N sc e v && plainA v
    | none => false
  | .expr e, s => match vExp s with
    | some v => mE T N sc e v && plainC v
    | none => false
  | .app i e, s => match vExp s with
    | some v => match mthB N sc i "append" v with
      | some [x] => plainX x && mE T N sc e x
      | _ => false
    | none => false
  | .ext i e, s => match vExp s with
    | some v => match mthB N sc i "extend" v with
      | some [x] => plainX x && mE T N sc e x
      | _ => false
    | none => false
  | .setI i k e, s => match vAsg s with
    | some (t, v) => match vSub t with
      | some (o, j) => (match vName o with
        | some x => decide (N[i]? = some x) && visB sc x && okN x
        | none => false) && plainX j && mE T N sc k j && mE T N sc e v && plainC v
      | none => false
    | none => false
  | .aug i o e, s => match vAug s with
    | some (t, p, v) => decide (p = o) && tgB N true sc io i t && mE T N sc e v
    | none => false
  | .ite c a b, s => match vIfS s with
    | some (d, x, y) => tst c d && mE T N sc c d && mB a x && mB b y
    | none => false
  | .whl c b, s => match vWhl s with
    | some (d, x) => tst c d && mE T N sc c d && mB b x
    | none => false
  | .for_ tg it b, s => match vFor s with
    | some (t, i, x) => plainX i && tgtB N true sc io tg t && mI T N sc it t i && mB b x
    | none => false
  | .ret e, s => match vRet s with
    | some (some v) => mE T N sc e v
    | _ => false
  | .retN, s => match vRet s with
    | some none => true
    | _ => false
  | .brk, s => brkB s
  | .cnt, s => cntB s
  | .pass, s => passB s
  | .appN i, s => match vExp s with
    | some v => match mthB N sc i "append" v with
      | some [x] => lnB x
      | _ => false
    | none => false
  | .appL i e, s => match vExp s with
    | some v => match vCallA v with
      | some (o, nm, [x]) => decide (nm = ("append" : Str)) && plainX x && mE T N sc e x && (match vLast o with
        | some y => nmB N sc i y
        | none => false)
      | _ => false
    | none => false
  | .rse, s => rseB s
  | .par i j a b, s => match vAsg s with
    | some (.Tuple [.Name x px] _ _, _) => false
    | some (.Tuple [.Name x px, .Name y py] _ _, .Tuple [.Name a' pa, .Name b' pb] _ _) => decide (N[i]? = some x) && decide (N[j]? = some y) && decide (sc.names.lookup x = some .local) && decide (sc.names.lookup y = some .local) && decide (i ≠ j) && decide (px.line = py.line) && decide ((a' == ("__debug__" : Str)) = false) && !(io.contains i) && !(io.contains j) && mE T N sc a (.Name a' pa) && mE T N sc b (.Name b' pb)
    | _ => false
  | .upd i e, s => match vExp s with
    | some v => match mthB N sc i "update" v with
      | some [x] => plainX x && mE T N sc e x
      | _ => false
    | none => false
def mB : CB → List Stmt → Bool
  | .nil, [] => true
  | .cons s b, x :: xs => mS s x && mB b xs
  | _, _ => false
end
end

/-! ### what a statement does -/
def Kp (io : List Nat) (σ σ' : L2.St) : Prop := ∀ j ∈ io, σ'[j]? = σ[j]?
theorem Kp.refl (io : List Nat) (σ : L2.St) : Kp io σ σ := fun _ _ => rfl
theorem Kp.trans {io : List Nat} {σ σ1 σ2 : L2.St} (a : Kp io σ σ1) (b : Kp io σ1 σ2) : Kp io σ σ2 := fun j hj => (b j hj).trans (a j hj)
/-- the end of a statement reached: by its kind -/
def Out (K : PySem.W.Frag) (io : List Nat) (D : Ends) (H : Hp) (f : List Addr) (σ : L2.St) (env' : Env) : Fl → Prop
  | .nx => ∀ σ' H' f', RelE K H' env' σ' f' → f'.Nodup → Stp H f H' f' → Kp io σ σ' → D.nx σ' H'
  | .bk => ∀ σ' H' f', RelE K H' env' σ' f' → f'.Nodup → Stp H f H' f' → Kp io σ σ' → D.bk σ' H'
  | .ct => ∀ σ' H' f', RelE K H' env' σ' f' → f'.Nodup → Stp H f H' f' → Kp io σ σ' → D.ct σ' H'
  | .rt w => ∀ σ' H' f' g v, RelE K H' env' σ' f' → RepV K H' w v g → (g ++ f').Nodup → Stp H f H' (g ++ f') → Kp io σ σ' → D.rt v H'
theorem Out.from {K : PySem.W.Frag} {io : List Nat} {D : Ends} {H H1 : Hp} {f f1 : List Addr} {σ σ1 : L2.St} {env' : Env} {fl : Fl} (st : Stp H f H1 f1) (kp : Kp io σ σ1) (o : Out K io D H f σ env' fl) : Out K io D H1 f1 σ1 env' fl := by
  cases fl with
  | nx => exact fun σ' H' f' r n s k => o σ' H' f' r n (st.trans s) (kp.trans k)
  | bk => exact fun σ' H' f' r n s k => o σ' H' f' r n (st.trans s) (kp.trans k)
  | ct => exact fun σ' H' f' r n s k => o σ' H' f' r n (st.trans s) (kp.trans k)
  | rt w => exact fun σ' H' f' g v r a n s k => o σ' H' f' g v r a n (st.trans s) (kp.trans k)
def tS (K : PySem.W.Frag) (io : List Nat) (run : Env → Option (Fl × Env)) : TS := fun D σ H => ∃ env f fl env', RelE K H env σ f ∧ f.Nodup ∧ run env = some (fl, env') ∧ Out K io D H f σ env' fl
section
variable {T : Tab} {N : List Str} {k : Nat}
def SnS (T : Tab) (N : List Str) (k : Nat) (c : CS) : Prop := ∀ {X : Cx} {sc : Scope} {io : List Nat} {st : Stmt}, Ctx T N k X sc true io → sc.kind = .function → mS T N sc io c st = true → PS X st (tS X.K io (exS (call T k) T.con c))
def SnB (T : Tab) (N : List Str) (k : Nat) (c : CB) : Prop := ∀ {X : Cx} {sc : Scope} {io : List Nat} {st : List Stmt}, Ctx T N k X sc true io → sc.kind = .function → mB T N sc io c st = true → PSs X st (tS X.K io (exB (call T k) T.con c))
theorem tS_eq {K : PySem.W.Frag} {io : List Nat} {r r' : Env → Option (Fl × Env)} (h : ∀ env, r env = r' env) {D : Ends} {σ : L2.St} {H : Hp} (q : tS K io r D σ H) : tS K io r' D σ H := by
  have : r = r' := funext h
  rw [← this]
  exact q
theorem kp_set {io : List Nat} {σ : L2.St} {i : Nat} {x : Option V} (h : io.contains i = false) : Kp io σ (σ.set i x) := fun j hj => by
  have hi : ¬ i ∈ io := by simpa using h
  exact List.getElem?_set_ne (show i ≠ j from fun z => hi (by rw [z]; exact hj))
/-- a value given to a name -/
theorem t_asg {K : PySem.W.Frag} {io : List Nat} {ev : Env → Option (Va × Env)} {i : Nat} {D : Ends} {σ : L2.St} {H : Hp} (hio : io.contains i = false)
    (h : tS K io (fun env => bnd (ev env) fun w e1 => some (.nx, e1.set i (some w))) D σ H) : tG K (RV_ K) ev σ H fun x H1 => gName i x σ H1 D.nx := by
  obtain ⟨env, f, fl, env', rel, nd, e, o⟩ := h
  obtain ⟨w, e1, h1, h2⟩ := bnd_eq e
  cases h2
  refine ⟨env, f, w, e1, rel, nd, h1, fun v H1 f1 g rel1 r1 nd1 st1 => ?_⟩
  obtain ⟨f2, rel2, nd2, sub2⟩ := RelE.asg (i := i) rel1 r1 nd1
  exact o _ H1 f2 rel2 nd2 (st1.sub sub2) (kp_set hio)
theorem s_asg {i : Nat} {e : CE} : SnS T N k (.asg i e) := by
  intro X sc io st C hk h
  simp only [mS] at h
  split at h
  · rename_i t v hv
    simp only [Bool.and_eq_true, Bool.or_eq_true] at h
    obtain ⟨⟨h1, h2⟩, h3⟩ := h
    obtain ⟨p, rfl⟩ := vAsg_of hv
    obtain ⟨x, px, rfl, hg, hN, hl, hf, hio⟩ := tgn_of C h1
    have hNX : X.N[i]? = some x := by rw [C.n]; exact hN
    have hnd : X.N.Nodup := by rw [C.n]; exact C.nd
    rcases h3 with h3 | h3
    · exact PS.imp (ps_set hnd hNX hl (snE T N k e C h2).1 (plain_sw h3 _ _ _) hf) fun D σ H q => t_asg hio (tS_eq (fun env => by rw [exS]) q)
    · obtain ⟨hc, h3⟩ := h3
      simp only [vNm, Bool.or_eq_true, decide_eq_true_eq] at h3
      rcases h3 with h3 | h3
      · exact PS.imp (ps_set hnd hNX hl (snE T N k e C h2).1 (sw_cell (by rw [C.sc]; exact h3) _ _ _) hf) fun D σ H q => t_asg hio (tS_eq (fun env => by rw [exS]) q)
      cases e with
      | comp own tg it cs el =>
        simp only [mE] at h2
        split at h2
        · rename_i elt tgx iter ifs scope hv'
          simp only [Bool.and_eq_true] at h2
          obtain ⟨⟨⟨⟨⟨⟨⟨g1, g2⟩, g3⟩, g4⟩, g5⟩, g6⟩, g7⟩, g8⟩ := h2
          obtain ⟨p', rfl⟩ := vComp_of hv'
          have ok : BlkOk X.N X.env.scope scope own := by
            rw [C.n, C.sc]
            exact blkOk_by g2
          simp only [swB, Bool.and_eq_true, Bool.not_eq_true', decide_eq_true_eq] at h3
          obtain ⟨⟨⟨_, a2⟩, a3⟩, a4⟩ := h3
          have hyl : X.env.scope.names.lookup x = some .local := by rw [C.sc]; exact a2
          refine PS.imp (ps_setLc (wi := tI X.K (evI (call T k) T.con it)) (g := gT X.K tg) (tt := tG X.K RB_ (evCs (call T k) T.con cs)) (te := tG X.K (RD_ X.K) (fopn el (evE (call T k) T.con el))) C.calm hnd hNX hyl
            (sw_true (by rw [C.sc]; exact hk) hyl a3 a4) (snI T N k it C g6) ok
            (fun s H A cl fp => tgt_of (io' := []) (ctx_blk C s H scope cl A fp) g5)
            (fun s H A cl fp => (snL T N k cs (ctx_blk (io' := []) C s H scope cl A fp) g7).2.2.2 g4)
            (fun s H A cl fp => fz_of (ctx_blk (io' := []) C s H scope cl A fp) g8 (snE T N k el)) (plain_fold g1 X.env)) fun D σ H q => ?_
          have q2 := t_asg (ev := evE (call T k) T.con (.comp own tg it cs el)) hio (tS_eq (fun env => by rw [exS]) q)
          exact tG_lc (X := X) g3 q2
        · cases h2
      | _ => simp [isCmp] at hc
  · cases h
theorem tgt_io {X : Cx} {sc : Scope} {top : Bool} {io io' : List Nat} {tg : Tg} {e : Expr} (C : Ctx T N k X sc top io') (h : tgtB N top sc io tg e = true) : ∀ i ∈ tgL tg, i ∉ io := by
  cases tg with
  | one i =>
    intro j hj
    simp only [tgL, List.mem_singleton] at hj
    subst hj
    obtain ⟨_, _, _, _, _, _, _, z⟩ := tgn_of C (show tgB N top sc io j e = true from h)
    simpa using z
  | many is =>
    simp only [tgtB] at h
    split at h
    · rename_i es hv
      have key : ∀ {is : List Nat} {es : List Expr}, tgsB N top sc io is es = true → ∀ i ∈ is, i ∉ io := by
        intro is
        induction is with
        | nil => intro es _ i hi; cases hi
        | cons j js ih =>
          intro es hh i hi
          cases es with
          | nil => simp [tgsB] at hh
          | cons e es =>
            simp only [tgsB, Bool.and_eq_true] at hh
            rcases List.mem_cons.mp hi with rfl | hi
            · obtain ⟨_, _, _, _, _, _, _, z⟩ := tgn_of C hh.1
              simpa using z
            · exact ih hh.2 i hi
      exact key h
    · cases h
theorem s_asgT {is : List Nat} {e : CE} : SnS T N k (.asgT is e) := by
  intro X sc io st C hk h
  simp only [mS] at h
  split at h
  · rename_i t v hv
    simp only [Bool.and_eq_true] at h
    obtain ⟨⟨⟨h0, h1⟩, h2⟩, h3⟩ := h
    obtain ⟨p, rfl⟩ := vAsg_of hv
    split at h0
    · rename_i es hes
      obtain ⟨n, px, rfl⟩ := vTup_of hes
      have hg := tgt_of C h1
      have hio : ∀ i ∈ is, i ∉ io := tgt_io C h1
      refine PS.imp (ps_asg (fz_of C h2 (snE T N k e)) hg (plain_sws (plainA_C h3) _ _ _) (plain_ss h3 _)) fun D σ H q => ?_
      obtain ⟨env, f, fl, env', rel, nd, e0, o⟩ := q
      rw [exS] at e0
      obtain ⟨x, e1, g1, g2⟩ := bnd_eq e0
      simp only [Option.map_eq_some_iff] at g2
      obtain ⟨e2, g3, g4⟩ := g2
      cases g4
      refine ⟨env, f, x, e1, rel, nd, g1, fun xv H1 f1 g rel1 r1 nd1 st1 => ?_⟩
      obtain ⟨rfl, r1⟩ := r1
      refine tg_ok g3 r1 rel1 nd1 fun σ2 f2 rel2 nd2 sub2 _ keep => ?_
      exact o σ2 H1 f2 rel2 nd2 (st1.sub sub2) fun j hj => keep j fun z => hio j z hj
    · cases h0
  · cases h
theorem s_expr {e : CE} : SnS T N k (.expr e) := by
  intro X sc io st C hk h
  simp only [mS] at h
  split at h
  · rename_i v hv
    simp only [Bool.and_eq_true] at h
    obtain ⟨p, rfl⟩ := vExp_of hv
    refine PS.imp (ps_expr (snE T N k e C h.1).1 (plain_sw h.2 _ _ _)) fun D σ H q => ?_
    obtain ⟨env, f, fl, env', rel, nd, e0, o⟩ := q
    rw [exS] at e0
    obtain ⟨x, e1, g1, g2⟩ := bnd_eq e0
    cases g2
    exact ⟨env, f, x, _, rel, nd, g1, fun xv H1 f1 g rel1 r1 nd1 st1 => o σ H1 f1 rel1 (nodup_app.mp nd1).2.1 (st1.sub fun a ha => List.mem_append_right _ ha) (Kp.refl _ _)⟩
  · cases h
theorem mth_of {X : Cx} {sc : Scope} {top : Bool} {io : List Nat} {i : Nat} {m : String} {e : Expr} {xs : List Expr} (C : Ctx T N k X sc top io) (h : mthB N sc i m e = some xs) :
    ∃ x p1 p2 q, e = .Call (.Attribute (.Name x p1) (m : Str) p2) xs [] q ∧ (p2.endLine == q.line) = true ∧ PE X (.Name x p1) (tVar i) := by
  unfold mthB at h
  split at h
  · rename_i o nm ys hv
    split at h
    · rename_i x hx
      split at h
      · rename_i hc
        simp only [Option.some.injEq] at h
        subst h
        simp only [Bool.and_eq_true, decide_eq_true_eq] at hc
        obtain ⟨⟨⟨rfl, c2⟩, c3⟩, c4⟩ := hc
        obtain ⟨p, q, rfl, hline⟩ := vCallA_of hv
        obtain ⟨p1, rfl⟩ := vName_of hx
        obtain ⟨y, p3, e1, h1, _⟩ := var_of (T := T) (k := k) (e := .Name x p1) C (i := i) (by simp only [mE, vName]; simp [c2, c3, c4])
        cases e1
        exact ⟨x, p1, p, q, rfl, hline, h1⟩
      · cases h
    · cases h
  · cases h
theorem few1 {X : Cx} {x : Expr} {q : Pos} (hp : plainX x = true) : ((backTo q (starEach [x] X.env)).all (fun x => !x.1) && (backToKw q (keywordEach [] X.env)).all (fun x => x.1.isSome)
      && decide ([x].length + ([] : List Keyword).length + (if ([] : List Keyword).isEmpty then 0 else 1) < 30)) = true := by
  rw [back_all (fun y hy => by rw [List.mem_singleton] at hy; rw [hy]; exact hp)]
  rfl
theorem ls_at {K : PySem.W.Frag} {H : Hp} {env : Env} {σ : L2.St} {f : List Addr} {i : Nat} (rel : RelE K H env σ f) (h : lsAt env i = true) : ∃ a vs, σ[i]? = some (some (.ref a)) ∧ H a = some (.lst vs) := by
  unfold lsAt at h
  split at h
  · rename_i xs hs
    obtain ⟨v, g, h', k1, k2, k3, k4⟩ := rel.out hs
    obtain ⟨a, vs, rfl, rfl, hH, r⟩ := k2
    exact ⟨a, vs, k1, hH⟩
  · cases h
theorem s_app {i : Nat} {e : CE} : SnS T N k (.app i e) := by
  intro X sc io st C hk h
  simp only [mS] at h
  split at h
  · rename_i v hv
    split at h
    · rename_i x hm
      simp only [Bool.and_eq_true] at h
      obtain ⟨p, rfl⟩ := vExp_of hv
      obtain ⟨y, p1, p2, q, rfl, hline, h1⟩ := mth_of C hm
      have hst : starEach [x] X.env = (false, eval x X.env) :: starEach [] X.env := plain_star h.1
      refine PS.imp (ps_expr (pe_bm PySem.F.plainAttrs_list PySem.F.slot_list_append PySem.F.type_list_append mt_append h1 (pa_cons (fz_of C h.2 (snE T N k e)) pa_nil hst) rfl (few1 h.1) hline hst rfl) (plain_sw rfl _ _ _)) fun D σ H q => ?_
      obtain ⟨env, f, fl, env', rel, nd, e0, o⟩ := q
      rw [exS] at e0
      split at e0
      · rename_i hls
        obtain ⟨d, e1, g1, g2⟩ := bnd_eq e0
        obtain ⟨a, vs0, hsa, hHa⟩ := ls_at rel hls
        refine ⟨.ref a, hsa, .inl ⟨rfl, vs0, .inl (.inl hHa)⟩, env, f, d, e1, rel, nd, g1, fun xv H1 f1 g rel1 r1 nd1 st1 => ?_⟩
        obtain ⟨rfl, r1⟩ := r1
        unfold appS at g2
        split at g2
        · rename_i ys hs
          split at g2
          · rename_i hz
            cases g2
            obtain ⟨v, g, h', k1, k2, k3, k4⟩ := rel1.out hs
            obtain ⟨a', vs, rfl, rfl, hH, r⟩ := k2
            rw [hsa] at k1
            cases k1
            have hl := r.len
            have nd' := k4.nodup_iff.mp nd1
            have na : a ∉ h' := (List.nodup_cons.mp nd').1
            have hF : Fz1 (.lst vs) := .inl ⟨_, rfl⟩
            refine ⟨a, vs, xv, rfl, rfl, hH, by rw [hl, sizeLine_eq]; exact hz, ?_⟩
            refine o σ _ ([a] ++ h') ?_ (by simpa using nd') ((st1.trans (stp_upd (show a ∈ f1 from k4.mem_iff.mpr (by simp)) hH hF)).sub fun b hb => k4.mem_iff.mpr (by simpa using hb)) (Kp.refl _ _)
            exact RelE.put (k3.keep (fun b hb => upd_ne fun z => na (z ▸ hb)) (ext_upd hH hF)) hsa ⟨a, _, rfl, rfl, upd_same, (r.append (.cons r1 .nil)).ext (ext_upd hH hF)⟩
          · cases g2
        · cases g2
      · cases e0
    · cases h
  · cases h
theorem s_ext {i : Nat} {e : CE} : SnS T N k (.ext i e) := by
  intro X sc io st C hk h
  simp only [mS] at h
  split at h
  · rename_i v hv
    split at h
    · rename_i x hm
      simp only [Bool.and_eq_true] at h
      obtain ⟨p, rfl⟩ := vExp_of hv
      obtain ⟨y, p1, p2, q, rfl, hline, h1⟩ := mth_of C hm
      have hst : starEach [x] X.env = (false, eval x X.env) :: starEach [] X.env := plain_star h.1
      refine PS.imp (ps_expr (pe_bm PySem.F.plainAttrs_list PySem.F.slot_list_extend PySem.F.type_list_extend (MtM.or mt_extend mt_extT) h1 (pa_cons (op_of C h.2 (snE T N k e)) pa_nil hst) rfl (few1 h.1) hline hst rfl) (plain_sw rfl _ _ _)) fun D σ H q => ?_
      obtain ⟨env, f, fl, env', rel, nd, e0, o⟩ := q
      rw [exS] at e0
      split at e0
      · rename_i hls
        obtain ⟨pv, e1, g1, g2⟩ := bnd_eq e0
        simp only [Option.bind_eq_some_iff] at g2
        obtain ⟨y, hy, g2⟩ := g2
        obtain ⟨a, vs0, hsa, hHa⟩ := ls_at rel hls
        refine ⟨.ref a, hsa, .inl ⟨rfl, vs0, .inl (.inl hHa)⟩, env, f, pv, e1, rel, nd, g1, fun xv H1 f1 g rel1 r1 nd1 st1 => ?_⟩
        obtain ⟨ga, hga⟩ := r1.res rel1 hy
        unfold extS at g2
        split at g2
        · rename_i ys hs
          split at g2
          · rename_i zs
            split at g2
            · rename_i hz
              cases g2
              obtain ⟨b, ws, rfl, rfl, hHb, rb⟩ := hga
              have nd1' := (nodup_app.mp nd1).2.1
              obtain ⟨v, g', h', k1, k2, k3, k4⟩ := rel1.out hs
              obtain ⟨a', vs, rfl, rfl, hH, r⟩ := k2
              rw [hsa] at k1
              cases k1
              have hl := r.len
              have hl2 := rb.len
              have nd' := k4.nodup_iff.mp nd1'
              have na : a ∉ h' := (List.nodup_cons.mp nd').1
              have hF : Fz1 (.lst vs) := .inl ⟨_, rfl⟩
              refine .inl ⟨a, b, vs, ws, rfl, rfl, hH, hHb, by rw [hl, hl2, sizeLine_eq]; exact hz, ?_⟩
              refine o σ _ ([a] ++ h') ?_ (by simpa using nd') (((st1.sub fun c hc => List.mem_append_right _ hc).trans (stp_upd (show a ∈ f1 from k4.mem_iff.mpr (by simp)) hH hF)).sub fun b hb => k4.mem_iff.mpr (by simpa using hb)) (Kp.refl _ _)
              exact RelE.put (k3.keep (fun b hb => upd_ne fun z => na (z ▸ hb)) (ext_upd hH hF)) hsa ⟨a, _, rfl, rfl, upd_same, (r.append rb).ext (ext_upd hH hF)⟩
            · cases g2
          · rename_i zs
            split at g2
            · rename_i hz
              cases g2
              obtain ⟨rfl, hga⟩ := hga
              simp only [RepD] at hga
              obtain ⟨b, ws, rfl, hHb, rb⟩ := hga
              have nd1' := (nodup_app.mp nd1).2.1
              obtain ⟨v, g', h', k1, k2, k3, k4⟩ := rel1.out hs
              obtain ⟨a', vs, rfl, rfl, hH, r⟩ := k2
              rw [hsa] at k1
              cases k1
              have hl := r.len
              have hl2 := rb.len
              have nd' := k4.nodup_iff.mp nd1'
              have na : a ∉ h' := (List.nodup_cons.mp nd').1
              have hF : Fz1 (.lst vs) := .inl ⟨_, rfl⟩
              refine .inr ⟨a, b, vs, ws, rfl, rfl, hH, hHb.sq, by rw [hl, hl2, sizeLine_eq]; exact hz, ?_⟩
              refine o σ _ ([a] ++ h') ?_ (by simpa using nd') (((st1.sub fun c hc => List.mem_append_right _ hc).trans (stp_upd (show a ∈ f1 from k4.mem_iff.mpr (by simp)) hH hF)).sub fun b hb => k4.mem_iff.mpr (by simpa using hb)) (Kp.refl _ _)
              exact RelE.put (k3.keep (fun b hb => upd_ne fun z => na (z ▸ hb)) (ext_upd hH hF)) hsa ⟨a, _, rfl, rfl, upd_same, (r.append rb).ext (ext_upd hH hF)⟩
            · cases g2
          · cases g2
        · cases g2
      · cases e0
    · cases h
  · cases h
/-- x[k] = e: the name's slot, the key -/
theorem s_setI {i : Nat} {kx e : CE} : SnS T N k (.setI i kx e) := by
  intro X sc io st C hk h
  simp only [mS] at h
  split at h
  · rename_i t v hv
    split at h
    · rename_i ob j hsb
      simp only [Bool.and_eq_true] at h
      obtain ⟨⟨⟨⟨h1, h2⟩, h3⟩, h4⟩, h5⟩ := h
      obtain ⟨p, rfl⟩ := vAsg_of hv
      obtain ⟨p2, rfl⟩ := vSub_of hsb
      split at h1
      · rename_i x hx
        obtain ⟨px, rfl⟩ := vName_of hx
        obtain ⟨y, p3, e1, hvar, _⟩ := var_of (T := T) (k := k) (e := .Name x px) C (i := i) (by simp only [mE, vName]; simpa using h1)
        cases e1
        have hL := ps_asg (pos := p) (fz_of C h4 (snE T N k e)) (pg_sub (pos := p2) hvar (op_of C h3 (snE T N k kx)) set_list (plain_asg h2)) (plain_sws h5 _ _ _) (by cases v <;> rfl) (by rfl)
        have hD := ps_dput (pos := p) (pos' := p2) (by have := C.hu; omega) hvar (op_of C h3 (snE T N k kx)) (fz_of C h4 (snE T N k e)) (plain_sw h5 _ _ _)
        refine ⟨fun pins s σ H D I q => ?_⟩
        obtain ⟨env, f, fl, env', rel, nd, e0, o⟩ := q
        rw [exS] at e0
        obtain ⟨d, e1, g1, g2⟩ := bnd_eq e0
        split at g2
        · cases g2
        rename_i hsome
        obtain ⟨w0, hw0⟩ : ∃ w0, getS e1 i = some w0 := by
          cases hh : getS e1 i with
          | none => rw [hh] at hsome; simp at hsome
          | some w0 => exact ⟨w0, rfl⟩
        obtain ⟨pv, e2, g3, g4⟩ := bnd_eq g2
        simp only [Option.bind_eq_some_iff] at g4
        obtain ⟨kw, hkw, g5⟩ := g4
        unfold setIS at g5
        split at g5
        · rename_i xs n hs
          simp only [Option.map_eq_some_iff] at g5
          obtain ⟨m, hm, g6⟩ := g5
          cases g6
          refine hL.run pins s σ H D I ⟨env, f, d, e1, rel, nd, g1, fun dv H1 f1 g rel1 r1 nd1 st1 => ?_⟩
          obtain ⟨rfl, r1⟩ := r1
          obtain ⟨v0, _, _, hv0, _⟩ := rel1.out hw0
          refine ⟨v0, hv0, e1, f1, pv, e2, rel1, nd1, g3, fun kv H2 f2 g rel2 r2 nd2 st2 => ?_⟩
          obtain ⟨gk, hgk⟩ := r2.res rel2 hkw
          have ek := hgk.2
          simp only [RepD] at ek
          subst ek
          have nd2' := (nodup_app.mp nd2).2.1
          obtain ⟨v, g', h', k1, k2, k3, k4⟩ := rel2.out hs
          obtain ⟨a, vs, rfl, rfl, hH, r⟩ := k2
          rw [hv0] at k1
          cases k1
          have hl := r.len
          have nd' := k4.nodup_iff.mp nd2'
          have na : a ∉ h' := (List.nodup_cons.mp nd').1
          have hF : Fz1 (.lst vs) := .inl ⟨_, rfl⟩
          refine ⟨a, vs, n, m, rfl, rfl, hH, by rw [hl]; exact ixN_eq hm, ?_⟩
          refine o σ _ ([a] ++ h') ?_ (by simpa using nd') (((st1.trans (st2.sub fun c hc => List.mem_append_right _ hc)).trans (stp_upd (show a ∈ f2 from k4.mem_iff.mpr (by simp)) hH hF)).sub fun b hb => k4.mem_iff.mpr (by simpa using hb)) (Kp.refl _ _)
          exact RelE.put (k3.keep (fun b hb => upd_ne fun z => na (z ▸ hb)) (ext_upd hH hF)) hv0 ⟨a, _, rfl, rfl, upd_same, (RepDs.set (r1.ext st2.1) m r).ext (ext_upd hH hF)⟩
        · rename_i kvs z hs
          split at g5
          · rename_i hz
            cases g5
            refine hD.run pins s σ H D I ⟨env, f, d, e1, rel, nd, g1, fun dv H1 f1 g rel1 r1 nd1 st1 => ?_⟩
            obtain ⟨rfl, r1⟩ := r1
            obtain ⟨v0, _, _, hv0, _⟩ := rel1.out hw0
            refine ⟨v0, hv0, e1, f1, pv, e2, rel1, nd1, g3, fun kv H2 f2 g rel2 r2 nd2 st2 => ?_⟩
            obtain ⟨gk, hgk⟩ := r2.res rel2 hkw
            have ek := rep_str hgk
            subst ek
            have nd2' := (nodup_app.mp nd2).2.1
            obtain ⟨v, g', h', k1, k2, k3, k4⟩ := rel2.out hs
            obtain ⟨a, kws, rfl, rfl, hH, rk, r⟩ := k2
            rw [hv0] at k1
            cases k1
            have hl : kws.length = kvs.length := by
              have := congrArg List.length rk
              simpa using this
            have nd' := k4.nodup_iff.mp nd2'
            have na : a ∉ h' := (List.nodup_cons.mp nd').1
            have hF : Fz1 (.dK kws) := .inr ⟨_, rfl⟩
            refine ⟨a, _, rfl, DPut.k (k := Sum.inr (stx z)) hH (by rw [hl, sizeLine_eq]; exact hz), ?_⟩
            refine o σ _ ([a] ++ h') ?_ (by simpa using nd') (((st1.trans (st2.sub fun c hc => List.mem_append_right _ hc)).trans (stp_upd (show a ∈ f2 from k4.mem_iff.mpr (by simp)) hH hF)).sub fun b hb => k4.mem_iff.mpr (by simpa using hb)) (Kp.refl _ _)
            obtain ⟨p1, p2⟩ := put_rep z rk r (r1.ext st2.1)
            exact RelE.put (k3.keep (fun b hb => upd_ne fun z => na (z ▸ hb)) (ext_upd hH hF)) hv0 ⟨a, _, rfl, rfl, upd_same, p1, p2.ext (ext_upd hH hF)⟩
          · cases g5
        · cases g5
      · cases h1
    · cases h
  · cases h
theorem s_aug {i : Nat} {o : Operator} {e : CE} : SnS T N k (.aug i o e) := by
  intro X sc io st C hk h
  simp only [mS] at h
  split at h
  · rename_i t p v hv
    simp only [Bool.and_eq_true, decide_eq_true_eq] at h
    obtain ⟨⟨rfl, h1⟩, h2⟩ := h
    obtain ⟨ps, rfl⟩ := vAug_of hv
    obtain ⟨x, px, rfl, hg, hN, hl, hf, hio⟩ := tgn_of C h1
    have hNX : X.N[i]? = some x := by rw [C.n]; exact hN
    have hnd : X.N.Nodup := by rw [C.n]; exact C.nd
    have key : ∀ {F : Int → Int → Int}, PIp X p (ipI F) → (∀ x y w, augS p x y = some w → ∃ i j, x = .d (.int i) ∧ y = .d (.int j) ∧ w = .d (.int (F i j))) → PS X (.AugAssign (.Name x px) p v ps) (tS X.K io (exS (call T k) T.con (.aug i p e))) := fun {F} hP hF =>
      PS.imp (ps_aug hnd hNX hl (snE T N k e C h2).1 hP hf) fun D σ H q => by
        obtain ⟨env, f, fl, env', rel, nd, e0, o⟩ := q
        rw [exS] at e0
        simp only [Option.bind_eq_some_iff] at e0
        obtain ⟨xv, hx, e0⟩ := e0
        obtain ⟨yv, e1, g1, g2⟩ := bnd_eq e0
        simp only [Option.map_eq_some_iff] at g2
        obtain ⟨w, hw, g3⟩ := g2
        cases g3
        obtain ⟨a, b, rfl, rfl, rfl⟩ := hF _ _ _ hw
        obtain ⟨v0, g0, h0, hv0, r0, _, _⟩ := rel.out hx
        have e0 := r0.2
        simp only [RepD] at e0
        subst e0
        refine ⟨_, hv0, env, f, _, e1, rel, nd, g1, fun yv H1 f1 g rel1 r1 nd1 st1 => ?_⟩
        have ey := r1.2
        have eg : g = [] := r1.1
        simp only [RepD] at ey
        subst ey eg
        refine ⟨a, b, rfl, rfl, ?_⟩
        obtain ⟨f2, rel2, nd2, sub2⟩ := RelE.asg (i := i) rel1 (mk_int (F a b)) nd1
        exact o _ H1 f2 rel2 nd2 (st1.sub sub2) (kp_set hio)
    have int2 : ∀ {x y w : Va}, augS p x y = some w → ∃ i j : Int, x = .d (.int i) ∧ y = .d (.int j) := fun {x y w} h => by
      unfold augS at h
      split at h
      · exact ⟨_, _, rfl, rfl⟩
      · exact ⟨_, _, rfl, rfl⟩
      · cases h
    cases p with
    | Add =>
      refine key ip_add fun x y w h => ?_
      obtain ⟨a, b, rfl, rfl⟩ := int2 h
      cases h
      exact ⟨a, b, rfl, rfl, rfl⟩
    | Sub =>
      refine key ip_sub fun x y w h => ?_
      obtain ⟨a, b, rfl, rfl⟩ := int2 h
      cases h
      exact ⟨a, b, rfl, rfl, rfl⟩
    | _ =>
      refine ⟨fun pins s σ H D I q => ?_⟩
      obtain ⟨env, f, fl, env', rel, nd, e0, o⟩ := q
      rw [exS] at e0
      simp only [Option.bind_eq_some_iff] at e0
      obtain ⟨xv, hx, e0⟩ := e0
      obtain ⟨yv, e1, g1, g2⟩ := bnd_eq e0
      simp [augS] at g2
  · cases h

/-! ### the flow -/
theorem t_test {K : PySem.W.Frag} {io : List Nat} {c : CE} {f1 f2 : Env → Option (Fl × Env)} {D : Ends} {σ : L2.St} {H : Hp}
    (h : tS K io (fun env => bnd (evE (call T k) T.con c env) fun w e => (asB w).bind fun t => if t = true then f1 e else f2 e) D σ H) :
    tG K RB_ (evT (call T k) T.con c) σ H fun b H1 => if b = true then tS K io f1 D σ H1 else tS K io f2 D σ H1 := by
  obtain ⟨env, f, fl, env', rel, nd, e0, o⟩ := h
  obtain ⟨w, e1, g1, g2⟩ := bnd_eq e0
  simp only [Option.bind_eq_some_iff] at g2
  obtain ⟨t, g3, g4⟩ := g2
  refine ⟨env, f, t, e1, rel, nd, by unfold evT; rw [g1]; simp [g3], fun b H1 f1' g rel1 r1 nd1 st1 => ?_⟩
  obtain ⟨rfl, rfl⟩ := r1
  cases b with
  | true =>
    rw [if_pos rfl] at g4 ⊢
    exact ⟨e1, f1', fl, env', rel1, nd1, g4, o.from st1 (Kp.refl _ _)⟩
  | false =>
    rw [if_neg Bool.false_ne_true] at g4 ⊢
    exact ⟨e1, f1', fl, env', rel1, nd1, g4, o.from st1 (Kp.refl _ _)⟩
theorem s_ite {c : CE} {a b : CB} (sa : SnB T N k a) (sb : SnB T N k b) : SnS T N k (.ite c a b) := by
  intro X sc io st C hk h
  simp only [mS] at h
  split at h
  · rename_i d x y hv
    simp only [Bool.and_eq_true] at h
    obtain ⟨⟨⟨h1, h2⟩, h3⟩, h4⟩ := h
    obtain ⟨p, rfl⟩ := vIfS_of hv
    exact PS.imp (ps_if ((snE T N k c C h2).2 h1) (sa C hk h3) (sb C hk h4)) fun D σ H q => t_test (tS_eq (fun env => by rw [exS]) q)
  · cases h
theorem s_whl {c : CE} {b : CB} (sb : SnB T N k b) : SnS T N k (.whl c b) := by
  intro X sc io st C hk h
  simp only [mS] at h
  split at h
  · rename_i d x hv
    simp only [Bool.and_eq_true] at h
    obtain ⟨⟨h1, h2⟩, h3⟩ := h
    obtain ⟨p, rfl⟩ := vWhl_of hv
    refine PS.imp (ps_while (by rw [C.xe]; exact PassesOwn.never) ((snE T N k c C h2).2 h1) (sb C hk h3)) fun D σ H q => ?_
    obtain ⟨env, f, fl, env', rel, nd, e0, o⟩ := q
    rw [exS] at e0
    unfold whl at e0
    split at e0
    · rename_i hex
      let R : Nat → L2.St → Hp → Prop := fun m σ1 H1 => ∃ env1 f1, RelE X.K H1 env1 σ1 f1 ∧ f1.Nodup ∧ whlN (evE (call T k) T.con c) (exB (call T k) T.con b) m env1 = some (fl, env') ∧ Out X.K io D H1 f1 σ1 env' fl
      refine ⟨R, ⟨hex.choose, env, f, rel, nd, e0, o⟩, ?_⟩
      rintro m σ1 H1 ⟨env1, f1, rel1, nd1, w1, o1⟩
      cases m with
      | zero => simp [whlN] at w1
      | succ m =>
        unfold whlN at w1
        obtain ⟨w, e2, g1, g2⟩ := bnd_eq w1
        simp only [Option.bind_eq_some_iff] at g2
        obtain ⟨t, g3, g4⟩ := g2
        refine ⟨env1, f1, t, e2, rel1, nd1, by unfold evT; rw [g1]; simp [g3], fun bb H2 f2 g rel2 r2 nd2 st2 => ?_⟩
        obtain ⟨rfl, rfl⟩ := r2
        have o2 := o1.from st2 (Kp.refl _ _)
        cases bb with
        | false =>
          rw [if_neg Bool.false_ne_true] at g4 ⊢
          cases g4
          exact o2 _ _ f2 rel2 nd2 (Stp.refl _ _) (Kp.refl _ _)
        | true =>
          rw [if_pos rfl] at g4 ⊢
          obtain ⟨fl2, e3, g5, g6⟩ := bnd_eq g4
          refine ⟨R m, fun σ' H' hr => ⟨m, Nat.lt_succ_self m, hr⟩, e2, f2, fl2, e3, rel2, nd2, g5, ?_⟩
          cases fl2 with
          | nx => exact fun σ' H' f' r n s kk => ⟨e3, f', r, n, g6, o2.from s kk⟩
          | ct => exact fun σ' H' f' r n s kk => ⟨e3, f', r, n, g6, o2.from s kk⟩
          | bk =>
            cases g6
            exact o2
          | rt w =>
            cases g6
            exact o2
    · cases e0
  · cases h
theorem s_for {tg : Tg} {it : CI} {b : CB} (sb : SnB T N k b) : SnS T N k (.for_ tg it b) := by
  intro X sc io st C hk h
  simp only [mS] at h
  split at h
  · rename_i t i x hv
    simp only [Bool.and_eq_true] at h
    obtain ⟨⟨⟨h1, h2⟩, h3⟩, h4⟩ := h
    obtain ⟨p, rfl⟩ := vFor_of hv
    have hio := tgt_io C h2
    refine PS.imp (ps_for (by rw [C.xe]; exact PassesOwn.never) C.calm (snI T N k it C h3) (tgt_of C h2) (sb C hk h4) (plain_fold h1 X.env)) fun D σ H q => ?_
    obtain ⟨env, f, fl, env', rel, nd, e0, o⟩ := q
    rw [exS] at e0
    obtain ⟨xs, e1, g1, g2⟩ := bnd_eq e0
    refine ⟨env, f, xs, e1, rel, nd, g1, fun J H1 f1 rel1 nd1 st1 wk => ?_⟩
    generalize hb : (fun (x : Mn.D) (e : Env) => (tgS tg x e).bind fun e2 => exB (call T k) T.con b e2) = turn at g2
    let R : Nat → L2.St → Hp → Prop := fun i σ2 H2 => Ext H1 H2 ∧ ∃ env2 f2, RelE X.K H2 env2 σ2 f2 ∧ f2.Nodup ∧ forL turn (xs.drop i) env2 = some (fl, env') ∧ Out X.K io D H2 f2 σ2 env' fl ∧ i ≤ xs.length
    refine ⟨fun i m σ2 H2 => m = xs.length - i ∧ R i σ2 H2, ⟨_, rfl, Ext.refl _, e1, f1, rel1, nd1, by rw [List.drop_zero]; exact g2, o.from st1 (Kp.refl _ _), Nat.zero_le _⟩, ?_⟩
    rintro i m σ2 H2 ⟨rfl, hx, env2, f2, rel2, nd2, w2, o2, hi⟩
    obtain ⟨wk1, wk2⟩ := wk H2 hx
    by_cases hlt : i < xs.length
    · obtain ⟨go, yld⟩ := wk1 i hlt
      refine .inr ⟨go, R (i + 1), fun σ' H' hr => ⟨xs.length - (i + 1), by omega, rfl, hr⟩, fun v H3 hy => ?_⟩
      obtain ⟨y, hyi, ry, nw⟩ := yld v H3 hy
      rw [drop_cons hyi] at w2
      unfold forL at w2
      obtain ⟨fl2, e3, c1, c2⟩ := bnd_eq w2
      rw [← hb] at c1
      simp only [Option.bind_eq_some_iff] at c1
      obtain ⟨e4, c3, c4⟩ := c1
      have rel3 : RelE X.K H3 env2 σ2 f2 := rel2.keep (fun a ha => nw.at_ (rel2.trk a ha)) nw.ext
      have st3 : Stp H2 f2 H3 f2 := by
        have := (nw.stp (fun a ha => rel2.trk a ha) nd2).2
        simpa using this
      refine tg_ok c3 ry rel3 nd2 fun σ4 f4 rel4 nd4 sub4 _ keep => ⟨e4, f4, fl2, e3, rel4, nd4, c4, ?_⟩
      have kp4 : Kp io σ2 σ4 := fun j hj => keep j fun z => hio j z hj
      have o4 := o2.from (st3.sub sub4) kp4
      cases fl2 with
      | nx => exact fun σ' H' f' r n s kk => ⟨hx.trans (nw.ext.trans s.1), e3, f', r, n, c2, o4.from s kk, hlt⟩
      | ct => exact fun σ' H' f' r n s kk => ⟨hx.trans (nw.ext.trans s.1), e3, f', r, n, c2, o4.from s kk, hlt⟩
      | bk =>
        cases c2
        exact o4
      | rt w =>
        cases c2
        exact o4
    · refine .inl ⟨wk2 i (by omega), ?_⟩
      rw [List.drop_eq_nil_of_le (by omega)] at w2
      unfold forL at w2
      cases w2
      exact o2 _ _ f2 rel2 nd2 (Stp.refl _ _) (Kp.refl _ _)
  · cases h
theorem s_ret {e : CE} : SnS T N k (.ret e) := by
  intro X sc io st C hk h
  simp only [mS] at h
  split at h
  · rename_i v hv
    obtain ⟨p, rfl⟩ := vRet_of hv
    refine PS.imp (ps_ret (snE T N k e C h).1) fun D σ H q => ?_
    obtain ⟨env, f, fl, env', rel, nd, e0, o⟩ := q
    rw [exS] at e0
    obtain ⟨w, e1, g1, g2⟩ := bnd_eq e0
    cases g2
    exact ⟨env, f, w, _, rel, nd, g1, fun v H1 f1 g rel1 r1 nd1 st1 => o σ H1 f1 g v rel1 r1 nd1 st1 (Kp.refl _ _)⟩
  · cases h
theorem s_retN : SnS T N k .retN := by
  intro X sc io st C hk h
  simp only [mS] at h
  split at h
  · rename_i hv
    obtain ⟨p, rfl⟩ := vRet_of hv
    refine PS.imp ps_retN fun D σ H q => ?_
    obtain ⟨env, f, fl, env', rel, nd, e0, o⟩ := q
    rw [exS] at e0
    cases e0
    exact o σ H f [] .non rel mk_non (by simpa using nd) (Stp.refl _ _) (Kp.refl _ _)
  · cases h
theorem t_end {K : PySem.W.Frag} {io : List Nat} {fl : Fl} {D : Ends} {σ : L2.St} {H : Hp} (h : tS K io (fun env => some (fl, env)) D σ H) : ∃ env f, RelE K H env σ f ∧ f.Nodup ∧ Out K io D H f σ env fl := by
  obtain ⟨env, f, fl, env', rel, nd, e0, o⟩ := h
  cases e0
  exact ⟨env, f, rel, nd, o⟩
theorem s_brk : SnS T N k .brk := by
  intro X sc io st C hk h
  cases st <;> simp [mS, brkB] at h
  refine PS.imp ps_break fun D σ H q => ?_
  obtain ⟨env, f, rel, nd, o⟩ := t_end (fl := .bk) (tS_eq (fun env => by rw [exS]) q)
  exact o σ H f rel nd (Stp.refl _ _) (Kp.refl _ _)
theorem s_cnt : SnS T N k .cnt := by
  intro X sc io st C hk h
  cases st <;> simp [mS, cntB] at h
  refine PS.imp ps_continue fun D σ H q => ?_
  obtain ⟨env, f, rel, nd, o⟩ := t_end (fl := .ct) (tS_eq (fun env => by rw [exS]) q)
  exact o σ H f rel nd (Stp.refl _ _) (Kp.refl _ _)
theorem s_pass : SnS T N k .pass := by
  intro X sc io st C hk h
  cases st <;> simp [mS, passB] at h
  refine PS.imp ps_pass fun D σ H q => ?_
  obtain ⟨env, f, rel, nd, o⟩ := t_end (fl := .nx) (tS_eq (fun env => by rw [exS]) q)
  exact o σ H f rel nd (Stp.refl _ _) (Kp.refl _ _)
theorem par_ss {x y a b : Str} {px py pa pb pt pt2 : Pos} {kt k2 : Nat} {env : PySem.Env} (hx : env.scope.names.lookup x = some .local) (hy : env.scope.names.lookup y = some .local) (hk : env.blockKind = .function) (hl : px.line = py.line) (hxy : x ≠ y) (hd : (a == ("__debug__" : Str)) = false) :
    swappedStores [.Tuple [.Name x px, .Name y py] kt pt] (.Tuple [.Name a pa, .Name b pb] k2 pt2) env = pure (some [x, y]) := by
  have k1 : (env.kindOf x == some .local) = true := by unfold PySem.Env.kindOf; rw [hx]; rfl
  have k2' : (env.kindOf y == some .local) = true := by unfold PySem.Env.kindOf; rw [hy]; rfl
  have e2 : (y == x) = false := by simpa using fun z => hxy z.symm
  have ed : ([x, y] : List Str).eraseDups = [x, y] := by
    rw [List.eraseDups_cons]
    simp [List.filter, e2, hxy, List.eraseDups_cons]
  unfold swappedStores
  dsimp only [Expr.pos, List.head?, Option.map, Option.getD, List.any, List.all, List.length, foldedForSure, constantsAlone]
  simp only [List.filterMap, k1, k2', hl, beq_self_eq_true, Bool.and_self, if_true, hk, ed, hd]
  rfl
theorem s_upd {i : Nat} {e : CE} : SnS T N k (.upd i e) := by
  intro X sc io st C hk h
  simp only [mS] at h
  split at h
  · rename_i v hv
    split at h
    · rename_i x hm
      simp only [Bool.and_eq_true] at h
      obtain ⟨p, rfl⟩ := vExp_of hv
      obtain ⟨y, p1, p2, q, rfl, hline, h1⟩ := mth_of C hm
      have hst : starEach [x] X.env = (false, eval x X.env) :: starEach [] X.env := plain_star h.1
      refine PS.imp (ps_expr (pe_bm PySem.F.plainAttrs_dict PySem.F.slot_dict_update PySem.F.type_dict_update mt_dupdK h1 (pa_cons (snE T N k e C h.2).1 pa_nil hst) rfl (few1 h.1) hline hst rfl) (plain_sw rfl _ _ _)) fun D σ H q => ?_
      obtain ⟨env, f, fl, env', rel, nd, e0, o⟩ := q
      rw [exS] at e0
      split at e0
      · rename_i hdc
        obtain ⟨w, e1, g1, g2⟩ := bnd_eq e0
        obtain ⟨l, kw0, hsa, hHa⟩ := dc_at' rel hdc
        refine ⟨.ref l, hsa, .inr (.inr (.inl ⟨rfl, .inl ⟨_, hHa⟩⟩)), env, f, w, e1, rel, nd, g1, fun xv H1 f1 g rel1 r1 nd1 st1 => ?_⟩
        unfold updS at g2
        split at g2
        · rename_i kvs more hs
          split at g2
          · rename_i hz
            cases g2
            obtain ⟨b, mws, rfl, rfl, hB, rk2, rr2⟩ := r1
            obtain ⟨v, g', h', k1, k2, k3, k4⟩ := rel1.out hs
            obtain ⟨l', kws, rfl, rfl, hH, rk, r⟩ := k2
            rw [hsa] at k1
            cases k1
            obtain ⟨m1, m2, m3⟩ := nodup_app.mp nd1
            have hne : l ≠ b := fun z => m3 b (by simp) (by rw [← z]; exact k4.mem_iff.mpr (by simp))
            have hl1 : kws.length = kvs.length := by
              have := congrArg List.length rk
              simpa using this
            have hl2 : mws.length = more.length := by
              have := congrArg List.length rk2
              simpa using this
            have nd' := k4.nodup_iff.mp m2
            have na : l ∉ h' := (List.nodup_cons.mp nd').1
            have hF : Fz1 (.dK kws) := .inr ⟨_, rfl⟩
            obtain ⟨p1', p2'⟩ := mergeK_rep rk2 rr2 rk r
            refine ⟨l, b, kws, mws, rfl, rfl, hne, hH, hB, by rw [hl1, hl2, ← szL_eq]; exact hz, ?_⟩
            refine o σ _ ([l] ++ h') ?_ (by simpa using nd') (((st1.sub fun c hc => List.mem_append_right _ hc).trans (stp_upd (show l ∈ f1 from k4.mem_iff.mpr (by simp)) hH hF)).sub fun c hc => k4.mem_iff.mpr (by simpa using hc)) (Kp.refl _ _)
            exact RelE.put (k3.keep (fun c hc => upd_ne fun z => na (z ▸ hc)) (ext_upd hH hF)) hsa ⟨l, _, rfl, rfl, upd_same, p1', p2'.ext (ext_upd hH hF)⟩
          · cases g2
        · cases g2
      · cases e0
    · cases h
  · cases h
theorem s_par {i j : Nat} {a b : CE} : SnS T N k (.par i j a b) := by
  intro X sc io st C hk h
  simp only [mS] at h
  split at h
  · cases h
  · rename_i x px y py kt pt a' pa b' pb k2 pt2 hv
    simp only [Bool.and_eq_true, decide_eq_true_eq, Bool.not_eq_true'] at h
    obtain ⟨⟨⟨⟨⟨⟨⟨⟨⟨⟨h1, h2⟩, h3⟩, h4⟩, h5⟩, h6⟩, h6d⟩, h7⟩, h8⟩, h9⟩, h10⟩ := h
    obtain ⟨p, rfl⟩ := vAsg_of hv
    have hN1 : X.N[i]? = some x := by rw [C.n]; exact h1
    have hN2 : X.N[j]? = some y := by rw [C.n]; exact h2
    have hnd : X.N.Nodup := by rw [C.n]; exact C.nd
    have hx : X.env.scope.names.lookup x = some .local := by rw [C.sc]; exact h3
    have hy : X.env.scope.names.lookup y = some .local := by rw [C.sc]; exact h4
    have hxy : x ≠ y := fun z => h5 (nodup_ix hnd hN1 (z ▸ hN2))
    have hbk : X.env.blockKind = .function := by
      unfold PySem.Env.blockKind
      rw [C.sc, hk]
      rfl
    refine PS.imp (ps_par C.calm hnd hN1 hN2 h5 hx hy (pa_cons (fz_of C h9 (snE T N k a)) (pa_cons (fz_of C h10 (snE T N k b)) pa_nil)) (par_ss hx hy hbk h6 hxy h6d)) fun D σ H q => ?_
    obtain ⟨env, f, fl, env', rel, nd, e0, o⟩ := q
    rw [exS] at e0
    obtain ⟨d1, e1, g1, g2⟩ := bnd_eq e0
    obtain ⟨d2, e2, g3, g4⟩ := bnd_eq g2
    cases g4
    refine ⟨env, f, d1, e1, rel, nd, g1, fun v1 H1 f1 g rel1 ra n1 st1 => ?_⟩
    obtain ⟨rfl, ra⟩ := ra
    refine ⟨e1, f1, d2, e2, rel1, by simpa using n1, g3, fun v2 H2 f2 g' rel2 rb n2 st2 => ?_⟩
    obtain ⟨rfl, rb⟩ := rb
    have st12 : Stp H f H2 f2 := (by simpa using st1 : Stp H f H1 f1).trans (by simpa using st2)
    have xext := (by simpa using st2 : Stp H1 f1 H2 f2).1
    obtain ⟨f3, rel3, n3, m3⟩ := RelE.asg (i := i) rel2 (mk_d (ra.ext xext)) (by simpa using n2)
    obtain ⟨f4, rel4, n4, m4⟩ := RelE.asg (i := j) rel3 (mk_d rb) (by simpa using n3)
    refine ⟨v1, v2, rfl, ?_⟩
    exact o _ H2 f4 rel4 n4 (st12.sub fun c hc => by
      have := m4 c hc
      simp only [List.nil_append] at this
      have := m3 c this
      simpa using this) ((kp_set h7).trans (kp_set h8))
  · cases h
theorem s_rse : SnS T N k .rse := by
  intro X sc io st C hk h
  refine ⟨fun pins s σ H D I q => ?_⟩
  obtain ⟨env, f, fl, env', rel, nd, e0, o⟩ := q
  rw [exS] at e0
  cases e0
theorem s_appN {i : Nat} : SnS T N k (.appN i) := by
  intro X sc io st C hk h
  simp only [mS] at h
  split at h
  · rename_i v hv
    split at h
    · rename_i x hm
      obtain ⟨p, rfl⟩ := vExp_of hv
      obtain ⟨y, p1, p2, q, rfl, hline, h1⟩ := mth_of C hm
      obtain ⟨p4, rfl⟩ := lnB_of h
      refine PS.imp (ps_expr (pe_bm PySem.F.plainAttrs_list PySem.F.slot_list_append PySem.F.type_list_append mt_append h1 (pa_cons (pe_lst pa_nil) pa_nil) rfl (few1 rfl) hline rfl rfl) (plain_sw rfl _ _ _)) fun D σ H q => ?_
      obtain ⟨env, f, fl, env', rel, nd, e0, o⟩ := q
      rw [exS] at e0
      unfold appNS at e0
      simp only [Option.bind_eq_some_iff] at e0
      obtain ⟨rows, hr, e0⟩ := e0
      split at e0
      · rename_i hz
        cases e0
        obtain ⟨a, as, h', k1, kH, kR, k3, k4, k5⟩ := ll_out rel nd (llAt_of hr)
        have nw : ∀ pb, H pb = none → New H (upd H pb (.lst [])) [pb] := fun pb hp => New.one hp
        refine ⟨.ref a, k1, .inl ⟨rfl, _, .inl (.inl kH)⟩, by decide, fun pb hp => ?_⟩
        have hab : a ≠ pb := fun z => by rw [z, hp] at kH; cases kH
        have kH1 : (upd H pb (.lst [])) a = some (.lst (as.map V.ref)) := (upd_ne hab).trans kH
        have hF : Fz1 (.lst (as.map V.ref)) := .inl ⟨_, rfl⟩
        refine ⟨a, as.map V.ref, .ref pb, rfl, rfl, kH1, by rw [List.length_map, kR.len, ← szL_eq]; exact hz, ?_⟩
        obtain ⟨na, k6⟩ := List.nodup_cons.mp k5
        have old : ∀ c, H c ≠ none → c ≠ a → (upd (upd H pb (.lst [])) a (.lst (as.map V.ref ++ [.ref pb]))) c = H c := fun c h1 h2 => by
          rw [upd_ne h2, upd_ne (fun z => h1 (by rw [z]; exact hp))]
        have exT : Ext H (upd (upd H pb (.lst [])) a (.lst (as.map V.ref ++ [.ref pb]))) := (nw pb hp).ext.trans (ext_upd kH1 hF)
        have tr : ∀ c ∈ (a :: as) ++ h', H c ≠ none := fun c hc => rel.trk c (k4.mem_iff.mpr hc)
        refine o σ _ ((a :: (as ++ [pb])) ++ h') ?_ ?_ ⟨exT, fun c u hc n => ?_, fun c hc => ?_⟩ (Kp.refl _ _)
        · refine RelE.put (k3.keep (fun c hc => old c (tr c (by simp [hc])) fun z => na (by rw [← z]; simp [hc])) exT) k1 ⟨a, as ++ [pb], rfl, rfl, ?_, ?_⟩
          · rw [upd_same]; simp
          · refine RepLs.snoc (kR.keep (fun c hc => old c (tr c (by simp [hc])) fun z => na (by rw [← z]; simp [hc])) exT) (vs := []) ?_ RepDs.nil
            rw [upd_ne hab.symm]; exact upd_same
        · have hm : pb ∉ (a :: as) ++ h' := fun z => tr pb z hp
          have : ((a :: (as ++ [pb])) ++ h').Perm (pb :: ((a :: as) ++ h')) := by
            simp only [List.cons_append, List.append_assoc, List.nil_append]
            exact ((List.perm_middle).cons a).trans (List.Perm.swap _ _ _)
          exact this.nodup_iff.mpr (List.nodup_cons.mpr ⟨hm, k5⟩)
        · have n' : c ∉ (a :: as) ++ h' := fun z => n (k4.mem_iff.mpr z)
          rw [old c (by rw [hc]; exact fun z => nomatch z) fun z => n' (by rw [z]; simp)]
          exact hc
        · simp only [List.cons_append, List.mem_cons, List.mem_append, List.append_assoc, List.mem_singleton, List.not_mem_nil, or_false] at hc
          rcases hc with h | h | h | h
          · exact .inl (k4.mem_iff.mpr (by simp [h]))
          · exact .inl (k4.mem_iff.mpr (by simp [h]))
          · exact .inr (by rw [h]; exact hp)
          · exact .inl (k4.mem_iff.mpr (by simp at h; simp [h]))
      · cases e0
    · cases h
  · cases h
theorem Stp.perm {H H' : Hp} {f f1 g : List Addr} (s : Stp H f H' g) (p : ∀ a, a ∈ f ↔ a ∈ f1) : Stp H f1 H' g := ⟨s.1, fun a o h n => s.2.1 a o h fun z => n ((p a).mp z), fun a ha => (s.2.2 a ha).imp_left (p a).mp⟩
theorem s_appL {i : Nat} {e : CE} : SnS T N k (.appL i e) := by
  intro X sc io st C hk h
  simp only [mS] at h
  split at h
  · rename_i v hv
    split at h
    · rename_i ob nm x hm
      simp only [Bool.and_eq_true, decide_eq_true_eq] at h
      obtain ⟨⟨⟨rfl, hpl⟩, hma⟩, h⟩ := h
      split at h
      · rename_i y hl
        obtain ⟨p, rfl⟩ := vExp_of hv
        obtain ⟨p2, q, rfl, hline⟩ := vCallA_of hm
        obtain ⟨j, p3, p4, p5, rfl⟩ := vLast_of hl
        obtain ⟨x3, p6, rfl, h1⟩ := nm_of C h
        have hst : starEach [x] X.env = (false, eval x X.env) :: starEach [] X.env := plain_star hpl
        refine PS.imp (ps_expr (pe_bm PySem.F.plainAttrs_list PySem.F.slot_list_append PySem.F.type_list_append mt_append (pe_last h1) (pa_cons (fz_of C hma (snE T N k e)) pa_nil hst) (plain_attr rfl _ _) (few1 hpl) hline hst rfl) (plain_sw rfl _ _ _)) fun D σ H q => ?_
        obtain ⟨env, f, fl, env', rel, nd, e0, o⟩ := q
        rw [exS] at e0
        unfold appLS at e0
        simp only [Option.bind_eq_some_iff] at e0
        obtain ⟨rows, hr, r, hlast, e0⟩ := e0
        obtain ⟨d, e1, g1, g2⟩ := bnd_eq e0
        split at g2
        · rename_i hz
          cases g2
          obtain ⟨a, as, h', k1, kH, kR, k3, k4, k5⟩ := ll_out rel nd (llAt_of hr)
          rw [last_split hlast] at kR
          obtain ⟨t, b, vs, rfl, r1, r2, r3⟩ := kR.snoc_inv
          obtain ⟨n1, n2, n3⟩ := nodup_app.mp k5
          have kH' := kH
          rw [List.map_append] at kH'
          refine ⟨a, t.map V.ref, .ref b, k1, SqL.of kH', .inl ⟨rfl, vs, .inl (.inl r2)⟩, env.set i none, h', d, e1, k3, n2, g1, fun xv H1 f1 g rel1 rx nd1 st1 => ?_⟩
          obtain ⟨rfl, rx⟩ := rx
          have tr : ∀ c ∈ a :: (t ++ [b]), H c ≠ none := fun c hc => rel.trk c (k4.mem_iff.mpr (List.mem_append_left _ hc))
          have kp : ∀ c ∈ a :: (t ++ [b]), H1 c = H c := fun c hc => by
            cases q : H c with
            | none => exact absurd q (tr c hc)
            | some u => exact st1.2.1 c u q (n3 c hc)
          have hb1 : H1 b = some (.lst vs) := (kp b (by simp)).trans r2
          have hF : Fz1 (.lst vs) := .inl ⟨_, rfl⟩
          have hlen := r3.len
          refine ⟨b, vs, xv, rfl, rfl, hb1, by rw [hlen, ← szL_eq]; exact hz, ?_⟩
          obtain ⟨g2, h2, rel2, p2⟩ := rel1.wipe i
          have nd1' : f1.Nodup := by simpa using nd1
          obtain ⟨m1, m2, m3⟩ := nodup_app.mp (p2.nodup_iff.mp nd1')
          have dis : ∀ c ∈ a :: (t ++ [b]), c ∉ f1 := fun c hc z => by
            rcases st1.2.2 c (by simpa using z) with w | w
            · exact n3 c hc w
            · exact tr c hc w
          have sub2 : ∀ c ∈ h2, c ∈ f1 := fun c hc => p2.mem_iff.mpr (List.mem_append_right _ hc)
          have nb : ∀ c ∈ h2, c ≠ b := fun c hc z => dis b (by simp) (z ▸ sub2 c hc)
          have exb := ext_upd (v := .lst (vs ++ [xv])) hb1 hF
          obtain ⟨na, nt⟩ := List.nodup_cons.mp n1
          have nab : a ≠ b := fun z => na (by rw [z]; simp)
          have ntb : ∀ c ∈ t, c ≠ b := fun c hc z => (List.nodup_append.mp nt).2.2 c hc b (by simp) z
          refine o σ _ ((a :: (t ++ [b])) ++ h2) ?_ (nodup_app.mpr ⟨n1, m2, fun c hc z => dis c hc (sub2 c z)⟩) ?_ (Kp.refl _ _)
          · refine RelE.put (rel2.keep (fun c hc => upd_ne (nb c hc)) exb) k1 ⟨a, t ++ [b], rfl, rfl, ?_, ?_⟩
            · rw [upd_ne nab, kp a (by simp)]; exact kH
            · refine RepLs.snoc ((r1.keep (fun c hc => kp c (by simp [hc])) st1.1).keep (fun c hc => upd_ne (ntb c hc)) exb) upd_same ?_
              exact ((r3.ext st1.1).append (.cons rx .nil)).ext exb
          · have s1 := (Stp.beside (a :: (t ++ [b])) st1).trans (stp_upd (v := .lst (vs ++ [xv])) (show b ∈ (a :: (t ++ [b])) ++ ([] ++ f1) by simp) hb1 hF)
            refine (s1.perm fun c => k4.symm.mem_iff).sub fun c hc => ?_
            rcases List.mem_append.mp hc with w | w
            · exact List.mem_append_left _ w
            · exact List.mem_append_right _ (by simpa using sub2 c w)
        · cases g2
      · cases h
    · cases h
  · cases h
theorem b_nil : SnB T N k .nil := by
  intro X sc io st C hk h
  cases st with
  | cons => simp [mB] at h
  | nil =>
    refine PSs.imp pss_nil fun D σ H q => ?_
    obtain ⟨env, f, rel, nd, o⟩ := t_end (fl := .nx) (tS_eq (fun env => by rw [exB]) q)
    exact o σ H f rel nd (Stp.refl _ _) (Kp.refl _ _)
theorem b_cons {a : CS} {b : CB} (sa : SnS T N k a) (sb : SnB T N k b) : SnB T N k (.cons a b) := by
  intro X sc io st C hk h
  cases st with
  | nil => simp [mB] at h
  | cons x xs =>
    simp only [mB, Bool.and_eq_true] at h
    refine PSs.imp (pss_cons (sa C hk h.1) (sb C hk h.2)) fun D σ H q => ?_
    obtain ⟨env, f, fl, env', rel, nd, e0, o⟩ := q
    rw [exB] at e0
    obtain ⟨fl1, e1, g1, g2⟩ := bnd_eq e0
    refine ⟨env, f, fl1, e1, rel, nd, g1, ?_⟩
    cases fl1 with
    | nx => exact fun σ' H' f' r n s kk => ⟨e1, f', fl, env', r, n, g2, o.from s kk⟩
    | ct =>
      cases g2
      exact o
    | bk =>
      cases g2
      exact o
    | rt w =>
      cases g2
      exact o
mutual
theorem snS (T : Tab) (N : List Str) (k : Nat) : ∀ c : CS, SnS T N k c
  | .asg i e => s_asg
  | .asgT is e => s_asgT
  | .expr e => s_expr
  | .app i e => s_app
  | .ext i e => s_ext
  | .setI i k' e => s_setI
  | .aug i o e => s_aug
  | .ite c a b => s_ite (snB T N k a) (snB T N k b)
  | .whl c b => s_whl (snB T N k b)
  | .for_ tg it b => s_for (snB T N k b)
  | .ret e => s_ret
  | .retN => s_retN
  | .brk => s_brk
  | .cnt => s_cnt
  | .pass => s_pass
  | .appN i => s_appN
  | .appL i e => s_appL
  | .rse => s_rse
  | .upd i e => s_upd
  | .par i j a b => s_par
theorem snB (T : Tab) (N : List Str) (k : Nat) : ∀ c : CB, SnB T N k c
  | .nil => b_nil
  | .cons a b => b_cons (snS T N k a) (snB T N k b)
end
end
end Mn
/-! MnI: defs and the whole program. -/
namespace Mn
open PySem L2
section
variable {K : PySem.W.Frag}
theorem start_rel {H : Hp} (m : Nat) : ∀ {ws : List Va} {vs : List V} {f : List Addr}, RepA K H ws vs f → RelE K H (ws.map some ++ List.replicate m none) (vs.map some ++ List.replicate m none) f
  | [], vs, f, h => by
    obtain ⟨rfl, rfl⟩ := h
    simp only [List.map_nil, List.nil_append]
    induction m with
    | zero => exact ⟨rfl, rfl⟩
    | succ m ih =>
      rw [List.replicate_succ, List.replicate_succ]
      exact ⟨none, _, rfl, ih⟩
  | w :: ws, vs, f, h => by
    obtain ⟨v, r, g, h', rfl, r1, r2, p⟩ := h
    exact ⟨v, _, g, h', rfl, r1, start_rel m r2, p⟩
theorem getS_ne {e : Env} {i j : Nat} (h : i ≠ j) (x : Option Va) : getS (e.set i x) j = getS e j := by
  simp only [getS, List.getElem?_set_ne h]
theorem outs_set {io : List Nat} {e : Env} {i : Nat} (x : Option Va) : ∀ {ws : List Va} {j : Nat}, i < j → outs io j ws (e.set i x) = outs io j ws e
  | [], _, _ => rfl
  | w :: ws, j, h => by
    have ih := outs_set (io := io) (e := e) (i := i) x (ws := ws) (j := j + 1) (by omega)
    cases w with
    | d y => simp only [outs, ih]
    | _ => simp only [outs, ih, getS_ne (show i ≠ j by omega)]
theorem outs_ok {H0 H' : Hp} {io : List Nat} {σ : L2.St} : ∀ {ws us : List Va} {vs : List V} {j : Nat} {f0 f' : List Addr} {e : Env}, RepA K H0 ws vs f0 → Ext H0 H' → RelE K H' e σ f' → outs io j ws e = some us →
    (∀ t v, vs[t]? = some v → j + t ∈ io → σ[j + t]? = some (some v)) → ∃ fa e2 f2, RepA K H' us vs fa ∧ RelE K H' e2 σ f2 ∧ f'.Perm (fa ++ f2)
  | [], us, vs, j, f0, f', e, h, _, rel, ho, _ => by
    obtain ⟨rfl, rfl⟩ := h
    simp only [outs, Option.some.injEq] at ho
    subst ho
    exact ⟨[], e, f', ⟨rfl, rfl⟩, rel, .refl _⟩
  | w :: ws, us, vs, j, f0, f', e, h, x, rel, ho, hs => by
    obtain ⟨v, r, g, h', rfl, r1, r2, p⟩ := h
    have hs' : ∀ t v, r[t]? = some v → (j + 1) + t ∈ io → σ[(j + 1) + t]? = some (some v) := fun t u hu hm => by
      have := hs (t + 1) u (by simpa using hu) (by rw [show j + (t + 1) = j + 1 + t by omega]; exact hm)
      rw [show j + (t + 1) = j + 1 + t by omega] at this
      exact this
    have key : (∀ y, w ≠ .d y) → ∃ fa e2 f2, RepA K H' us (v :: r) fa ∧ RelE K H' e2 σ f2 ∧ f'.Perm (fa ++ f2) := fun hw => by
      have ho' : (if io.contains j = true then (getS e j).bind fun w => (outs io (j + 1) ws e).map fun r => w :: r else none) = some us := by
        cases w with
        | d y => exact absurd rfl (hw y)
        | _ => exact ho
      split at ho'
      · rename_i hio
        simp only [Option.bind_eq_some_iff, Option.map_eq_some_iff] at ho'
        obtain ⟨w', e1, us', e2, rfl⟩ := ho'
        obtain ⟨v', g', h2, q1, q2, q3, q4⟩ := rel.out e1
        have := hs 0 v rfl (by simpa using hio)
        rw [Nat.add_zero, q1] at this
        cases this
        obtain ⟨fa, e3, f2, s1, s2, s3⟩ := outs_ok (e := e.set j none) r2 x q3 (by rw [outs_set _ (Nat.lt_succ_self j)]; exact e2) hs'
        exact ⟨g' ++ fa, e3, f2, ⟨v, r, g', fa, rfl, q2, s1, .refl _⟩, s2, by rw [List.append_assoc]; exact q4.trans (s3.append_left g')⟩
      · cases ho'
    cases w with
    | d y =>
      simp only [outs, Option.map_eq_some_iff] at ho
      obtain ⟨us', e1, rfl⟩ := ho
      obtain ⟨fa, e3, f2, s1, s2, s3⟩ := outs_ok r2 x rel e1 hs'
      exact ⟨fa, e3, f2, ⟨v, r, [], fa, rfl, mk_d (r1.2.ext x), s1, .refl _⟩, s2, s3⟩
    | ls _ => exact key fun y z => by cases z
    | dc _ => exact key fun y z => by cases z
    | dk _ _ _ => exact key fun y z => by cases z
    | dl _ _ => exact key fun y z => by cases z
    | dd _ _ _ => exact key fun y z => by cases z
    | ll _ => exact key fun y z => by cases z
    | scr _ => exact key fun y z => by cases z
end
/-- a def of the table, as the text has it -/
structure CodeOk (T : Tab) (K : PySem.W.Frag) (x : Str) (fn : Fn) (a : Addr) (fd : FuncData) (ps : List Str) : Prop where
  ex : ∃ N qual st, Fun K x qual st a fd ∧ FnScope N ps (defScope st) ∧ N.length = fn.ns ∧ ps.length = fn.np ∧ (∀ j ∈ fn.io, j < fn.np) ∧ mB T N (defScope st) fn.io fn.body (defBody st) = true
section
variable (T : Tab) (P : Program) (w : World) (K : PySem.W.Frag) (mg : Str → Option Value) (base : Heap)
/-- what each name of the table is, when k calls are allowed -/
def FnsAt (k : Nat) : Prop := ∀ (f : Nat) (x : Str) (d : Df), T.fns[f]? = some (x, d) → ∃ a fd ps, mg x = some (.ref a) ∧ PySem.W.keepIn K (.ref a) = true ∧ Binds K fd ps [] ∧ FnOk P w K mg base CX0 k a fd ps (spF K (call T k f) d.np)
structure Wd : Prop where
  blt : ∀ x : Str, x ∈ T.blts → mg x = none
  con : ∀ (g : Nat) (x : Str) (d : D), T.consts[g]? = some (x, d) → ∃ u v, mg x = some u ∧ RelV v u ∧ ∀ H, RepD K H d v
  fns : ∀ (f : Nat) (x : Str) (d : Df), T.fns[f]? = some (x, d) → ∃ a fd ps, mg x = some (.ref a) ∧ PySem.W.keepIn K (.ref a) = true ∧ Binds K fd ps [] ∧
    match d with
    | .code fn => CodeOk T K x fn a fd ps
    | .prim n p => ps.length = n ∧ ∀ k, 8 ≤ k → FnsAt T P w K mg base k → FnOk P w K mg base CX0 (k + 1) a fd ps (spF K p n)
end
section
variable {T : Tab} {P : Program} {w : World} {K : PySem.W.Frag} {mg : Str → Option Value} {base : Heap}
theorem code_ok {k f : Nat} {x : Str} {fn : Fn} {a : Addr} {fd : FuncData} {ps : List Str} (W : Wd T P w K mg base) (ih : FnsAt T P w K mg base k) (hf : T.fns[f]? = some (x, .code fn)) (h : CodeOk T K x fn a fd ps) :
    FnOk P w K mg base CX0 (k + 1) a fd ps (spF K (call T (k + 1) f) fn.np) := by
  obtain ⟨N, qual, st, F, S, hN, hps, hio, hm⟩ := h.ex
  refine F.ok S (fun vs H Q E h => by rw [h.1, hps]) fun cdv A outer s H vs Q E hr hsp => ?_
  have C : Ctx T N k (cxOf CX0 P w K mg base N qual (defScope st) a cdv A outer s H E).nox (defScope st) true fn.io :=
    { n := rfl, sc := rfl, nd := S.nd, calm := rfl, room := hr, xe := rfl, fn := (fun _ _ => rfl), blt := W.blt, con := W.con, fns := ih }
  refine ⟨_, snB T N k fn.body C S.kind hm, ?_⟩
  obtain ⟨hlen, ws, f0, r, us, ra, nd, hc, q⟩ := hsp
  have hws : ws.length = fn.np := by rw [← ra.len]; exact hlen
  unfold call at hc
  rw [hf] at hc
  simp only [hws, if_pos] at hc
  unfold runFn at hc
  obtain ⟨fl, e, h1, h2⟩ := bnd_eq hc
  have hst : L2.start N vs = vs.map some ++ List.replicate (fn.ns - fn.np) none := by
    unfold L2.start
    rw [hN, hlen]
  have base_kp : ∀ {σ' : L2.St}, Kp fn.io (L2.start N vs) σ' → ∀ t v, vs[t]? = some v → 0 + t ∈ fn.io → σ'[0 + t]? = some (some v) := fun {σ'} kp t v hv hm => by
    rw [kp _ hm, hst, Nat.zero_add]
    have ht : t < vs.length := (List.getElem?_eq_some_iff.mp hv).1
    rw [List.getElem?_append_left (by rw [List.length_map]; exact ht), List.getElem?_map, hv]
    rfl
  refine ⟨_, f0, fl, e, ?_, nd, h1, ?_⟩
  · rw [hst]
    exact start_rel _ ra
  · cases fl with
    | nx =>
      simp only [Option.map_eq_some_iff] at h2
      obtain ⟨us', h3, h4⟩ := h2
      cases h4
      intro σ' H' f' rel' nd' st' kp'
      obtain ⟨fa, e2, f2, s1, s2, s3⟩ := outs_ok ra st'.1 rel' h3 (base_kp kp')
      have nd2 := s3.nodup_iff.mp nd'
      exact q .non H' [] fa mk_non s1 (by simpa using (nodup_app.mp nd2).1) (st'.sub fun z hz => s3.mem_iff.mpr (List.mem_append_left _ (by simpa using hz)))
    | rt v =>
      simp only [Option.map_eq_some_iff] at h2
      obtain ⟨us', h3, h4⟩ := h2
      cases h4
      intro σ' H' f' g v' rel' rv nd' st' kp'
      obtain ⟨fa, e2, f2, s1, s2, s3⟩ := outs_ok ra st'.1 rel' h3 (base_kp kp')
      have nd2 : (g ++ (fa ++ f2)).Nodup := (s3.append_left g).nodup_iff.mp nd'
      rw [← List.append_assoc] at nd2
      refine q v' H' g fa rv s1 (nodup_app.mp nd2).1 (st'.sub fun z hz => ?_)
      rcases List.mem_append.mp hz with z1 | z1
      · exact List.mem_append_left _ z1
      · exact List.mem_append_right _ (s3.mem_iff.mpr (List.mem_append_left _ z1))
    | bk => cases h2
    | ct => cases h2
theorem none_ok {f n : Nat} {a : Addr} {fd : FuncData} {ps : List Str} {k : Nat} {F : List Va → Option (Va × List Va)} (h : ∀ ws, F ws = none) : FnOk P w K mg base CX0 k a fd ps (spF K F n) := by
  have no : ∀ vs H Q E, ¬ spF K F n vs H Q E := fun vs H Q E z => by
    obtain ⟨_, ws, _, _, _, _, _, e, _⟩ := z
    rw [h ws] at e
    cases e
  exact ⟨fun vs H Q E z => absurd z (no vs H Q E), fun A outer s H args us vs Q E _ _ _ _ z => absurd z (no vs H Q E)⟩
theorem all_ok (W : Wd T P w K mg base) : ∀ k, FnsAt T P w K mg base k
  | 0 => fun f x d hf => by
    obtain ⟨a, fd, ps, h1, h2, h3, h4⟩ := W.fns f x d hf
    exact ⟨a, fd, ps, h1, h2, h3, none_ok (f := f) fun ws => rfl⟩
  | k + 1 => fun f x d hf => by
    have ih := all_ok W k
    obtain ⟨a, fd, ps, h1, h2, h3, h4⟩ := W.fns f x d hf
    refine ⟨a, fd, ps, h1, h2, h3, ?_⟩
    cases d with
    | code fn => exact code_ok W ih hf h4
    | prim n p =>
      by_cases hk : 8 ≤ k
      · refine (h4.2 k hk ih).imp fun vs H Q E z => ?_
        obtain ⟨hlen, ws, f0, r, us, ra, nd, hc, q⟩ := z
        refine ⟨hlen, ws, f0, r, us, ra, nd, ?_, q⟩
        unfold call at hc
        rw [hf] at hc
        simp only at hc
        split at hc
        · exact hc
        · cases hc
      · refine none_ok (f := f) fun ws => ?_
        unfold call
        rw [hf]
        simp only
        rw [if_neg (fun z => hk z.2)]
/-- a constant that is a text -/
theorem con_str {s : List Nat} {u : Value} {t : Tok} (h : u = .str (stx s) t) : ∃ v, RelV v u ∧ ∀ H, RepD K H (.str s) v := ⟨.str (stx s), ⟨t, h⟩, fun H => by simp [RepD]⟩
theorem con_int {i : Int} {u : Value} {t : Tok} (h : u = .int i t) : ∃ v, RelV v u ∧ ∀ H, RepD K H (.int i) v := ⟨.int i, ⟨t, h⟩, fun H => by simp [RepD]⟩
/-- the law's own def: what is left is the equation -/
theorem law_sp {f : Nat} {k : Nat} {H : Hp} {a : Addr} {ns : List Int} {us : List Va} (hO : Only H) (hS : SqL K H a (ns.map V.int)) (h : call T k f [.scr ns] = some (.d (.bl true), us)) : spF K (call T k f) 1 [.ref a] H (fun v _ => v = .bl true) fun _ _ _ => False := by
  refine ⟨rfl, [.scr ns], [], .d (.bl true), us, ⟨.ref a, [], [], [], rfl, ⟨rfl, a, rfl, ?_⟩, ⟨rfl, rfl⟩, .refl _⟩, List.nodup_nil, h, fun v H' g f' rv _ _ _ => rep_bl rv⟩
  rcases hS with hS | hS
  · rcases hS with hS | ⟨o, hS⟩
    · rcases hO a with z | ⟨o, xs, z⟩
      · rw [z] at hS; cases hS
      · rw [z] at hS; cases hS
    · exact .inl ⟨o, hS⟩
  · exact .inr (.inr hS)
end
end Mn
/-! MnP: list(reversed(a list)). -/
namespace Mn
open PySem PySem.Calls L2
section
variable {prog : Program} {w : World} {A : Around} {E : Value → Shared → Prop} {s : Shared}
open RT in
theorem call_list_rev {it l : Addr} {items : Array Value} {Q : Value → Shared → Prop} (hh : A.handled = none) (hit : s.heap.IsRevIter it l ((items.size : Int) - 1)) (hl : s.heap.IsList l items) (hne : l ≠ it) (hn : items.size ≤ sizeLine)
    (hQ : ∀ (s' : Shared) (tk : Nat) (acc : Array Value) (c : Nat), s' = { s with heap := s'.heap, toks := tk } → (∀ b o, b ≠ it → s.heap.get? b = some o → s'.heap.get? b = some o) →
      s'.heap.get? s.heap.objs.size = some { cls := .type "list", dict := none, data := .seq acc c, slots := #[] } → ItemsOf (fun i v => items[items.size - 1 - i]? = some v) acc items.size → Q (.ref s.heap.objs.size) s') :
    wpAny (model prog w) A (PySem.call (.type "list") [.ref it]) Q E s := by
  obtain ⟨oi, hoi, _⟩ := id hit
  obtain ⟨ol, hol, _⟩ := id hl
  have hSi : s.heap.objs.size ≠ it := Nat.ne_of_gt (Heap.lt_size hoi)
  have hSl : s.heap.objs.size ≠ l := Nat.ne_of_gt (Heap.lt_size hol)
  have hSf : s.heap.objs.size ∉ [it, l] := by simp only [List.mem_cons, List.not_mem_nil, or_false, not_or]; exact ⟨hSi, hSl⟩
  refine callType_codes (Q₁ := fun obj s₁ => obj = .ref s.heap.objs.size ∧ s₁ = { s with heap := s.heap.push { cls := .type "list", data := .seq #[] } }) F.called_list (F.typeCall_list_1 _) F.entry_list_init
    (code_list_new _ ⟨rfl, rfl⟩) fun obj s₁ h₁ => ?_
  obtain ⟨rfl, rfl⟩ := h₁
  have hS : (s.heap.push { cls := .type "list", data := .seq #[] }).get? s.heap.objs.size = some { cls := .type "list", data := .seq #[] } := Heap.get?_push_size _ rfl
  refine ⟨⟨_, hS, rfl⟩, F.args_list_init_2 _ _, ?_⟩
  have W := (Walks.listRev (prog := prog) (w := w) (A := A.in1.in1) hh it l hne items).toS
  show wpAny _ A.in1.in1 (do let old ← Builtin.List.listItems (.ref s.heap.objs.size); Builtin.List.listUpdate (.ref s.heap.objs.size) (fun _ => #[]); letGo old.toList.reverse; Builtin.List.listExtendWith (.ref s.heap.objs.size) (.ref it) .none) _ _ _
  refine wpAny_bind ?_
  unfold Builtin.List.listItems
  refine wpAny_bind (wpAny_seqItems hS rfl (wpAny_pure ?_))
  show wpAny _ A.in1.in1 (updateSeq s.heap.objs.size (fun _ => #[]) >>= fun _ => letGo (#[] : Array Value).toList.reverse >>= fun _ => Builtin.List.listExtendWith (.ref s.heap.objs.size) (.ref it) .none) _ _ _
  refine wpAny_bind (wpAny_updateSeq hS rfl ?_)
  have hS₂ := Heap.get?_update_self (Obj.mapSeq (fun _ => (#[] : Array Value))) hS rfl
  have oth : ∀ b o, s.heap.get? b = some o → ((s.heap.push { cls := .type "list", data := .seq #[] }).update s.heap.objs.size (Obj.mapSeq (fun _ => (#[] : Array Value)))).get? b = some o :=
    fun b o e => (Heap.get?_update_other _ _ (Nat.ne_of_gt (Heap.lt_size e))).trans (Heap.get?_push_of_some _ e)
  refine wpAny_bind (wpAny_letGo ?_)
  generalize hgen : ({ s with heap := (s.heap.push { cls := .type "list", data := .seq #[] }).update s.heap.objs.size (Obj.mapSeq (fun _ => (#[] : Array Value))) } : Shared) = s2
  have oth2 : ∀ b o, s.heap.get? b = some o → s2.heap.get? b = some o := by rw [← hgen]; exact oth
  have hS3 : s2.heap.get? s.heap.objs.size = some (Obj.mapSeq (fun _ => (#[] : Array Value)) { cls := .type "list", data := .seq #[] }) := by rw [← hgen]; exact hS₂
  have hit1 : s2.heap.IsRevIter it l ((items.size : Int) - 1) := hit.at fun o e => oth2 _ _ e
  have hl1 : s2.heap.IsList l items := hl.at fun o e => oth2 _ _ e
  have hT : s2.TypeIs (.ref it) "list_reverseiterator" := Heap.IsRevIter.typeIs hit1
  have h1 : Builtin.List.listSameRef (.ref s.heap.objs.size) (.ref it) = false := by simp [Builtin.List.listSameRef, hSi]
  unfold Builtin.List.listExtendWith
  refine wpAny_bind (wpAny_typeOf hT ?_)
  rw [if_neg (by rw [h1]; decide)]
  refine wpAny_bind (wpAny_pyIter_revIter (s := s2) hit1 ?_)
  refine wpAny_bind (wpAny_holding ?_)
  unfold Builtin.List.listLengthHint
  refine wpAny_bind (wpAny_specialOf hT nolen_lri ?_)
  show wpAny _ A.in1.in1 (specialOf (Value.ref it) (Str.ofString "__length_hint__") >>= _) _ _ _
  refine wpAny_bind (wpAny_specialOf hT hint_lri ?_)
  generalize hid : ("list_reverseiterator.__length_hint__" : String) = id0
  wp_delta
  rw [show splitId id0 = some ("list_reverseiterator", "__length_hint__") from by subst hid; decide +kernel]
  subst hid
  refine wpAny_bind (wpAny_isInstance (b := true) hT (by rw [isSubtype_type]; kernel_rfl) ?_)
  refine wpAny_pure ?_
  rw [if_neg (by decide)]
  have e0 : ((items.size : Nat) : Int) - 1 - ((0 : Nat) : Int) = (items.size : Int) - 1 := by omega
  refine wpAny_pure ⟨plainId_quiet F.plain_extend_loop _, codeAny_extend_loopS W hn _ hSf _ items.size 0 _ _ _ rfl (Nat.zero_le _) ⟨Nat.zero_le _, by rw [e0]; exact hit1, hl1⟩ hS3 (ItemsOf.nil _) fun s' acc' c' hm hS' hacc => ?_⟩
  refine ⟨rfl, hQ s' s'.toks acc' c' ?_ (fun b o hb e => hm.heap b o (fun hmem => ?_) (oth2 b o e)) hS' hacc⟩
  · have := Moved.eq_with hm
    rw [this, ← hgen]
  · rcases List.mem_cons.mp hmem with e' | hmem
    · exact absurd (Heap.lt_size e) (by rw [e']; exact Nat.lt_irrefl _)
    · exact hb (List.mem_singleton.mp hmem)
end
section
variable {X : Cx}
def tListRev (K : PySem.W.Frag) (te : TE) : TE := fun σ H Q => te σ H fun v H1 => ∃ (a : Addr) (xs : List V), v = .ref a ∧ SqL K H1 a xs ∧ ∀ q, H1 q = none → Q (.ref q) (upd H1 q (.lst xs.reverse))
open RT PySem.Spec PyProof.Rows in
theorem pe_listRev {e : Expr} {te : TE} {p p2 pos pos2 : Pos} (hc : X.calm = true) (hg : Gl X "list") (hm : X.mg "list" = none) (hg2 : Gl X "reversed") (hm2 : X.mg "reversed" = none) (he : PE X e te)
    (hs : starEach [e] X.env = (false, eval e X.env) :: starEach [] X.env := by rfl)
    (hs2 : starEach [.Call (.Name "reversed" p2) [e] [] pos2] X.env = (false, eval (.Call (.Name "reversed" p2) [e] [] pos2) X.env) :: starEach [] X.env := by rfl) :
    PE X (.Call (.Name "list" p) [.Call (.Name "reversed" p2) [e] [] pos2] [] pos) (tListRev X.K te) := by
  refine ⟨fun pins s σ H Q I h => ?_⟩
  refine Call_ (ld_blt I hg hm (boot_tn .lst) (PyProof.Rows.callWith_type1 (args_cons (Call_ (ld_blt I hg2 hm2 PyProof.Rows.boot_reversed (PyProof.Rows.callWith_type1 (args_cons (thn (he.run pins s σ H _ I h) fun u s1 ⟨v, H1, I1, r1, q1⟩ => args_nil ?_) hs) hs rfl))) hs2) hs2 rfl))
  obtain ⟨a, xs, ev, hq, q⟩ := q1
  subst ev
  obtain rfl : u = Value.ref a := r1
  obtain ⟨its, rv, p', hz⟩ := I1.list hq
  refine call_reversed_list p'.isList (args_nil ?_)
  have k0 : ∀ b o, s1.heap.get? b = some o → (s1.heap.push (revObj a ((its.toArray.size : Int) - 1))).get? b = some o := fun b o e => Heap.get?_push_of_some _ e
  have I2 : Inv X pins σ H1 { s1 with heap := s1.heap.push (revObj a ((its.toArray.size : Int) - 1)) } := I1.kept (t' := s1.toks) k0
  obtain ⟨f0, f1, f2, f3, f4, f5⟩ := I1.fpOk (H' := H1) (b := s1.heap.objs.size) (Nat.le_refl _) (I1.hok.fresh (Nat.le_refl _))
  have hl := p'.isList
  obtain ⟨ol, hol, _⟩ := id hl
  have hne : a ≠ s1.heap.objs.size := Nat.ne_of_lt (Heap.lt_size hol)
  have hn : its.toArray.size ≤ sizeLine := by rw [List.size_toArray, ← rv.length]; exact hz
  refine call_list_rev (s := { s1 with heap := s1.heap.push (revObj a ((its.toArray.size : Int) - 1)) }) (I1.ok.hd hc) ⟨_, Heap.get?_push_size _ rfl, rfl, rfl⟩ (hl.push _) hne hn fun s' tk acc c es hk hS hi => ?_
  generalize hD : (s1.heap.push (revObj a ((its.toArray.size : Int) - 1))).objs.size = D at hS ⊢
  have hnD : H1 D = none := I2.hok.fresh (by rw [← hD]; exact Nat.le_refl _)
  have hDi : D ≠ s1.heap.objs.size := by
    rw [← hD, Heap.size_push]
    omega
  have I2v := I2.laid (a := D) (o := .lst xs.reverse) (h' := (s1.heap.push (revObj a ((its.toArray.size : Int) - 1))).push { cls := .type "list", dict := none, data := .seq acc c, slots := #[] }) (t' := s1.toks)
    (fun _ _ q => Heap.get?_push_of_some _ q) (by rw [← hD]; exact Nat.le_refl _)
    (show ObjOk X.prog X.w _ _ _ (.lst xs.reverse) from ⟨by rw [List.length_reverse]; exact hz, acc.toList, c, vals_rev rv hi, by rw [Array.toArray_toList, ← hD]; exact Heap.get?_push_size _ rfl⟩)
  have kk : ∀ b o, b ≠ s1.heap.objs.size → ((s1.heap.push (revObj a ((its.toArray.size : Int) - 1))).push { cls := .type "list", dict := none, data := .seq acc c, slots := #[] }).get? b = some o → s'.heap.get? b = some o := fun b o hb e => by
    by_cases hbD : b = D
    · subst hbD
      have e2 : ((s1.heap.push (revObj a ((its.toArray.size : Int) - 1))).push { cls := .type "list", dict := none, data := .seq acc c, slots := #[] }).get? b = some { cls := .type "list", dict := none, data := .seq acc c, slots := #[] } := by
        rw [← hD]
        exact Heap.get?_push_size _ rfl
      rw [e2] at e
      cases e
      exact hS
    · refine hk b o hb ?_
      rcases Heap.get?_push_cases e with ⟨hb2, _⟩ | e2
      · exact absurd (hb2.trans hD) hbD
      · exact e2
  rw [es]
  have I3 := I2v.turned (t' := tk) (h' := s'.heap) (fun b o hb e => kk b o hb e) (by rw [upd_ne hDi.symm]; exact f0) f1 f3 f4 f5
  exact ⟨.ref D, upd H1 D (.lst xs.reverse), I3, rfl, q D hnD⟩
end
end Mn
/-! MnQ: a deck of the first sort: what its defs do. -/
namespace Mn
open PySem L2
def mixA (c k : Int) : Int :=
  let a := (c % 2147483629 + 7919 * k + 1) * 48271 % 2147483647
  let b := (a * a + 69621 * k + 7) % 2147483587
  b * 2147483563 + (b * b + 16807 * b + k) % 2147483563
/-- what is drawn, and the cells behind it -/
def drawA (cs : List Int) (s n m : Int) : Int × List Int := match cs.getLast? with
  | none => (mixA s (n + 1) % m, [])
  | some c => if c < 1000000000000000000 then (mixA c (n + 1) % m, cs.dropLast) else (c % m, if 0 < c / m then cs.dropLast ++ [c / m] else cs.dropLast)
def takeA : List Va → Option (Va × List Va)
  | [.dk cs s n, .d (.int m)] => if 0 < m ∧ m < 1073741824 ∧ cs.length ≤ 1000 then some (.d (.int (drawA cs s n m).1), [.dk (drawA cs s n m).2 s (n + 1), .d (.int m)]) else none
  | _ => none
def deckA : List Va → Option (Va × List Va)
  | [.scr ns] => if ns.length ≤ 63 then some (.dk ns.reverse (ns.sum + ns.length) 0, [.scr ns]) else none
  | _ => none
section
variable {K : PySem.W.Frag}
theorem ok_ints : ∀ (cs : List Int), PyData.canLayAll0 (D.pys (cs.map D.int)) = true ∧ PyData.depthAll (D.pys (cs.map D.int)) ≤ 1
  | [] => ⟨rfl, by decide⟩
  | c :: cs => by
    obtain ⟨h1, h2⟩ := ok_ints cs
    simp only [List.map_cons, D.pys, D.py, PyData.canLayAll0, PyData.canLay0, Bool.true_and, PyData.depthAll, PyData.depth]
    exact ⟨h1, by omega⟩
theorem okD_ints (cs : List Int) : okD (.lst (cs.map D.int)) = true := by
  obtain ⟨h1, h2⟩ := ok_ints cs
  unfold okD SeqAt.shaped
  simp only [D.py, PyData.canLay0, h1, PyData.depth, Bool.true_and, decide_eq_true_eq]
  omega
theorem eq_nil (cs : List Int) : eqS (.ls (cs.map D.int)) (.ls []) = some (.d (.bl cs.isEmpty)) := by
  simp [eqS, eqN]
theorem get0 {a b c : V} : L2.atI [a, b, c] 0 = some a := rfl
theorem get1 {a b c : V} : L2.atI [a, b, c] 1 = some b := rfl
theorem get2 {a b c : V} : L2.atI [a, b, c] 2 = some c := rfl
theorem room65 {k : Nat} {A : Around} (r : Room k A) : A.units + 65 < cLine := by have := r.un; omega
theorem con_tup {p : Addr} {its : Array Value} {n : Nat} {sl : Array (Option Value)} {xs : List (List Nat)} (hk : K.lookup p = some ⟨.type "tuple", none, .seq its n, sl⟩) (hv : Vals (xs.map fun s => V.str (stx s)) its.toList) (hz : its.size ≤ sizeLine) : ∀ H, RepD K H (.tup (xs.map .str)) (.ref p) := fun H => by
  simp only [RepD]
  refine ⟨p, _, rfl, .inr ⟨_, its, n, hk, rfl, rfl, rfl, hz, hv⟩, ?_⟩
  clear hv hz hk
  induction xs with
  | nil => exact RepDs.nil
  | cons x xs ih => exact .cons (by simp [RepD]) ih
theorem con_str' {s : List Nat} {t : Tok} : ∃ v, RelV v (Value.str (stx s) t) ∧ ∀ H, RepD K H (.str s) v := ⟨.str (stx s), ⟨t, rfl⟩, fun H => by simp [RepD]⟩
theorem con_int' {i : Int} {t : Tok} : ∃ v, RelV v (Value.int i t) ∧ ∀ H, RepD K H (.int i) v := ⟨.int i, ⟨t, rfl⟩, fun H => by simp [RepD]⟩
end
theorem walk {T : Tab} {lvl f : Nat} {x : Str} {l : PySem.W.OpenLaw} {q : Program} {loose : List Str} {XP : (Str → Option Value) → Heap → Prop} {YP : World → Heap → Prop} {d : DefRec} {K : Params → PySem.W.Frag} (hlaw : ∀ ns : List Int, ns.length ≤ 63 → ∃ us, call T lvl f [.scr ns] = some (.d (.bl true), us))
    (hr : Room lvl callerA) (hn : l.most = some 63) (hdf : d.params.defaults = [])
    (hY : ∀ (w : World) (h : Heap), YP w h → (K w.params).In h)
    (F : ∀ (w : World) (mg : Str → Option Value) (fa : Addr) (h : Heap), (K w.params).In h → h.Ns mainGlobals mg → mg d.name = some (.ref fa) →
      ∃ fd : FuncData, (∀ (s : Shared) (u : Value), BindsTo s fd ⟨[u], []⟩ [(x, u)]) ∧ ∀ base : Heap, (K w.params).In base → base.Ns mainGlobals mg → FnOk l.prog w (K w.params) mg base CX0 lvl fa fd [x] (spF (K w.params) (call T lvl f) 1)) :
    PySem.W.WalkO q loose XP YP l.row.toRowW d [] (fun f vs => PySem.call f vs) :=
  L2.walk_of (n := 63) (k := lvl) (x := x) (CX := fun _ => CX0) (sp := fun w => spF (K w.params) (call T lvl f) 1) hn (by decide) hdf hr hY F (fun _ _ a ns hl hO hS => by
    obtain ⟨us, h⟩ := hlaw ns hl
    exact law_sp hO hS h) fun _ _ _ _ _ z => z
end Mn
/-! MnS: reckoning with the evaluator. -/
namespace Mn
open PySem
theorem call_code {T : Tab} {k f : Nat} {x : Str} {fn : Fn} {ws : List Va} (h : T.fns[f]? = some (x, .code fn)) (hl : ws.length = fn.np) : call T (k + 1) f ws = runFn T (call T k) fn ws := by
  unfold call
  rw [h]
  simp only [hl, if_true]
theorem call_prim {T : Tab} {k f : Nat} {x : Str} {n : Nat} {p : List Va → Option (Va × List Va)} {ws : List Va} (h : T.fns[f]? = some (x, .prim n p)) (hl : ws.length = n) (hk : 8 ≤ k) : call T (k + 1) f ws = p ws := by
  unfold call
  rw [h]
  simp only [hl, hk, and_self, if_true]
/-- it comes to an end, and what comes is so -/
def wp {α β : Type} (o : Option (α × β)) (Q : α → β → Prop) : Prop := ∃ a b, o = some (a, b) ∧ Q a b
section
variable {α β γ δ : Type}
@[simp] theorem wp_some {a : α} {b : β} {Q : α → β → Prop} : wp (some (a, b)) Q ↔ Q a b := ⟨fun h => by obtain ⟨_, _, e, h⟩ := h; cases e; exact h, fun h => ⟨a, b, rfl, h⟩⟩
@[simp] theorem wp_bnd {r : Option (α × β)} {f : α → β → Option (γ × δ)} {Q : γ → δ → Prop} : wp (bnd r f) Q ↔ wp r fun a b => wp (f a b) Q := by
  cases r with
  | none =>
    refine ⟨fun h => ?_, fun h => ?_⟩
    · obtain ⟨_, _, e, _⟩ := h
      cases e
    · obtain ⟨_, _, e, _⟩ := h
      cases e
  | some p =>
    refine ⟨fun h => ⟨p.1, p.2, rfl, h⟩, fun h => ?_⟩
    obtain ⟨a, b, e, h⟩ := h
    cases e
    exact h
theorem wp_imp {r : Option (α × β)} {Q Q' : α → β → Prop} (h : wp r Q) (i : ∀ a b, Q a b → Q' a b) : wp r Q' := let ⟨a, b, e, q⟩ := h; ⟨a, b, e, i a b q⟩
theorem wp_none {Q : α → β → Prop} : wp (none : Option (α × β)) Q ↔ False := ⟨fun h => let ⟨_, _, e, _⟩ := h; (by cases e), False.elim⟩
theorem wp_eq {r : Option (α × β)} {a : α} {b : β} {Q : α → β → Prop} (h : r = some (a, b)) (q : Q a b) : wp r Q := ⟨a, b, h, q⟩
theorem wp_ite {c : Prop} [Decidable c] {x y : Option (α × β)} {Q : α → β → Prop} : wp (if c then x else y) Q ↔ if c then wp x Q else wp y Q := by by_cases h : c <;> simp [h]
end
/-- what follows a statement -/
def seqF (f : Fl) (e : Env) (k : Env → Option (Fl × Env)) : Option (Fl × Env) := match f with
  | .nx => k e
  | f => some (f, e)
section
variable {k : Env → Option (Fl × Env)} {e : Env} {w : Va}
@[simp] theorem seq_nx : seqF .nx e k = k e := rfl
@[simp] theorem seq_rt : seqF (.rt w) e k = some (.rt w, e) := rfl
@[simp] theorem seq_bk : seqF .bk e k = some (.bk, e) := rfl
@[simp] theorem seq_ct : seqF .ct e k = some (.ct, e) := rfl
end
section
variable {Φ : Nat → List Va → Option (Va × List Va)} {Γ : Nat → Option D}
theorem b_cons' (s : CS) (r : CB) (e : Env) : exB Φ Γ (.cons s r) e = bnd (exS Φ Γ s e) fun f e => seqF f e (exB Φ Γ r) := by
  rw [exB]
  cases exS Φ Γ s e with
  | none => rfl
  | some p =>
    obtain ⟨f, e'⟩ := p
    cases f <;> rfl
end
@[simp] theorem get_0 (x : Option Va) (r : Env) : getS (x :: r) 0 = x := by simp [getS]
@[simp] theorem get_s (x : Option Va) (r : Env) (i : Nat) : getS (x :: r) (i + 1) = getS r i := by simp [getS]
@[simp] theorem get_1 (x y : Option Va) (r : Env) : getS (x :: y :: r) 1 = y := by simp [getS]
@[simp] theorem res_v (w : Va) (e : Env) : resP (.val w) e = some w := rfl
@[simp] theorem res_s (i : Nat) (e : Env) : resP (.slot i) e = getS e i := rfl
@[simp] theorem ress_nil (e : Env) : resPs [] e = some [] := rfl
@[simp] theorem ress_cons (p : PV) (ps : List PV) (e : Env) : resPs (p :: ps) e = (resP p e).bind fun w => (resPs ps e).map fun ws => w :: ws := rfl
@[simp] theorem set_0 {α : Type} (x y : α) (r : List α) : (x :: r).set 0 y = y :: r := rfl
@[simp] theorem set_s {α : Type} (x y : α) (r : List α) (i : Nat) : (x :: r).set (i + 1) y = x :: r.set i y := rfl
section
variable {Φ : Nat → List Va → Option (Va × List Va)} {Γ : Nat → Option D} {ev : Env → Option (Va × Env)} {e : Env} {w : Va} {i : Nat}
theorem op_var {w : Va} (h : getS e i = some w) : opnd (.var i) ev e = some (.slot i, e) := by simp [opnd, h]
theorem use_d {x : D} (h : getS e i = some (.d x)) : useS e i = some (.d x, e) := by simp [useS, h]
theorem fz_d {x : D} (h : getS e i = some (.d x)) : fzS e i = some (x, e) := by simp [fzS, h]
end
/-! ### walks of comprehensions and loops -/
theorem compL_wp {turn : D → Env → Option (Option D × Env)} {own : List Nat} (P : Nat → Env → List D → Prop) {xs : List D} (step : ∀ i x env acc, xs[i]? = some x → P i env acc → wp (turn x env) fun y e => match y with
    | some y => acc.length < szL ∧ P (i + 1) (wipeS e own) (acc ++ [y])
    | none => P (i + 1) (wipeS e own) acc) {env : Env} {Q : List D → Env → Prop} (h0 : P 0 env []) (fin : ∀ env acc, P xs.length env acc → Q acc env) : wp (compL turn own xs env []) Q := by
  have key : ∀ n i env acc, xs.length - i = n → i ≤ xs.length → P i env acc → wp (compL turn own (xs.drop i) env acc) Q := by
    intro n
    induction n with
    | zero =>
      intro i env acc hn hi hp
      have : i = xs.length := by omega
      subst this
      rw [List.drop_length]
      exact wp_some.mpr (fin env acc hp)
    | succ n ih =>
      intro i env acc hn hi hp
      have hlt : i < xs.length := by omega
      rw [List.drop_eq_getElem_cons hlt]
      unfold compL
      refine wp_bnd.mpr (wp_imp (step i _ env acc (List.getElem?_eq_getElem hlt) hp) fun y e q => ?_)
      cases y with
      | some y =>
        simp only at q ⊢
        rw [if_pos q.1]
        exact ih (i + 1) _ _ (by omega) hlt q.2
      | none => exact ih (i + 1) _ _ (by omega) hlt q
  simpa using key xs.length 0 env [] rfl (Nat.zero_le _) h0
theorem forL_wp {b : D → Env → Option (Fl × Env)} (P : Nat → Env → Prop) {xs : List D} {Q : Fl → Env → Prop} (step : ∀ i x env, xs[i]? = some x → P i env → wp (b x env) fun f e => match f with
    | .nx => P (i + 1) e
    | .ct => P (i + 1) e
    | .bk => Q .nx e
    | .rt w => Q (.rt w) e) {env : Env} (h0 : P 0 env) (fin : ∀ env, P xs.length env → Q .nx env) : wp (forL b xs env) Q := by
  have key : ∀ n i env, xs.length - i = n → i ≤ xs.length → P i env → wp (forL b (xs.drop i) env) Q := by
    intro n
    induction n with
    | zero =>
      intro i env hn hi hp
      have : i = xs.length := by omega
      subst this
      rw [List.drop_length]
      exact wp_some.mpr (fin env hp)
    | succ n ih =>
      intro i env hn hi hp
      have hlt : i < xs.length := by omega
      rw [List.drop_eq_getElem_cons hlt]
      unfold forL
      refine wp_bnd.mpr (wp_imp (step i _ env (List.getElem?_eq_getElem hlt) hp) fun f e q => ?_)
      cases f with
      | nx => exact ih (i + 1) _ (by omega) hlt q
      | ct => exact ih (i + 1) _ (by omega) hlt q
      | bk => exact wp_some.mpr q
      | rt w => exact wp_some.mpr q
  simpa using key xs.length 0 env rfl (Nat.zero_le _) h0
theorem whlN_succ {c : Env → Option (Va × Env)} {b : Env → Option (Fl × Env)} : ∀ (n : Nat) {env : Env} {r : Fl × Env}, whlN c b n env = some r → whlN c b (n + 1) env = some r
  | 0, _, _, h => by simp [whlN] at h
  | n + 1, env, r, h => by
    unfold whlN at h ⊢
    cases hc : c env with
    | none => rw [hc] at h; cases h
    | some p =>
      obtain ⟨w, e⟩ := p
      rw [hc] at h
      simp only [bnd_some, Option.bind_eq_some_iff] at h ⊢
      obtain ⟨t, h1, h2⟩ := h
      refine ⟨t, h1, ?_⟩
      by_cases ht : t = true
      · rw [if_pos ht] at h2 ⊢
        cases hb : b e with
        | none => rw [hb] at h2; cases h2
        | some p2 =>
          obtain ⟨f, e'⟩ := p2
          rw [hb] at h2
          simp only [bnd_some] at h2 ⊢
          cases f with
          | nx => exact whlN_succ n h2
          | ct => exact whlN_succ n h2
          | bk => exact h2
          | rt w => exact h2
      · rw [if_neg ht] at h2 ⊢
        exact h2
theorem whlN_mono {c : Env → Option (Va × Env)} {b : Env → Option (Fl × Env)} {m n : Nat} {env : Env} {r : Fl × Env} (h : whlN c b m env = some r) (hmn : m ≤ n) : whlN c b n env = some r := by
  induction n with
  | zero =>
    have : m = 0 := by omega
    rw [this] at h
    exact h
  | succ n ih =>
    by_cases hm : m = n + 1
    · rw [hm] at h; exact h
    · exact whlN_succ n (ih (by omega))
theorem whl_of {c : Env → Option (Va × Env)} {b : Env → Option (Fl × Env)} {n : Nat} {env : Env} {r : Fl × Env} (h : whlN c b n env = some r) : whl c b env = some r := by
  have ex : ∃ n, (whlN c b n env).isSome = true := ⟨n, by rw [h]; rfl⟩
  unfold whl
  rw [dif_pos ex]
  have h2 := ex.choose_spec
  cases e : whlN c b ex.choose env with
  | none => rw [e] at h2; cases h2
  | some r2 =>
    have a := whlN_mono e (Nat.le_max_left _ n)
    have b := whlN_mono h (Nat.le_max_right ex.choose _)
    rw [a] at b
    exact b
theorem whl_wp {c : Env → Option (Va × Env)} {b : Env → Option (Fl × Env)} (P : Nat → Env → Prop) {Q : Fl → Env → Prop} (step : ∀ m env, P m env → wp (c env) fun w e => ∃ t, asB w = some t ∧ if t = true then wp (b e) (fun f e' => match f with
    | .nx => ∃ m', m' < m ∧ P m' e'
    | .ct => ∃ m', m' < m ∧ P m' e'
    | .bk => Q .nx e'
    | .rt w => Q (.rt w) e') else Q .nx e) {m : Nat} {env : Env} (h0 : P m env) : wp (whl c b env) Q := by
  have key : ∀ m env, P m env → ∃ n f e, whlN c b n env = some (f, e) ∧ Q f e := by
    intro m
    induction m using Nat.strongRecOn with
    | _ m ih =>
      intro env hp
      obtain ⟨w, e, h1, t, h2, h3⟩ := step m env hp
      cases t with
      | false =>
        rw [if_neg Bool.false_ne_true] at h3
        exact ⟨1, .nx, e, by simp [whlN, h1, h2], h3⟩
      | true =>
        rw [if_pos rfl] at h3
        obtain ⟨f, e', h4, h5⟩ := h3
        cases f with
        | nx =>
          obtain ⟨m', hm, hp'⟩ := h5
          obtain ⟨n, f, e2, h6, h7⟩ := ih m' hm e' hp'
          exact ⟨n + 1, f, e2, by simp [whlN, h1, h2, h4, h6], h7⟩
        | ct =>
          obtain ⟨m', hm, hp'⟩ := h5
          obtain ⟨n, f, e2, h6, h7⟩ := ih m' hm e' hp'
          exact ⟨n + 1, f, e2, by simp [whlN, h1, h2, h4, h6], h7⟩
        | bk => exact ⟨1, .nx, e', by simp [whlN, h1, h2, h4], h5⟩
        | rt w => exact ⟨1, .rt w, e', by simp [whlN, h1, h2, h4], h5⟩
  obtain ⟨n, f, e, h1, h2⟩ := key m env h0
  exact ⟨f, e, whl_of h1, h2⟩
/-! ### the evaluator's equations -/
section
variable {Φ : Nat → List Va → Option (Va × List Va)} {Γ : Nat → Option D} {e : Env}
@[simp] theorem v_var (i : Nat) : evE Φ Γ (.var i) e = useS e i := by rw [evE]
@[simp] theorem v_glb (g : Nat) : evE Φ Γ (.glb g) e = (Γ g).map fun x => (.d x, e) := by rw [evE]
@[simp] theorem v_lit (x : D) : evE Φ Γ (.lit x) e = some (.d x, e) := by rw [evE]
@[simp] theorem v_neg (a : CE) : evE Φ Γ (.neg a) e = un1 negS (opnd a (evE Φ Γ a)) e := by rw [evE]
@[simp] theorem v_bin (o : Operator) (a b : CE) : evE Φ Γ (.bin o a b) e = un2 (binS o) (opnd a (evE Φ Γ a)) (opnd b (evE Φ Γ b)) e := by rw [evE]
@[simp] theorem v_cmp (o : CmpOp) (a b : CE) : evE Φ Γ (.cmp o a b) e = un2 (cmpS o) (opnd a (evE Φ Γ a)) (opnd b (evE Φ Γ b)) e := by rw [evE]
@[simp] theorem v_cmp2 (o p : CmpOp) (a b c : CE) : evE Φ Γ (.cmp2 o p a b c) e = un3 (cmpS o) (cmpS p) (opnd a (evE Φ Γ a)) (opnd b (evE Φ Γ b)) (opnd c (evE Φ Γ c)) e := by rw [evE]
@[simp] theorem v_and (as : CEs) : evE Φ Γ (.and as) e = evAnd Φ Γ as e := by rw [evE]
@[simp] theorem v_or (as : CEs) : evE Φ Γ (.or as) e = evOr Φ Γ as e := by rw [evE]
@[simp] theorem v_not (a : CE) : evE Φ Γ (.not a) e = bnd (evE Φ Γ a e) fun w e => (asB w).map fun b => (.d (.bl (!b)), e) := by rw [evE]
@[simp] theorem v_ife (c a b : CE) : evE Φ Γ (.ife c a b) e = bnd (evE Φ Γ c e) fun w e => (asB w).bind fun t => if t = true then evE Φ Γ a e else evE Φ Γ b e := by rw [evE]
@[simp] theorem v_sub (a b : CE) : evE Φ Γ (.sub a b) e = un2 itemS (opnd a (evE Φ Γ a)) (opnd b (evE Φ Γ b)) e := by rw [evE]
@[simp] theorem v_slc (a : CE) (lo hi : CO) : evE Φ Γ (.slc a lo hi) e = bnd (opnd a (evE Φ Γ a) e) fun p e1 => bnd (evO Φ Γ lo e1) fun l e2 => bnd (evO Φ Γ hi e2) fun h e3 => (resP p e3).bind fun x => (cutS x l h).map fun w => (w, e3) := by rw [evE]
@[simp] theorem v_tup (as : CEs) : evE Φ Γ (.tup as) e = bnd (evFs Φ Γ as e) fun xs e => if xs.length ≤ szL then some (.d (.tup xs), e) else none := by rw [evE]
@[simp] theorem v_lst (as : CEs) : evE Φ Γ (.lst as) e = bnd (evFs Φ Γ as e) fun xs e => if xs.length ≤ szL then some (.ls xs, e) else none := by rw [evE]
@[simp] theorem v_dnew : evE Φ Γ .dnew e = some (.dc [], e) := by rw [evE]
@[simp] theorem v_cb (f : BN) (as : CEs) : evE Φ Γ (.cb f as) e = unN (cbS f) (evPs Φ Γ as) e := by rw [evE]
@[simp] theorem v_isi (a : CE) (ts : List TN) : evE Φ Γ (.isi a ts) e = un1 (isiS ts) (opnd a (evE Φ Γ a)) e := by rw [evE]
@[simp] theorem v_cf (f : Nat) (as : CEs) : evE Φ Γ (.cf f as) e = bnd (evPs Φ Γ as e) fun ps e => callS Φ f ps e := by rw [evE]
@[simp] theorem v_mt (m : MN) (a : CE) (as : CEs) : evE Φ Γ (.mt m a as) e = bnd (opnd a (evE Φ Γ a) e) fun p e1 => (resP p e1).bind fun x0 => if mtOk m x0 = false then none else bnd (evPs Φ Γ as e1) fun ps e2 => (resP p e2).bind fun x => (resPs ps e2).bind fun xs => (mtS m x xs).map fun w => (w, e2) := by rw [evE]
@[simp] theorem v_popI (i : Nat) (a : CE) : evE Φ Γ (.popI i a) e = if lsAt e i = true then bnd (fopn a (evE Φ Γ a) e) fun y e1 => popIS e1 i y else none := by rw [evE]
@[simp] theorem v_sdf (i : Nat) (a b : CE) : evE Φ Γ (.sdf i a b) e = if dcAt e i = true then bnd (fopn a (evE Φ Γ a) e) fun y e1 => bnd (fopn b (evE Φ Γ b) e1) fun z e2 => sdfIS e2 i y z else none := by rw [evE]
@[simp] theorem v_popV (i : Nat) : evE Φ Γ (.popV i) e = popS e i := by rw [evE]
def turnS (Φ : Nat → List Va → Option (Va × List Va)) (Γ : Nat → Option D) (tg : Tg) (cs : CEs) (el : CE) (x : D) (e2 : Env) : Option (Option D × Env) :=
  (tgS tg x e2).bind fun e3 => bnd (evCs Φ Γ cs e3) fun t e4 => if t = true then bnd (fopn el (evE Φ Γ el) e4) fun y e5 => some (some y, e5) else some (none, e4)
@[simp] theorem v_comp (own : List (Str × Nat)) (tg : Tg) (it : CI) (cs : CEs) (el : CE) : evE Φ Γ (.comp own tg it cs el) e = bnd (evI Φ Γ it e) fun xs e1 => bnd (compL (turnS Φ Γ tg cs el) (own.map (·.2)) xs (wipeS e1 (own.map (·.2))) []) fun ys e6 => some (.ls ys, e6) := by
  rw [evE]
  rfl
@[simp] theorem v_fz (a : CE) : evE Φ Γ (.fz a) e = bnd (fopn a (evE Φ Γ a) e) fun x e => some (.d x, e) := by rw [evE]
@[simp] theorem v_dlit (ks : List (List Nat)) (as : CEs) : evE Φ Γ (.dlit ks as) e = bnd (evFs Φ Γ as e) fun xs e => if ks.length = xs.length ∧ ks.length ≤ 15 then some (.dc (intoKeys [] (ks.zip xs)), e) else none := by rw [evE]
@[simp] theorem v_lzip (as : CEs) : evE Φ Γ (.lzip as) e = unN zipN (evPs Φ Γ as) e := by rw [evE]
@[simp] theorem v_rev1 (a : CE) : evE Φ Γ (.rev1 a) e = un1 rev1S (opnd a (evE Φ Γ a)) e := by rw [evE]
@[simp] theorem v_orv (a b : CE) : evE Φ Γ (.orv a b) e = bnd (evE Φ Γ a e) (orvS (evE Φ Γ b)) := by rw [evE]
@[simp] theorem orv_nil {r2 : Env → Option (Va × Env)} {e : Env} : orvS r2 (.d (.tup [])) e = r2 e := rfl
@[simp] theorem orv_cons {r2 : Env → Option (Va × Env)} {e : Env} {x : D} {r : List D} : orvS r2 (.d (.tup (x :: r))) e = some (.d (.tup (x :: r)), e) := rfl
@[simp] theorem v_ssrt (a : CE) : evE Φ Γ (.ssrt a) e = un1 ssrtS (opnd a (evE Φ Γ a)) e := by rw [evE]
@[simp] theorem v_slen (a : CE) : evE Φ Γ (.slen a) e = un1 slenS (opnd a (evE Φ Γ a)) e := by rw [evE]
@[simp] theorem v_rev (a : CE) : evE Φ Γ (.rev a) e = un1 revS (opnd a (evE Φ Γ a)) e := by rw [evE]
@[simp] theorem v_lln : evE Φ Γ .lln e = some (.ll [[]], e) := by rw [evE]
@[simp] theorem v_lasE (i : Nat) : evE Φ Γ (.lasE i) e = lasS e i := by rw [evE]
@[simp] theorem v_popT (i : Nat) : evE Φ Γ (.popT i) e = popTS e i := by rw [evE]
@[simp] theorem v_rowT (i : Nat) : evE Φ Γ (.rowT i) e = rowTS e i := by rw [evE]
@[simp] theorem v_keysL (i : Nat) : evE Φ Γ (.keysL i) e = keysLS e i := by rw [evE]
@[simp] theorem v_dl1 (a b : CE) : evE Φ Γ (.dl1 a b) e = bnd (fopn a (evE Φ Γ a) e) fun x e1 => bnd (fopn b (evE Φ Γ b) e1) fun y e2 => dl1S x y e2 := by rw [evE]
@[simp] theorem dl1_s {s : List Nat} {y : D} : dl1S (.str s) y e = some (.dc [(s, y)], e) := rfl
@[simp] theorem v_dg2 (i : Nat) (a b : CE) : evE Φ Γ (.dg2 i a b) e = if (dictAt e i).isSome = true then bnd (fopn a (evE Φ Γ a) e) fun x e1 => bnd (fopn b (evE Φ Γ b) e1) fun y e2 => dg2S e2 i x y else none := by rw [evE]
@[simp] theorem v_up (a : CE) : evE Φ Γ (.up a) e = un1 (caseS upC) (opnd a (evE Φ Γ a)) e := by rw [evE]
@[simp] theorem v_lo (a : CE) : evE Φ Γ (.lo a) e = un1 (caseS loC) (opnd a (evE Φ Γ a)) e := by rw [evE]
@[simp] theorem and_1 (a : CE) : evAnd Φ Γ (.cons a .nil) e = evE Φ Γ a e := by rw [evAnd]
@[simp] theorem and_2 (a b : CE) (r : CEs) : evAnd Φ Γ (.cons a (.cons b r)) e = bnd (evE Φ Γ a e) fun w e => (asB w).bind fun t => if t = true then evAnd Φ Γ (.cons b r) e else some (.d (.bl false), e) := by rw [evAnd]
@[simp] theorem or_1 (a : CE) : evOr Φ Γ (.cons a .nil) e = evE Φ Γ a e := by rw [evOr]
@[simp] theorem or_2 (a b : CE) (r : CEs) : evOr Φ Γ (.cons a (.cons b r)) e = bnd (evE Φ Γ a e) fun w e => (asB w).bind fun t => if t = true then some (.d (.bl true), e) else evOr Φ Γ (.cons b r) e := by rw [evOr]
@[simp] theorem ps_nil : evPs Φ Γ .nil e = some ([], e) := by rw [evPs]
@[simp] theorem ps_cons (a : CE) (r : CEs) : evPs Φ Γ (.cons a r) e = bnd (opnd a (evE Φ Γ a) e) fun p e1 => bnd (evPs Φ Γ r e1) fun ps e2 => some (p :: ps, e2) := by rw [evPs]
@[simp] theorem fs_nil : evFs Φ Γ .nil e = some ([], e) := by rw [evFs]
@[simp] theorem fs_cons (a : CE) (r : CEs) : evFs Φ Γ (.cons a r) e = bnd (fopn a (evE Φ Γ a) e) fun p e1 => bnd (evFs Φ Γ r e1) fun ps e2 => some (p :: ps, e2) := by rw [evFs]
@[simp] theorem cs_nil : evCs Φ Γ .nil e = some (true, e) := by rw [evCs]
@[simp] theorem cs_cons (a : CE) (r : CEs) : evCs Φ Γ (.cons a r) e = bnd (evE Φ Γ a e) fun w e => (asB w).bind fun t => if t = true then evCs Φ Γ r e else some (false, e) := by rw [evCs]
@[simp] theorem o_none' : evO Φ Γ .none e = some (none, e) := by rw [evO]
@[simp] theorem o_some' (a : CE) : evO Φ Γ (.some a) e = bnd (evE Φ Γ a e) fun w e => (asI w).map fun i => (some i, e) := by rw [evO]
@[simp] theorem i_it' (a : CE) : evI Φ Γ (.it a) e = bnd (fopn a (evE Φ Γ a) e) fun x e => (itemsD x).map fun xs => (xs, e) := by rw [evI]
@[simp] theorem i_zip' (as : CEs) : evI Φ Γ (.zip as) e = bnd (evPs Φ Γ as e) fun ps e => (resPs ps e).bind fun ws => (zipT ws).map fun xs => (xs, e) := by rw [evI]
@[simp] theorem i_rng' (as : CEs) : evI Φ Γ (.rng as) e = bnd (evPs Φ Γ as e) fun ps e => (resPs ps e).bind fun ws => (rngS ws).map fun xs => (xs, e) := by rw [evI]
@[simp] theorem x_asg (i : Nat) (a : CE) : exS Φ Γ (.asg i a) e = bnd (evE Φ Γ a e) fun w e1 => some (.nx, e1.set i (some w)) := by rw [exS]
@[simp] theorem x_asgT (is : List Nat) (a : CE) : exS Φ Γ (.asgT is a) e = bnd (fopn a (evE Φ Γ a) e) fun x e1 => (tgS (.many is) x e1).map fun e2 => (.nx, e2) := by rw [exS]
@[simp] theorem x_expr (a : CE) : exS Φ Γ (.expr a) e = bnd (evE Φ Γ a e) fun _ e1 => some (.nx, e1) := by rw [exS]
@[simp] theorem x_app (i : Nat) (a : CE) : exS Φ Γ (.app i a) e = if lsAt e i = true then bnd (fopn a (evE Φ Γ a) e) fun x e1 => appS e1 i x else none := by rw [exS]
@[simp] theorem x_ext (i : Nat) (a : CE) : exS Φ Γ (.ext i a) e = if lsAt e i = true then bnd (opnd a (evE Φ Γ a) e) fun p e1 => (resP p e1).bind fun y => extS e1 i y else none := by rw [exS]
@[simp] theorem x_setI (i : Nat) (k a : CE) : exS Φ Γ (.setI i k a) e = bnd (fopn a (evE Φ Γ a) e) fun x e1 => if (getS e1 i).isSome = false then none else bnd (opnd k (evE Φ Γ k) e1) fun p e2 => (resP p e2).bind fun y => setIS e2 i y x := by rw [exS]
@[simp] theorem x_aug (i : Nat) (o : Operator) (a : CE) : exS Φ Γ (.aug i o a) e = (getS e i).bind fun x => bnd (evE Φ Γ a e) fun y e1 => (augS o x y).map fun w => (.nx, e1.set i (some w)) := by rw [exS]
@[simp] theorem x_ite (c : CE) (a b : CB) : exS Φ Γ (.ite c a b) e = bnd (evE Φ Γ c e) fun w e => (asB w).bind fun t => if t = true then exB Φ Γ a e else exB Φ Γ b e := by rw [exS]
@[simp] theorem x_whl (c : CE) (b : CB) : exS Φ Γ (.whl c b) e = whl (evE Φ Γ c) (exB Φ Γ b) e := by rw [exS]
noncomputable def forS (Φ : Nat → List Va → Option (Va × List Va)) (Γ : Nat → Option D) (tg : Tg) (b : CB) (x : D) (e : Env) : Option (Fl × Env) := (tgS tg x e).bind fun e2 => exB Φ Γ b e2
@[simp] theorem x_for (tg : Tg) (it : CI) (b : CB) : exS Φ Γ (.for_ tg it b) e = bnd (evI Φ Γ it e) fun xs e1 => forL (forS Φ Γ tg b) xs e1 := by
  rw [exS]
  rfl
@[simp] theorem x_ret (a : CE) : exS Φ Γ (.ret a) e = bnd (evE Φ Γ a e) fun w e1 => some (.rt w, e1) := by rw [exS]
@[simp] theorem x_retN : exS Φ Γ .retN e = some (.rt (.d .non), e) := by rw [exS]
@[simp] theorem x_appN (i : Nat) : exS Φ Γ (.appN i) e = appNS e i := by rw [exS]
@[simp] theorem x_appL (i : Nat) (a : CE) : exS Φ Γ (.appL i a) e = appLS (fopn a (evE Φ Γ a)) e i := by rw [exS]
@[simp] theorem x_rse : exS Φ Γ .rse e = none := by rw [exS]
@[simp] theorem x_upd (i : Nat) (a : CE) : exS Φ Γ (.upd i a) e = if dcAt e i = true then bnd (evE Φ Γ a e) fun y e1 => updS e1 i y else none := by rw [exS]
@[simp] theorem x_par (i j : Nat) (a b : CE) : exS Φ Γ (.par i j a b) e = bnd (fopn a (evE Φ Γ a) e) fun x e1 => bnd (fopn b (evE Φ Γ b) e1) fun y e2 => some (.nx, (e2.set i (some (.d x))).set j (some (.d y))) := by rw [exS]
@[simp] theorem x_pass : exS Φ Γ .pass e = some (.nx, e) := by rw [exS]
@[simp] theorem x_brk : exS Φ Γ .brk e = some (.bk, e) := by rw [exS]
@[simp] theorem x_cnt : exS Φ Γ .cnt e = some (.ct, e) := by rw [exS]
@[simp] theorem y_nil : exB Φ Γ .nil e = some (.nx, e) := by rw [exB]
@[simp] theorem y_cons (s : CS) (r : CB) : exB Φ Γ (.cons s r) e = bnd (exS Φ Γ s e) fun f e => seqF f e (exB Φ Γ r) := b_cons' s r e
end
/-! ### operands -/
section
variable {ev : Env → Option (Va × Env)} {e : Env}
/-- an operand that is no name -/
def isVar : CE → Bool
  | .var _ => true
  | _ => false
theorem opnd_no {c : CE} (h : isVar c = false) : opnd c ev e = bnd (ev e) fun w e => some (.val w, e) := by
  cases c <;> first | rfl | cases h
theorem fopn_no {c : CE} (h : isVar c = false) : fopn c ev e = bnd (ev e) fun w e => (fzV w).map fun x => (x, e) := by
  cases c <;> first | rfl | cases h
@[simp] theorem opn_glb {g} : opnd (.glb g) ev e = bnd (ev e) fun w e => some (.val w, e) := rfl
@[simp] theorem fop_glb {g} : fopn (.glb g) ev e = bnd (ev e) fun w e => (fzV w).map fun x => (x, e) := rfl
@[simp] theorem opn_lit {x} : opnd (.lit x) ev e = bnd (ev e) fun w e => some (.val w, e) := rfl
@[simp] theorem fop_lit {x} : fopn (.lit x) ev e = bnd (ev e) fun w e => (fzV w).map fun x => (x, e) := rfl
@[simp] theorem opn_neg {a} : opnd (.neg a) ev e = bnd (ev e) fun w e => some (.val w, e) := rfl
@[simp] theorem fop_neg {a} : fopn (.neg a) ev e = bnd (ev e) fun w e => (fzV w).map fun x => (x, e) := rfl
@[simp] theorem opn_bin {o} {a} {b} : opnd (.bin o a b) ev e = bnd (ev e) fun w e => some (.val w, e) := rfl
@[simp] theorem fop_bin {o} {a} {b} : fopn (.bin o a b) ev e = bnd (ev e) fun w e => (fzV w).map fun x => (x, e) := rfl
@[simp] theorem opn_cmp {o} {a} {b} : opnd (.cmp o a b) ev e = bnd (ev e) fun w e => some (.val w, e) := rfl
@[simp] theorem fop_cmp {o} {a} {b} : fopn (.cmp o a b) ev e = bnd (ev e) fun w e => (fzV w).map fun x => (x, e) := rfl
@[simp] theorem opn_cmp2 {o} {p} {a} {b} {c} : opnd (.cmp2 o p a b c) ev e = bnd (ev e) fun w e => some (.val w, e) := rfl
@[simp] theorem fop_cmp2 {o} {p} {a} {b} {c} : fopn (.cmp2 o p a b c) ev e = bnd (ev e) fun w e => (fzV w).map fun x => (x, e) := rfl
@[simp] theorem opn_and {as} : opnd (.and as) ev e = bnd (ev e) fun w e => some (.val w, e) := rfl
@[simp] theorem fop_and {as} : fopn (.and as) ev e = bnd (ev e) fun w e => (fzV w).map fun x => (x, e) := rfl
@[simp] theorem opn_or {as} : opnd (.or as) ev e = bnd (ev e) fun w e => some (.val w, e) := rfl
@[simp] theorem fop_or {as} : fopn (.or as) ev e = bnd (ev e) fun w e => (fzV w).map fun x => (x, e) := rfl
@[simp] theorem opn_not {a} : opnd (.not a) ev e = bnd (ev e) fun w e => some (.val w, e) := rfl
@[simp] theorem fop_not {a} : fopn (.not a) ev e = bnd (ev e) fun w e => (fzV w).map fun x => (x, e) := rfl
@[simp] theorem opn_ife {c} {a} {b} : opnd (.ife c a b) ev e = bnd (ev e) fun w e => some (.val w, e) := rfl
@[simp] theorem fop_ife {c} {a} {b} : fopn (.ife c a b) ev e = bnd (ev e) fun w e => (fzV w).map fun x => (x, e) := rfl
@[simp] theorem opn_sub {a} {b} : opnd (.sub a b) ev e = bnd (ev e) fun w e => some (.val w, e) := rfl
@[simp] theorem fop_sub {a} {b} : fopn (.sub a b) ev e = bnd (ev e) fun w e => (fzV w).map fun x => (x, e) := rfl
@[simp] theorem opn_slc {a} {lo} {hi} : opnd (.slc a lo hi) ev e = bnd (ev e) fun w e => some (.val w, e) := rfl
@[simp] theorem fop_slc {a} {lo} {hi} : fopn (.slc a lo hi) ev e = bnd (ev e) fun w e => (fzV w).map fun x => (x, e) := rfl
@[simp] theorem opn_tup {as} : opnd (.tup as) ev e = bnd (ev e) fun w e => some (.val w, e) := rfl
@[simp] theorem fop_tup {as} : fopn (.tup as) ev e = bnd (ev e) fun w e => (fzV w).map fun x => (x, e) := rfl
@[simp] theorem opn_lst {as} : opnd (.lst as) ev e = bnd (ev e) fun w e => some (.val w, e) := rfl
@[simp] theorem fop_lst {as} : fopn (.lst as) ev e = bnd (ev e) fun w e => (fzV w).map fun x => (x, e) := rfl
@[simp] theorem opn_dnew : opnd .dnew ev e = bnd (ev e) fun w e => some (.val w, e) := rfl
@[simp] theorem fop_dnew : fopn .dnew ev e = bnd (ev e) fun w e => (fzV w).map fun x => (x, e) := rfl
@[simp] theorem opn_cb {f} {as} : opnd (.cb f as) ev e = bnd (ev e) fun w e => some (.val w, e) := rfl
@[simp] theorem fop_cb {f} {as} : fopn (.cb f as) ev e = bnd (ev e) fun w e => (fzV w).map fun x => (x, e) := rfl
@[simp] theorem opn_isi {a} {ts} : opnd (.isi a ts) ev e = bnd (ev e) fun w e => some (.val w, e) := rfl
@[simp] theorem fop_isi {a} {ts} : fopn (.isi a ts) ev e = bnd (ev e) fun w e => (fzV w).map fun x => (x, e) := rfl
@[simp] theorem opn_cf {f} {as} : opnd (.cf f as) ev e = bnd (ev e) fun w e => some (.val w, e) := rfl
@[simp] theorem fop_cf {f} {as} : fopn (.cf f as) ev e = bnd (ev e) fun w e => (fzV w).map fun x => (x, e) := rfl
@[simp] theorem opn_mt {m} {a} {as} : opnd (.mt m a as) ev e = bnd (ev e) fun w e => some (.val w, e) := rfl
@[simp] theorem fop_mt {m} {a} {as} : fopn (.mt m a as) ev e = bnd (ev e) fun w e => (fzV w).map fun x => (x, e) := rfl
@[simp] theorem opn_sdf {i a b} : opnd (.sdf i a b) ev e = bnd (ev e) fun w e => some (.val w, e) := rfl
@[simp] theorem fop_sdf {i a b} : fopn (.sdf i a b) ev e = bnd (ev e) fun w e => (fzV w).map fun x => (x, e) := rfl
@[simp] theorem opn_popI {i a} : opnd (.popI i a) ev e = bnd (ev e) fun w e => some (.val w, e) := rfl
@[simp] theorem fop_popI {i a} : fopn (.popI i a) ev e = bnd (ev e) fun w e => (fzV w).map fun x => (x, e) := rfl
@[simp] theorem opn_popV {i} : opnd (.popV i) ev e = bnd (ev e) fun w e => some (.val w, e) := rfl
@[simp] theorem fop_popV {i} : fopn (.popV i) ev e = bnd (ev e) fun w e => (fzV w).map fun x => (x, e) := rfl
@[simp] theorem opn_comp {own} {tg} {it} {cs} {el} : opnd (.comp own tg it cs el) ev e = bnd (ev e) fun w e => some (.val w, e) := rfl
@[simp] theorem fop_comp {own} {tg} {it} {cs} {el} : fopn (.comp own tg it cs el) ev e = bnd (ev e) fun w e => (fzV w).map fun x => (x, e) := rfl
@[simp] theorem opn_fz {a} : opnd (.fz a) ev e = bnd (ev e) fun w e => some (.val w, e) := rfl
@[simp] theorem fop_fz {a} : fopn (.fz a) ev e = bnd (ev e) fun w e => (fzV w).map fun x => (x, e) := rfl
@[simp] theorem opn_dlit {ks as} : opnd (.dlit ks as) ev e = bnd (ev e) fun w e => some (.val w, e) := rfl
@[simp] theorem fop_dlit {ks as} : fopn (.dlit ks as) ev e = bnd (ev e) fun w e => (fzV w).map fun x => (x, e) := rfl
@[simp] theorem opn_lzip {as} : opnd (.lzip as) ev e = bnd (ev e) fun w e => some (.val w, e) := rfl
@[simp] theorem fop_lzip {as} : fopn (.lzip as) ev e = bnd (ev e) fun w e => (fzV w).map fun x => (x, e) := rfl
@[simp] theorem opn_rev1 {a} : opnd (.rev1 a) ev e = bnd (ev e) fun w e => some (.val w, e) := rfl
@[simp] theorem opn_lln : opnd .lln ev e = bnd (ev e) fun w e => some (.val w, e) := rfl
@[simp] theorem fop_lln : fopn .lln ev e = bnd (ev e) fun w e => (fzV w).map fun x => (x, e) := rfl
@[simp] theorem opn_lasE {i} : opnd (.lasE i) ev e = bnd (ev e) fun w e => some (.val w, e) := rfl
@[simp] theorem fop_lasE {i} : fopn (.lasE i) ev e = bnd (ev e) fun w e => (fzV w).map fun x => (x, e) := rfl
@[simp] theorem opn_popT {i} : opnd (.popT i) ev e = bnd (ev e) fun w e => some (.val w, e) := rfl
@[simp] theorem fop_popT {i} : fopn (.popT i) ev e = bnd (ev e) fun w e => (fzV w).map fun x => (x, e) := rfl
@[simp] theorem opn_rowT {i} : opnd (.rowT i) ev e = bnd (ev e) fun w e => some (.val w, e) := rfl
@[simp] theorem fop_rowT {i} : fopn (.rowT i) ev e = bnd (ev e) fun w e => (fzV w).map fun x => (x, e) := rfl
@[simp] theorem opn_keysL {i} : opnd (.keysL i) ev e = bnd (ev e) fun w e => some (.val w, e) := rfl
@[simp] theorem fop_keysL {i} : fopn (.keysL i) ev e = bnd (ev e) fun w e => (fzV w).map fun x => (x, e) := rfl
@[simp] theorem opn_dl1 {a b} : opnd (.dl1 a b) ev e = bnd (ev e) fun w e => some (.val w, e) := rfl
@[simp] theorem fop_dl1 {a b} : fopn (.dl1 a b) ev e = bnd (ev e) fun w e => (fzV w).map fun x => (x, e) := rfl
@[simp] theorem opn_dg2 {i a b} : opnd (.dg2 i a b) ev e = bnd (ev e) fun w e => some (.val w, e) := rfl
@[simp] theorem fop_dg2 {i a b} : fopn (.dg2 i a b) ev e = bnd (ev e) fun w e => (fzV w).map fun x => (x, e) := rfl
@[simp] theorem opn_orv {a b} : opnd (.orv a b) ev e = bnd (ev e) fun w e => some (.val w, e) := rfl
@[simp] theorem fop_rev1 {a} : fopn (.rev1 a) ev e = bnd (ev e) fun w e => (fzV w).map fun x => (x, e) := rfl
@[simp] theorem fop_orv {a b} : fopn (.orv a b) ev e = bnd (ev e) fun w e => (fzV w).map fun x => (x, e) := rfl
@[simp] theorem opn_ssrt {a} : opnd (.ssrt a) ev e = bnd (ev e) fun w e => some (.val w, e) := rfl
@[simp] theorem opn_slen {a} : opnd (.slen a) ev e = bnd (ev e) fun w e => some (.val w, e) := rfl
@[simp] theorem fop_ssrt {a} : fopn (.ssrt a) ev e = bnd (ev e) fun w e => (fzV w).map fun x => (x, e) := rfl
@[simp] theorem fop_slen {a} : fopn (.slen a) ev e = bnd (ev e) fun w e => (fzV w).map fun x => (x, e) := rfl
@[simp] theorem opn_rev {a} : opnd (.rev a) ev e = bnd (ev e) fun w e => some (.val w, e) := rfl
@[simp] theorem fop_rev {a} : fopn (.rev a) ev e = bnd (ev e) fun w e => (fzV w).map fun x => (x, e) := rfl
@[simp] theorem opn_up {a} : opnd (.up a) ev e = bnd (ev e) fun w e => some (.val w, e) := rfl
@[simp] theorem fop_up {a} : fopn (.up a) ev e = bnd (ev e) fun w e => (fzV w).map fun x => (x, e) := rfl
@[simp] theorem opn_lo {a} : opnd (.lo a) ev e = bnd (ev e) fun w e => some (.val w, e) := rfl
@[simp] theorem fop_lo {a} : fopn (.lo a) ev e = bnd (ev e) fun w e => (fzV w).map fun x => (x, e) := rfl
def opV (e : Env) (i : Nat) : Option (PV × Env) := (getS e i).map fun _ => (.slot i, e)
@[simp] theorem op_v (i : Nat) : opnd (.var i) ev e = opV e i := by
  simp only [opnd, opV]
  cases getS e i <;> rfl
@[simp] theorem fop_v (i : Nat) : fopn (.var i) ev e = fzS e i := rfl
end
/-! ### places -/
section
variable {e : Env} {i : Nat} {w : Va} {x : D}
@[simp] theorem opV_some (h : getS e i = some w) : opV e i = some (.slot i, e) := by simp [opV, h]
def useV (o : Option Va) (e : Env) (i : Nat) : Option (Va × Env) := match o with
  | some (.d x) => some (.d x, e)
  | some w => some (w, e.set i none)
  | none => none
@[simp] theorem useS_eq : useS e i = useV (getS e i) e i := by
  unfold useS useV
  cases getS e i with
  | none => rfl
  | some w => cases w <;> rfl
section
variable {xs ys : List D} {kvs : List (List Nat × D)} {cs : List Int} {s n : Int}
@[simp] theorem useV_d : useV (some (.d x)) e i = some (.d x, e) := rfl
@[simp] theorem useV_ls : useV (some (.ls xs)) e i = some (.ls xs, e.set i none) := rfl
@[simp] theorem useV_dc : useV (some (.dc kvs)) e i = some (.dc kvs, e.set i none) := rfl
@[simp] theorem useV_dk : useV (some (.dk cs s n)) e i = some (.dk cs s n, e.set i none) := rfl
@[simp] theorem useV_dl : useV (some (.dl cs s)) e i = some (.dl cs s, e.set i none) := rfl
@[simp] theorem useV_dd : useV (some (.dd cs n s)) e i = some (.dd cs n s, e.set i none) := rfl
@[simp] theorem useV_scr : useV (some (.scr cs)) e i = some (.scr cs, e.set i none) := rfl
def fzO (o : Option Va) (e : Env) (i : Nat) : Option (D × Env) := match o with
  | some (.d x) => some (x, e)
  | some w => (fzV w).map fun x => (x, e.set i (some (.d x)))
  | none => none
@[simp] theorem fzS_eq : fzS e i = fzO (getS e i) e i := by
  unfold fzS fzO
  cases getS e i with
  | none => rfl
  | some w => cases w <;> rfl
@[simp] theorem fzO_d : fzO (some (.d x)) e i = some (x, e) := rfl
@[simp] theorem fzO_ls : fzO (some (.ls xs)) e i = some (.lst xs, e.set i (some (.d (.lst xs)))) := rfl
@[simp] theorem fzO_dc : fzO (some (.dc kvs)) e i = some (.dct (kvs.map (·.1)) (kvs.map (·.2)), e.set i (some (.d (.dct (kvs.map (·.1)) (kvs.map (·.2)))))) := rfl
def isLs : Option Va → Bool
  | some (.ls _) => true
  | _ => false
@[simp] theorem lsAt_eq : lsAt e i = isLs (getS e i) := by
  unfold lsAt isLs
  cases getS e i with
  | none => rfl
  | some w => cases w <;> rfl
@[simp] theorem isLs_ls : isLs (some (.ls xs)) = true := rfl
def appV (o : Option Va) (e : Env) (i : Nat) (x : D) : Option (Fl × Env) := match o with
  | some (.ls xs) => if xs.length < szL then some (.nx, e.set i (some (.ls (xs ++ [x])))) else none
  | _ => none
@[simp] theorem appS_eq : appS e i x = appV (getS e i) e i x := by
  unfold appS appV
  cases getS e i with
  | none => rfl
  | some w => cases w <;> rfl
@[simp] theorem appV_ls (hz : xs.length < szL) : appV (some (.ls xs)) e i x = some (.nx, e.set i (some (.ls (xs ++ [x])))) := by simp [appV, hz]
def extV (o : Option Va) (e : Env) (i : Nat) (y : Va) : Option (Fl × Env) := match o, y with
  | some (.ls xs), .ls ys => if xs.length + ys.length ≤ szL then some (.nx, e.set i (some (.ls (xs ++ ys)))) else none
  | some (.ls xs), .d (.tup ys) => if xs.length + ys.length ≤ szL then some (.nx, e.set i (some (.ls (xs ++ ys)))) else none
  | _, _ => none
@[simp] theorem extS_eq {y : Va} : extS e i y = extV (getS e i) e i y := by
  unfold extS extV
  cases getS e i with
  | none => rfl
  | some w => cases w <;> first | rfl | (cases y <;> first | rfl | (rename_i z; cases z <;> rfl))
@[simp] theorem extV_t (hz : xs.length + ys.length ≤ szL) : extV (some (.ls xs)) e i (.d (.tup ys)) = some (.nx, e.set i (some (.ls (xs ++ ys)))) := by simp [extV, hz]
@[simp] theorem extV_ls (hz : xs.length + ys.length ≤ szL) : extV (some (.ls xs)) e i (.ls ys) = some (.nx, e.set i (some (.ls (xs ++ ys)))) := by simp [extV, hz]
def setV (o : Option Va) (e : Env) (i : Nat) (k : Va) (x : D) : Option (Fl × Env) := match o, k with
  | some (.ls xs), .d (.int n) => (ixN xs.length n).map fun j => (.nx, e.set i (some (.ls (xs.set j x))))
  | some (.dc kvs), .d (.str s) => if kvs.length < szL then some (.nx, e.set i (some (.dc (putKey kvs s x)))) else none
  | _, _ => none
@[simp] theorem setIS_eq {k : Va} : setIS e i k x = setV (getS e i) e i k x := by
  unfold setIS setV
  cases getS e i <;> rfl
@[simp] theorem setV_dc {z : List Nat} (hz : kvs.length < szL) : setV (some (.dc kvs)) e i (.d (.str z)) x = some (.nx, e.set i (some (.dc (putKey kvs z x)))) := by simp [setV, hz]
@[simp] theorem setV_ls {z : Int} : setV (some (.ls xs)) e i (.d (.int z)) x = (ixN xs.length z).map fun j => (.nx, e.set i (some (.ls (xs.set j x)))) := rfl
def popJ (o : Option Va) (e : Env) (i : Nat) (y : D) : Option (Va × Env) := match o, y with
  | some (.ls xs), .int n => if xs.length ≤ szL then (ixN xs.length n).bind fun j => (xs[j]?).map fun z => (.d z, e.set i (some (.ls (xs.eraseIdx j)))) else none
  | _, _ => none
@[simp] theorem popIS_eq {y : D} : popIS e i y = popJ (getS e i) e i y := by
  unfold popIS popJ
  cases getS e i <;> rfl
def sdfJ (o : Option Va) (e : Env) (i : Nat) (y z : D) : Option (Va × Env) := match o, y with
  | some (.dc kvs), .str s => if kvs.length < szL then match keyOf kvs s with
    | some x => some (.d x, e)
    | none => some (.d z, e.set i (some (.dc (putKey kvs s z))))
    else none
  | _, _ => none
@[simp] theorem sdfIS_eq {y z : D} : sdfIS e i y z = sdfJ (getS e i) e i y z := by
  unfold sdfIS sdfJ
  cases getS e i <;> rfl
def popW (o : Option Va) (e : Env) (i : Nat) : Option (Va × Env) := match o with
  | some (.ls xs) => match xs.getLast? with
    | some y => some (.d y, e.set i (some (.ls xs.dropLast)))
    | none => none
  | _ => none
@[simp] theorem popS_eq : popS e i = popW (getS e i) e i := by
  unfold popS popW
  cases getS e i with
  | none => rfl
  | some w => cases w <;> rfl
theorem popW_ls {y : D} (hy : xs.getLast? = some y) : popW (some (.ls xs)) e i = some (.d y, e.set i (some (.ls xs.dropLast))) := by simp [popW, hy]
@[simp] theorem popW_snoc {y : D} : popW (some (.ls (xs ++ [y]))) e i = some (.d y, e.set i (some (.ls xs))) := by simp [popW]
end
end
/-! ### operations -/
section
variable {i j : Int} {a b : List Nat} {xs ys : List D} {x y : D} {p q : Bool}
@[simp] theorem neg_i : negS (.d (.int i)) = some (.d (.int (-i))) := rfl
@[simp] theorem bin_add : binS .Add = addS := rfl
@[simp] theorem bin_sub : binS .Sub = subS := rfl
@[simp] theorem bin_mul : binS .Mult = mulS := rfl
@[simp] theorem bin_div : binS .FloorDiv = divS := rfl
@[simp] theorem bin_mod : binS .Mod = modS := rfl
@[simp] theorem bin_pow : binS .Pow = powS := rfl
@[simp] theorem add_i : addS (.d (.int i)) (.d (.int j)) = some (.d (.int (i + j))) := rfl
@[simp] theorem add_s (h : a.length + b.length ≤ szL) : addS (.d (.str a)) (.d (.str b)) = some (.d (.str (a ++ b))) := by simp [addS, h]
@[simp] theorem add_t (h : xs.length + ys.length ≤ szL) : addS (.d (.tup xs)) (.d (.tup ys)) = some (.d (.tup (xs ++ ys))) := by simp [addS, h]
@[simp] theorem add_l (h : xs.length + ys.length ≤ szL) : addS (.ls xs) (.ls ys) = some (.ls (xs ++ ys)) := by simp [addS, h]
@[simp] theorem add_dl (h : xs.length + ys.length ≤ szL) : addS (.d (.lst xs)) (.ls ys) = some (.ls (xs ++ ys)) := by simp [addS, h]
@[simp] theorem add_ld (h : xs.length + ys.length ≤ szL) : addS (.ls xs) (.d (.lst ys)) = some (.ls (xs ++ ys)) := by simp [addS, h]
@[simp] theorem add_dd (h : xs.length + ys.length ≤ szL) : addS (.d (.lst xs)) (.d (.lst ys)) = some (.ls (xs ++ ys)) := by simp [addS, h]
@[simp] theorem sub_i : subS (.d (.int i)) (.d (.int j)) = some (.d (.int (i - j))) := rfl
theorem mul_ii (h : (-18446744073709551616 < i ∧ i < 18446744073709551616) ∨ (-18446744073709551616 < j ∧ j < 18446744073709551616)) : mulS (.d (.int i)) (.d (.int j)) = some (.d (.int (i * j))) := by
  show (if (-(2 ^ 64) < i ∧ i < 2 ^ 64) ∨ (-(2 ^ 64) < j ∧ j < 2 ^ 64) then some (Va.d (.int (i * j))) else none) = _
  rw [if_pos (by omega)]
@[simp] theorem mul_l (h1 : -1000 ≤ j) (h2 : j ≤ 1000) (h3 : xs.length ≤ 1000) : mulS (.ls xs) (.d (.int j)) = some (.ls (rep j.toNat xs)) := by simp [mulS, h1, h2, h3]
@[simp] theorem mul_t1 : mulS (.d (.tup xs)) (.d (.int 1)) = some (.d (.tup xs)) := rfl
@[simp] theorem mul_t0 (h : xs ≠ []) : mulS (.d (.tup xs)) (.d (.int 0)) = some (.d (.tup [])) := by simp [mulS, h]
@[simp] theorem mod_i (h : 0 < j) : modS (.d (.int i)) (.d (.int j)) = some (.d (.int (i % j))) := by simp [modS, h]
@[simp] theorem div_i (h : 0 < j) (h2 : j < 1073741824) : divS (.d (.int i)) (.d (.int j)) = some (.d (.int (i / j))) := by simp [divS, h, h2]
@[simp] theorem cmp_eq : cmpS .Eq = eqS := rfl
@[simp] theorem cmp_ne : cmpS .NotEq = fun x y => notV (eqS x y) := rfl
@[simp] theorem cmp_lt : cmpS .Lt = ltS := rfl
@[simp] theorem cmp_le : cmpS .LtE = leS := rfl
@[simp] theorem cmp_gt : cmpS .Gt = gtS := rfl
@[simp] theorem cmp_ge : cmpS .GtE = geS := rfl
@[simp] theorem cmp_is : cmpS .Is = isS := rfl
@[simp] theorem cmp_isn : cmpS .IsNot = fun x y => notV (isS x y) := rfl
@[simp] theorem cmp_in : cmpS .In = inS := rfl
@[simp] theorem cmp_nin : cmpS .NotIn = fun x y => notV (inS x y) := rfl
@[simp] theorem eq_nl : eqS (.ls xs) (.ls []) = some (.d (.bl xs.isEmpty)) := rfl
@[simp] theorem eq_i : eqS (.d (.int i)) (.d (.int j)) = some (.d (.bl (decide (i = j)))) := rfl
@[simp] theorem lt_i : ltS (.d (.int i)) (.d (.int j)) = some (.d (.bl (decide (i < j)))) := rfl
@[simp] theorem le_i : leS (.d (.int i)) (.d (.int j)) = some (.d (.bl (decide (i ≤ j)))) := rfl
@[simp] theorem gt_i : gtS (.d (.int i)) (.d (.int j)) = some (.d (.bl (decide (j < i)))) := rfl
@[simp] theorem ge_i : geS (.d (.int i)) (.d (.int j)) = some (.d (.bl (decide (j ≤ i)))) := rfl
@[simp] theorem not_b : notV (some (.d (.bl p))) = some (.d (.bl (!p))) := rfl
@[simp] theorem asB_b : asB (.d (.bl p)) = some p := rfl
@[simp] theorem asI_i : asI (.d (.int i)) = some i := rfl
@[simp] theorem fz_d' : fzV (.d x) = some x := rfl
@[simp] theorem fz_l' : fzV (.ls xs) = some (.lst xs) := rfl
@[simp] theorem len_s (h : a.length ≤ szL) : lenS (.d (.str a)) = some (.d (.int a.length)) := by simp [lenS, h]
@[simp] theorem len_t : lenS (.d (.tup xs)) = some (.d (.int xs.length)) := rfl
@[simp] theorem len_l : lenS (.ls xs) = some (.d (.int xs.length)) := rfl
@[simp] theorem len_dl : lenS (.d (.lst xs)) = some (.d (.int xs.length)) := rfl
@[simp] theorem cb_len {w : Va} : cbS .len [w] = lenS w := rfl
@[simp] theorem cb_tuple {w : Va} : cbS .tuple [w] = (asL w).map fun xs => .d (.tup xs) := rfl
@[simp] theorem cb_list {w : Va} : cbS .list [w] = (asL w).map fun xs => .ls xs := rfl
@[simp] theorem cb_sorted {w : Va} : cbS .sorted [w] = sortedS w := rfl
@[simp] theorem cb_sum {w : Va} : cbS .sum [w] = (asLl w).bind fun xs => (intsOf xs).map fun ns => .d (.int ns.sum) := rfl
@[simp] theorem cb_all {w : Va} : cbS .all [w] = (asLl w).bind fun xs => (blsOf xs).map fun bs => .d (.bl (bs.all id)) := rfl
@[simp] theorem cb_any {w : Va} : cbS .any [w] = (asLl w).bind fun xs => (blsOf xs).map fun bs => .d (.bl (bs.any id)) := rfl
@[simp] theorem cb_max2 : cbS .max [.d (.int i), .d (.int j)] = some (.d (.int (if j > i then j else i))) := rfl
@[simp] theorem cb_intb : cbS .int [.d (.bl p)] = some (.d (.int (if p then 1 else 0))) := rfl
@[simp] theorem is_bb : isS (.d (.bl p)) (.d (.bl q)) = some (.d (.bl (decide (p = q)))) := rfl
@[simp] theorem zip_t (h : xs.length = ys.length) : zipT [.d (.tup xs), .d (.tup ys)] = some (zipD xs ys) := by simp [zipT, h]
@[simp] theorem zipn_t (h : xs.length = ys.length) : zipN [.d (.tup xs), .d (.tup ys)] = some (.ls (zipD xs ys)) := by simp [zipN, h]
@[simp] theorem zipn_l (h : xs.length = ys.length) : zipN [.ls xs, .ls ys] = some (.ls (zipD xs ys)) := by simp [zipN, asLl, h]
@[simp] theorem cb_dict {w : Va} : cbS .dict [w] = dictS w := rfl
@[simp] theorem dict_t : dictS (.d (.tup xs)) = (prsOf xs).map fun kvs => .dc (intoKeys [] kvs) := rfl
@[simp] theorem dict_l : dictS (.ls xs) = (prsOf xs).map fun kvs => .dc (intoKeys [] kvs) := rfl
@[simp] theorem rev1_t : rev1S (.d (.tup xs)) = some (.d (.tup (xs.drop 1).reverse)) := rfl
@[simp] theorem rev_t : revS (.d (.tup xs)) = some (.d (.tup xs.reverse)) := rfl
@[simp] theorem rev_l : revS (.ls xs) = some (.ls xs.reverse) := rfl
@[simp] theorem asL_t : asL (.d (.tup xs)) = some xs := rfl
@[simp] theorem asL_l : asL (.ls xs) = some xs := rfl
@[simp] theorem asL_dl : asL (.d (.lst xs)) = some xs := rfl
@[simp] theorem asLl_l : asLl (.ls xs) = some xs := rfl
@[simp] theorem asLl_dl : asLl (.d (.lst xs)) = some xs := rfl
@[simp] theorem isi_d {ts : List TN} : isiS ts (.d x) = some (.d (.bl (ts.any fun t => tnS t x))) := rfl
@[simp] theorem isi_l {ts : List TN} : isiS ts (.ls xs) = some (.d (.bl (ts.any fun t => decide (t = .lst)))) := rfl
@[simp] theorem item_t : itemS (.d (.tup xs)) (.d (.int i)) = (atI xs i).map .d := rfl
@[simp] theorem item_l : itemS (.ls xs) (.d (.int i)) = (atI xs i).map .d := rfl
@[simp] theorem item_dl : itemS (.d (.lst xs)) (.d (.int i)) = (atI xs i).map .d := rfl
@[simp] theorem item_s (h : a.length ≤ szL) : itemS (.d (.str a)) (.d (.int i)) = (atI a i).map fun c => .d (.str [c]) := by simp [itemS, h]
@[simp] theorem cut_t {lo hi : Option Int} : cutS (.d (.tup xs)) lo hi = some (.d (.tup (cut xs lo hi))) := rfl
@[simp] theorem cut_l {lo hi : Option Int} : cutS (.ls xs) lo hi = some (.ls (cut xs lo hi)) := rfl
@[simp] theorem cut_dl {lo hi : Option Int} : cutS (.d (.lst xs)) lo hi = some (.ls (cut xs lo hi)) := rfl
@[simp] theorem cut_scr {ns : List Int} {lo hi : Option Int} : cutS (.scr ns) lo hi = some (.ls ((cut ns lo hi).map D.int)) := rfl
@[simp] theorem cut_s {lo hi : Option Int} (h : a.length ≤ szL) : cutS (.d (.str a)) lo hi = some (.d (.str (cut a lo hi))) := by simp [cutS, h]
@[simp] theorem items_t : itemsD (.tup xs) = some xs := rfl
@[simp] theorem items_l : itemsD (.lst xs) = some xs := rfl
@[simp] theorem items_dct {ks : List (List Nat)} {vs : List D} : itemsD (.dct ks vs) = some (ks.map .str) := rfl
@[simp] theorem item_dct {ks : List (List Nat)} {vs : List D} {k : List Nat} : itemS (.d (.dct ks vs)) (.d (.str k)) = (keyOf (ks.zip vs) k).map .d := rfl
@[simp] theorem items_s : itemsD (.str a) = some (a.map fun c => .str [c]) := rfl
@[simp] theorem rng_1 (h1 : -(2 ^ 62) ≤ j) (h2 : j < 2 ^ 62) : rngS [.d (.int j)] = some (rangeL 0 j.toNat) := by
  show (if -(2 ^ 62) ≤ j ∧ j < 2 ^ 62 then some (rangeL 0 j.toNat) else none) = _
  rw [if_pos ⟨h1, h2⟩]
@[simp] theorem tg_1 {e : Env} {n : Nat} : tgS (.one n) x e = some (e.set n (some (.d x))) := rfl
@[simp] theorem tg_m {e : Env} {is : List Nat} : tgS (.many is) (.tup xs) e = if is.length = xs.length then some ((is.zip xs).foldl (fun e p => e.set p.1 (some (.d p.2))) e) else none := rfl
end
section
variable {f g : Va → Va → Option Va} {h1 : Va → Option Va} {h3 : List Va → Option Va} {ra rb rc : Env → Option (PV × Env)} {rs : Env → Option (List PV × Env)} {e : Env}
@[simp] theorem un1_eq : un1 h1 ra e = bnd (ra e) fun p e => (resP p e).bind fun x => (h1 x).map fun w => (w, e) := rfl
@[simp] theorem un2_eq : un2 f ra rb e = bnd (ra e) fun p e1 => bnd (rb e1) fun q e2 => (resP p e2).bind fun x => (resP q e2).bind fun y => (f x y).map fun w => (w, e2) := rfl
@[simp] theorem unN_eq : unN h3 rs e = bnd (rs e) fun ps e => (resPs ps e).bind fun xs => (h3 xs).map fun w => (w, e) := rfl
@[simp] theorem un3_eq : un3 f g ra rb rc e = bnd (ra e) fun p e1 => bnd (rb e1) fun q e2 => (resP p e2).bind fun x => (resP q e2).bind fun y => (f x y).bind fun t => (asB t).bind fun b =>
    if b = true then bnd (rc e2) fun r e3 => (resP q e3).bind fun y' => (resP r e3).bind fun z => (g y' z).map fun w => (w, e3) else some (.d (.bl false), e2) := rfl
@[simp] theorem take_nil : takeArgs [] e = some ([], e) := rfl
@[simp] theorem take_v {w : Va} {ps : List PV} : takeArgs (.val w :: ps) e = bnd (takeArgs ps e) fun ws e => some (w :: ws, e) := rfl
@[simp] theorem take_s {i : Nat} {ps : List PV} : takeArgs (.slot i :: ps) e = bnd (useS e i) fun w e1 => bnd (takeArgs ps e1) fun ws e => some (w :: ws, e) := rfl
@[simp] theorem call_s {Φ : Nat → List Va → Option (Va × List Va)} {f : Nat} {ps : List PV} : callS Φ f ps e = bnd (takeArgs ps e) fun ws e1 => bnd (Φ f ws) fun r us => some (r, putArgs ps ws us e1) := rfl
end
end Mn
/-! MnT: terms; rising rows; pure comprehensions. -/
namespace Mn
open PySem
/-! ### rows -/
theorem ltL_irr (a : List Nat) : ¬ a < a := List.lt_irrefl a
theorem ltL_trans {a b c : List Nat} (h : a < b) (h2 : b < c) : a < c := List.lt_trans h h2
theorem ltL_tri (a b : List Nat) : a < b ∨ a = b ∨ b < a := by
  by_cases h : a < b
  · exact .inl h
  · by_cases h2 : b < a
    · exact .inr (.inr h2)
    · exact .inr (.inl (List.le_antisymm (List.not_lt.mp h2) (List.not_lt.mp h)))
theorem insT_sw (x y : List Nat) : ∀ l, insT x (insT y l) = insT y (insT x l)
  | [] => by
    rcases ltL_tri x y with h | rfl | h
    · have h2 : ¬ y < x := fun z => ltL_irr _ (ltL_trans h z)
      simp [insT, h, h2]
    · rfl
    · have h2 : ¬ x < y := fun z => ltL_irr _ (ltL_trans h z)
      simp [insT, h, h2]
  | z :: l => by
    have ih := insT_sw x y l
    by_cases h1 : z < x <;> by_cases h2 : z < y
    · simp [insT, h1, h2, ih]
    · have h3 : ¬ x < y ∨ x = y ∨ x < y := by
        rcases ltL_tri x y with h | h | h
        · exact .inr (.inr h)
        · exact .inr (.inl h)
        · exact .inl fun q => ltL_irr _ (ltL_trans h q)
      have hyx : y < x := by
        rcases ltL_tri y x with h | h | h
        · exact h
        · exact absurd (h ▸ h1) h2
        · exact absurd (ltL_trans h1 h) h2
      simp [insT, h1, h2, hyx]
    · have hxy : x < y := by
        rcases ltL_tri x y with h | h | h
        · exact h
        · exact absurd (h ▸ h2) h1
        · exact absurd (ltL_trans h2 h) h1
      simp [insT, h1, h2, hxy]
    · rcases ltL_tri x y with h | rfl | h
      · have h3 : ¬ y < x := fun q => ltL_irr _ (ltL_trans h q)
        simp [insT, h1, h2, h, h3]
      · rfl
      · have h3 : ¬ x < y := fun q => ltL_irr _ (ltL_trans h q)
        simp [insT, h1, h2, h, h3]
theorem sortT_sw {a b : List (List Nat)} (h : a.Perm b) : sortT a = sortT b := by
  induction h with
  | nil => rfl
  | cons x _ ih => simp [sortT, ih]
  | swap x y l => simp [sortT, insT_sw]
  | trans _ _ h1 h2 => rw [h1, h2]
theorem sortT_ext {a b : List (List Nat)} (ha : a.Nodup) (hb : b.Nodup) (h : ∀ x, x ∈ a ↔ x ∈ b) : sortT a = sortT b := sortT_sw ((List.perm_ext_iff_of_nodup ha hb).mpr h)
/-! ### slices, items -/
theorem cut_tail {α : Type} (x : α) (r : List α) : cut (x :: r) (some 1) none = r := by
  unfold cut sIx
  simp
/-! ### pure comprehensions -/
theorem compL_pure {turn : D → Env → Option (Option D × Env)} {own : List Nat} {env : Env} {g : D → D} : ∀ {xs acc : List D}, (∀ x ∈ xs, ∃ e, turn x env = some (some (g x), e) ∧ wipeS e own = env) → acc.length + xs.length ≤ szL → compL turn own xs env acc = some (acc ++ xs.map g, env)
  | [], acc, _, _ => by simp [compL]
  | x :: xs, acc, h, hz => by
    obtain ⟨e, h1, h2⟩ := h x List.mem_cons_self
    unfold compL
    rw [h1]
    simp only [bnd_some, List.length_cons] at hz ⊢
    rw [if_pos (by omega), h2, compL_pure (fun y hy => h y (List.mem_cons_of_mem _ hy)) (by simp; omega)]
    simp
theorem intsOf_map {α : Type} (f : α → Int) : ∀ l : List α, intsOf (l.map fun x => D.int (f x)) = some (l.map f)
  | [] => rfl
  | x :: l => by simp [intsOf, intsOf_map f l]
theorem strsOf_map : ∀ l : List (List Nat), strsOf (l.map D.str) = some l
  | [] => rfl
  | x :: l => by simp [strsOf, strsOf_map l]
/-! ### data that == takes -/
/-- plain signs -/
def Asc (s : List Nat) : Prop := ∀ c ∈ s, c < 128
theorem asc_all {s : List Nat} (h : Asc s) : (s.toArray.all fun x => decide (x < 1114112)) = true := by
  rw [Array.all_eq_true']
  intro x hx
  have := h x (by simpa using hx)
  exact decide_eq_true (by omega)
theorem okD_str {s : List Nat} (h : Asc s) : okD (.str s) = true := by
  unfold okD SeqAt.shaped
  simp only [D.py, PyData.canLay0, PyData.depth, PyData.strOk]
  rw [asc_all h]
  rfl
theorem strs_ok : ∀ {l : List (List Nat)}, (∀ s ∈ l, Asc s) → PyData.canLayAll0 (D.pys (l.map D.str)) = true ∧ PyData.depthAll (D.pys (l.map D.str)) ≤ 1
  | [], _ => ⟨rfl, by decide⟩
  | s :: l, h => by
    obtain ⟨h1, h2⟩ := strs_ok fun x hx => h x (List.mem_cons_of_mem _ hx)
    have h3 := h s List.mem_cons_self
    simp only [List.map_cons, D.pys, D.py, PyData.canLayAll0, PyData.canLay0, PyData.depthAll, PyData.depth, h1, Bool.and_true]
    refine ⟨?_, by omega⟩
    exact asc_all h3
theorem okD_strs {l : List (List Nat)} (h : ∀ s ∈ l, Asc s) : okD (.lst (l.map D.str)) = true := by
  obtain ⟨h1, h2⟩ := strs_ok h
  unfold okD SeqAt.shaped
  simp only [D.py, PyData.canLay0, h1, PyData.depth, Bool.true_and, decide_eq_true_eq]
  omega
theorem eqD_str (a b : List Nat) : eqD (.str a) (.str b) = decide (a = b) := by
  simp only [eqD, D.py, PyData.eqv]
  by_cases h : a = b
  · subst h; simp
  · have : ¬ (Str.mk a.toArray) = Str.mk b.toArray := fun z => h (by
      have := congrArg (fun s : Str => s.cps.toList) z
      simpa using this)
    simp [h, this]
theorem anyEq_strs (x : List Nat) : ∀ l : List (List Nat), anyEq (.str x) (l.map D.str) = decide (x ∈ l)
  | [] => rfl
  | y :: l => by
    have ih := anyEq_strs x l
    unfold anyEq at ih ⊢
    simp only [List.map_cons, List.any_cons, ih, eqD_str]
    by_cases h : y = x
    · subst h; simp
    · have h2 : ¬ x = y := fun z => h z.symm
      simp [h, h2]
/-! ### terms -/
inductive Tm where
  | op (s : List Nat) | nd (w : List Nat) (ts : List Tm)
mutual
def Tm.d : Tm → D
  | .op s => .str s
  | .nd w ts => .tup (.str w :: dsT ts)
def dsT : List Tm → List D
  | [] => []
  | t :: ts => t.d :: dsT ts
end
theorem dsT_map : ∀ ts : List Tm, dsT ts = ts.map Tm.d
  | [] => rfl
  | t :: ts => by simp [dsT, dsT_map ts]
mutual
def Tm.parts : Tm → Nat
  | .op _ => 1
  | .nd _ ts => 1 + partsT ts
def partsT : List Tm → Nat
  | [] => 0
  | t :: ts => t.parts + partsT ts
end
mutual
def Tm.lev : Tm → Nat
  | .op _ => 1
  | .nd _ ts => 1 + levT ts
def levT : List Tm → Nat
  | [] => 0
  | t :: ts => max t.lev (levT ts)
end
mutual
def Tm.opens : Tm → List (List Nat)
  | .op s => [s]
  | .nd _ ts => opensT ts
def opensT : List Tm → List (List Nat)
  | [] => []
  | t :: ts => t.opens ++ opensT ts
end
theorem levT_mem : ∀ {ts : List Tm} {t : Tm}, t ∈ ts → t.lev ≤ levT ts
  | t :: ts, x, h => by
    rcases List.mem_cons.mp h with rfl | h
    · exact Nat.le_max_left _ _
    · exact Nat.le_trans (levT_mem h) (Nat.le_max_right _ _)
theorem Tm.lev_pos : ∀ t : Tm, 1 ≤ t.lev
  | .op _ => Nat.le_refl _
  | .nd _ ts => by simp [Tm.lev]
theorem Tm.parts_pos : ∀ t : Tm, 1 ≤ t.parts
  | .op _ => Nat.le_refl _
  | .nd _ ts => by simp [Tm.parts]
theorem len_partsT : ∀ ts : List Tm, ts.length ≤ partsT ts
  | [] => Nat.le_refl _
  | t :: ts => by
    have := len_partsT ts
    have := t.parts_pos
    simp only [List.length_cons, partsT]
    omega
theorem compL_map {α : Type} {turn : D → Env → Option (Option D × Env)} {own : List Nat} {env : Env} {f g : α → D} : ∀ {ts : List α} {acc : List D}, (∀ t ∈ ts, ∃ e, turn (f t) env = some (some (g t), e) ∧ wipeS e own = env) → acc.length + ts.length ≤ szL → compL turn own (ts.map f) env acc = some (acc ++ ts.map g, env)
  | [], acc, _, _ => by simp [compL]
  | x :: xs, acc, h, hz => by
    obtain ⟨e, h1, h2⟩ := h x List.mem_cons_self
    rw [List.map_cons]
    unfold compL
    rw [h1]
    simp only [bnd_some, List.length_cons] at hz ⊢
    rw [if_pos (by omega), h2, compL_map (fun y hy => h y (List.mem_cons_of_mem _ hy)) (by simp; omega)]
    simp
theorem sum_parts : ∀ ts : List Tm, (ts.map fun t => (t.parts : Int)).sum = partsT ts
  | [] => rfl
  | t :: ts => by simp [partsT, sum_parts ts]
theorem max_levs : ∀ (ts : List Tm) (m : Int), maxL m (ts.map fun t => (t.lev : Int)) = max m (levT ts)  ∨ (ts = [] ∧ maxL m (ts.map fun t => (t.lev : Int)) = m)
  | [], m => .inr ⟨rfl, rfl⟩
  | t :: ts, m => by
    left
    have ih := max_levs ts (if m < (t.lev : Int) then (t.lev : Int) else m)
    simp only [List.map_cons, maxL]
    rcases ih with h | ⟨rfl, h⟩
    · rw [h]
      simp only [levT]
      split <;> omega
    · rw [h]
      simp only [levT]
      have := t.lev_pos
      split <;> omega
/-! ### a def's end -/
def retF (io : List Nat) (ws : List Va) (fl : Fl) (e : Env) : Option (Va × List Va) := match fl with
  | .rt w => (outs io 0 ws e).map fun us => (w, us)
  | .nx => (outs io 0 ws e).map fun us => (.d .non, us)
  | _ => none
theorem call_run {T : Tab} {k f : Nat} {x : Str} {np ns : Nat} {io : List Nat} {b : CB} {ws : List Va} (h : T.fns[f]? = some (x, .code ⟨np, ns, io, b⟩)) (hl : ws.length = np) :
    call T (k + 1) f ws = bnd (exB (call T k) T.con b (ws.map some ++ List.replicate (ns - np) none)) fun fl e => retF io ws fl e := by
  rw [call_code h hl]
  rfl
@[simp] theorem ret_rt {io : List Nat} {ws : List Va} {w : Va} {e : Env} : retF io ws (.rt w) e = (outs io 0 ws e).map fun us => (w, us) := rfl
@[simp] theorem ret_nx {io : List Nat} {ws : List Va} {e : Env} : retF io ws .nx e = (outs io 0 ws e).map fun us => (.d .non, us) := rfl
@[simp] theorem outs_nil {io : List Nat} {j : Nat} {e : Env} : outs io j [] e = some [] := rfl
@[simp] theorem outs_d {io : List Nat} {j : Nat} {x : D} {ws : List Va} {e : Env} : outs io j (.d x :: ws) e = (outs io (j + 1) ws e).map fun r => .d x :: r := rfl
@[simp] theorem outs_ls {io : List Nat} {j : Nat} {x : List D} {ws : List Va} {e : Env} : outs io j (.ls x :: ws) e = if io.contains j = true then (getS e j).bind fun w => (outs io (j + 1) ws e).map fun r => w :: r else none := rfl
@[simp] theorem outs_dc {io : List Nat} {j : Nat} {x : List (List Nat × D)} {ws : List Va} {e : Env} : outs io j (.dc x :: ws) e = if io.contains j = true then (getS e j).bind fun w => (outs io (j + 1) ws e).map fun r => w :: r else none := rfl
@[simp] theorem outs_dk {io : List Nat} {j : Nat} {cs : List Int} {s n : Int} {ws : List Va} {e : Env} : outs io j (.dk cs s n :: ws) e = if io.contains j = true then (getS e j).bind fun w => (outs io (j + 1) ws e).map fun r => w :: r else none := rfl
@[simp] theorem outs_dl {io : List Nat} {j : Nat} {cs : List Int} {s : Int} {ws : List Va} {e : Env} : outs io j (.dl cs s :: ws) e = if io.contains j = true then (getS e j).bind fun w => (outs io (j + 1) ws e).map fun r => w :: r else none := rfl
@[simp] theorem outs_dd {io : List Nat} {j : Nat} {cs : List Int} {s n : Int} {ws : List Va} {e : Env} : outs io j (.dd cs n s :: ws) e = if io.contains j = true then (getS e j).bind fun w => (outs io (j + 1) ws e).map fun r => w :: r else none := rfl
@[simp] theorem outs_scr {io : List Nat} {j : Nat} {cs : List Int} {ws : List Va} {e : Env} : outs io j (.scr cs :: ws) e = if io.contains j = true then (getS e j).bind fun w => (outs io (j + 1) ws e).map fun r => w :: r else none := rfl
@[simp] theorem put_v {w : Va} {ps : List PV} {x y : Va} {ws us : List Va} {e : Env} : putArgs (.val w :: ps) (x :: ws) (y :: us) e = putArgs ps ws us e := rfl
@[simp] theorem put_nil {ws us : List Va} {e : Env} : putArgs [] ws us e = e := rfl
@[simp] theorem put_d {i : Nat} {ps : List PV} {x : D} {y : Va} {ws us : List Va} {e : Env} : putArgs (.slot i :: ps) (.d x :: ws) (y :: us) e = putArgs ps ws us e := rfl
@[simp] theorem put_ls {i : Nat} {ps : List PV} {x : List D} {y : Va} {ws us : List Va} {e : Env} : putArgs (.slot i :: ps) (.ls x :: ws) (y :: us) e = putArgs ps ws us (e.set i (some y)) := rfl
@[simp] theorem put_dc {i : Nat} {ps : List PV} {x : List (List Nat × D)} {y : Va} {ws us : List Va} {e : Env} : putArgs (.slot i :: ps) (.dc x :: ws) (y :: us) e = putArgs ps ws us (e.set i (some y)) := rfl
@[simp] theorem put_dk {i : Nat} {ps : List PV} {cs : List Int} {s n : Int} {y : Va} {ws us : List Va} {e : Env} : putArgs (.slot i :: ps) (.dk cs s n :: ws) (y :: us) e = putArgs ps ws us (e.set i (some y)) := rfl
@[simp] theorem put_dl {i : Nat} {ps : List PV} {cs : List Int} {s : Int} {y : Va} {ws us : List Va} {e : Env} : putArgs (.slot i :: ps) (.dl cs s :: ws) (y :: us) e = putArgs ps ws us (e.set i (some y)) := rfl
@[simp] theorem put_dd {i : Nat} {ps : List PV} {cs : List Int} {s n : Int} {y : Va} {ws us : List Va} {e : Env} : putArgs (.slot i :: ps) (.dd cs n s :: ws) (y :: us) e = putArgs ps ws us (e.set i (some y)) := rfl
@[simp] theorem put_scr {i : Nat} {ps : List PV} {cs : List Int} {y : Va} {ws us : List Va} {e : Env} : putArgs (.slot i :: ps) (.scr cs :: ws) (y :: us) e = putArgs ps ws us (e.set i (some y)) := rfl
theorem atI_lt {α : Type} {xs : List α} {r : Int} (h0 : 0 ≤ r) (h1 : r < xs.length) : ∃ c, atI xs r = some c ∧ c ∈ xs := by
  have hr : r.toNat < xs.length := by omega
  refine ⟨xs[r.toNat], ?_, List.getElem_mem hr⟩
  unfold atI ixN
  rw [if_pos h0, if_pos h1]
  simp
theorem cut_mem {α : Type} {xs : List α} {lo hi : Option Int} {x : α} (h : x ∈ cut xs lo hi) : x ∈ xs := List.mem_of_mem_drop (List.mem_of_mem_take h)
theorem cut_len {α : Type} (xs : List α) (lo hi : Option Int) : (cut xs lo hi).length ≤ xs.length := by
  unfold cut
  simp only [List.length_take, List.length_drop]
  omega
theorem drawA_ok {cs : List Int} {s n m : Int} (hm : 0 < m) : 0 ≤ (drawA cs s n m).1 ∧ (drawA cs s n m).1 < m ∧ (drawA cs s n m).2.length ≤ cs.length := by
  unfold drawA
  have e1 := fun x : Int => Int.emod_nonneg x (show m ≠ 0 by omega)
  have e2 := fun x : Int => Int.emod_lt_of_pos x hm
  cases h : cs.getLast? with
  | none => exact ⟨e1 _, e2 _, Nat.zero_le _⟩
  | some c =>
    have hne : cs ≠ [] := fun z => by rw [z] at h; cases h
    have hl : 0 < cs.length := List.length_pos_iff.mpr hne
    simp only
    split
    · exact ⟨e1 _, e2 _, by simp⟩
    · refine ⟨e1 _, e2 _, ?_⟩
      simp only
      split
      · simp; omega
      · simp
theorem take_wp {T : Tab} {k f : Nat} {x : Str} (h : T.fns[f]? = some (x, .prim 2 takeA)) (hk : 9 ≤ k) {cs : List Int} {s n m : Int} {Q : Va → List Va → Prop} (hm : 0 < m) (hm2 : m < 1073741824) (hc : cs.length ≤ 63)
    (q : ∀ r cs', 0 ≤ r → r < m → cs'.length ≤ 63 → Q (.d (.int r)) [.dk cs' s (n + 1), .d (.int m)]) : wp (call T k f [.dk cs s n, .d (.int m)]) Q := by
  obtain ⟨k, rfl⟩ : ∃ j, k = j + 1 := ⟨k - 1, by omega⟩
  rw [call_prim h rfl (by omega)]
  obtain ⟨h1, h2, h3⟩ := drawA_ok (cs := cs) (s := s) (n := n) hm
  refine ⟨.d (.int (drawA cs s n m).1), [.dk (drawA cs s n m).2 s (n + 1), .d (.int m)], ?_, q _ _ h1 h2 (by omega)⟩
  show (if 0 < m ∧ m < 1073741824 ∧ cs.length ≤ 1000 then some (Va.d (D.int (drawA cs s n m).1), [Va.dk (drawA cs s n m).2 s (n + 1), Va.d (D.int m)]) else none) = _
  rw [if_pos ⟨hm, hm2, by omega⟩]
theorem sz : szL = 16777216 := by simp [szL]
theorem cut_map {α β : Type} (f : α → β) (l : List α) (lo hi : Option Int) : cut (l.map f) lo hi = (cut l lo hi).map f := by
  unfold cut
  rw [List.length_map, ← List.map_drop, ← List.map_take]
theorem cut_pre {α : Type} (l : List α) {m : Int} (h : 0 ≤ m) : cut l none (some m) = l.take m.toNat := by
  unfold cut sIx
  have : ¬ m < 0 := by omega
  simp only [this, if_false, List.drop_zero, Nat.sub_zero]
  by_cases hm : m.toNat ≤ l.length
  · rw [Nat.min_eq_left hm]
  · rw [Nat.min_eq_right (by omega), List.take_length, List.take_of_length_le (by omega)]
theorem cut_suf {α : Type} (l : List α) {m : Int} (h : 0 ≤ m) : cut l (some m) none = l.drop m.toNat := by
  unfold cut sIx
  have : ¬ m < 0 := by omega
  simp only [this, if_false]
  by_cases hm : m.toNat ≤ l.length
  · rw [Nat.min_eq_left hm, ← List.length_drop, List.take_length]
  · rw [Nat.min_eq_right (by omega), List.drop_of_length_le (Nat.le_refl _), List.drop_of_length_le (by omega)]
    simp
theorem joinT_one : ∀ zs : List Nat, joinT [] (zs.map fun c => [c]) = zs
  | [] => rfl
  | [c] => rfl
  | c :: d :: r => by
    have := joinT_one (d :: r)
    simp only [List.map_cons] at this ⊢
    simp only [joinT, this, List.append_nil]
    rfl
/-- letters, joined -/
theorem join_one (zs : List Nat) (h : zs.length ≤ 1000) : joinS (.d (.str [])) [.ls (zs.map fun c => D.str [c])] = some (.d (.str zs)) := by
  have e : (zs.map fun c => D.str [c]) = (zs.map fun c => [c]).map D.str := by rw [List.map_map]; rfl
  unfold joinS
  simp only [asL_l, Option.bind_some, e, strsOf_map, joinT_one]
  rw [if_pos (by simp [sz]; omega)]
@[simp] theorem mt_join {a : Va} {xs : List Va} : mtS .join a xs = joinS a xs := rfl
@[simp] theorem mt_get {a : Va} {xs : List Va} : mtS .get a xs = dgetS a xs := rfl
@[simp] theorem len_dc {a : List (List Nat × D)} : lenS (.dc a) = some (.d (.int a.length)) := rfl
@[simp] theorem mt_lindex {a : Va} {xs : List Va} : mtS .lindex a xs = lixS a xs := rfl
@[simp] theorem ok_lindexL {a : List D} : mtOk .lindex (.ls a) = true := rfl
@[simp] theorem ok_lindexD {a : List D} : mtOk .lindex (.d (.lst a)) = true := rfl
@[simp] theorem mt_splt {a : Va} {xs : List Va} : mtS .split a xs = splS a xs := rfl
@[simp] theorem ok_split {a : List Nat} : mtOk .split (.d (.str a)) = true := rfl
@[simp] theorem len_ll {a : List (List D)} : lenS (.ll a) = some (.d (.int a.length)) := rfl
@[simp] theorem fz_ll {a : List (List D)} : fzV (.ll a) = some (.lst (a.map .lst)) := rfl
@[simp] theorem eq_ll {a : List (List D)} : eqS (.ll a) (.ls []) = some (.d (.bl a.isEmpty)) := rfl
@[simp] theorem mt_index {a : Va} {xs : List Va} : mtS .index a xs = idxS a xs := rfl
@[simp] theorem mt_count {a : Va} {xs : List Va} : mtS .count a xs = cntS a xs := rfl
@[simp] theorem ok_countL {a : List D} : mtOk .count (.ls a) = true := rfl
@[simp] theorem ok_countD {a : List D} : mtOk .count (.d (.lst a)) = true := rfl
@[simp] theorem ok_index {a : List Nat} : mtOk .index (.d (.str a)) = true := rfl
@[simp] theorem ok_join {a : List Nat} : mtOk .join (.d (.str a)) = true := rfl
@[simp] theorem ok_get {a : List (List Nat × D)} : mtOk .get (.dc a) = true := rfl
theorem rangeL_get {lo : Int} {n i : Nat} {x : D} (h : (rangeL lo n)[i]? = some x) : x = .int (lo + i) ∧ i < n := by
  simp only [rangeL, List.getElem?_map, Option.map_eq_some_iff] at h
  obtain ⟨j, h1, h2⟩ := h
  obtain ⟨h3, h4⟩ := List.getElem?_eq_some_iff.mp h1
  simp at h3 h4
  subst h4
  exact ⟨h2.symm, h3⟩
theorem rangeL_len {lo : Int} {n : Nat} : (rangeL lo n).length = n := by simp [rangeL]
end Mn
/-! MnQ2: a deck of the second sort ([cells, last]): what its defs do. -/
namespace Mn
open PySem L2
/-- what is drawn, the cells behind it, the last number -/
def drawB (cs : List Int) (l m : Int) : Int × List Int × Int := match cs with
  | [] =>
    let l1 := (l * l + 48271 * l + 11) % 2147483647
    let l2 := (l1 * l1 + 69621 * l1 + 7) % 2147483629
    (l2 / 8 % m, [], l2)
  | c :: r => if 1000000000000000000 ≤ c then (c % m, c / m :: r, l) else
    let l1 := (l + 69621) % 2147483629
    let n := (c % 2147483647 * 48271 + l1) % 2147483629
    ((n * n + 16807 * n) % 2147483587 / 8 % m, r, l1)
def takeB : List Va → Option (Va × List Va)
  | [.dl cs l, .d (.int m)] => if 0 < m ∧ m < 1073741824 ∧ cs.length ≤ 1000 ∧ 0 ≤ l ∧ l < 4294967296 then some (.d (.int (drawB cs l m).1), [.dl (drawB cs l m).2.1 (drawB cs l m).2.2, .d (.int m)]) else none
  | _ => none
def deckB : List Va → Option (Va × List Va)
  | [.scr ns] => if ns.length ≤ 63 then some (.dl ns (48271 + ns.sum % 2147483629), [.scr ns]) else none
  | _ => none
theorem getB0 {a b : V} : L2.atI [a, b] 0 = some a := rfl
theorem getB1 {a b : V} : L2.atI [a, b] 1 = some b := rfl
theorem drawB_ok {cs : List Int} {l m : Int} (hm : 0 < m) (hl : 0 ≤ l ∧ l < 4294967296) : 0 ≤ (drawB cs l m).1 ∧ (drawB cs l m).1 < m ∧ (drawB cs l m).2.1.length ≤ cs.length ∧ 0 ≤ (drawB cs l m).2.2 ∧ (drawB cs l m).2.2 < 4294967296 := by
  have e1 := fun x : Int => Int.emod_nonneg x (show m ≠ 0 by omega)
  have e2 := fun x : Int => Int.emod_lt_of_pos x hm
  cases cs with
  | nil =>
    unfold drawB
    refine ⟨e1 _, e2 _, Nat.le_refl _, ?_, ?_⟩
    · exact Int.emod_nonneg _ (by decide)
    · exact Int.lt_trans (Int.emod_lt_of_pos _ (by decide)) (by decide)
  | cons c r =>
    unfold drawB
    by_cases hc : 1000000000000000000 ≤ c
    · simp only [hc, if_true]
      exact ⟨e1 _, e2 _, by simp, hl.1, hl.2⟩
    · simp only [hc, if_false]
      refine ⟨e1 _, e2 _, by simp, ?_, ?_⟩
      · exact Int.emod_nonneg _ (by decide)
      · exact Int.lt_trans (Int.emod_lt_of_pos _ (by decide)) (by decide)
theorem takeB_wp {T : Tab} {k f : Nat} {x : Str} (h : T.fns[f]? = some (x, .prim 2 takeB)) (hk : 9 ≤ k) {cs : List Int} {l m : Int} {Q : Va → List Va → Prop} (hm : 0 < m) (hm2 : m < 1073741824) (hc : cs.length ≤ 63) (hl : 0 ≤ l ∧ l < 4294967296)
    (q : ∀ r cs' l', 0 ≤ r → r < m → cs'.length ≤ 63 → 0 ≤ l' ∧ l' < 4294967296 → Q (.d (.int r)) [.dl cs' l', .d (.int m)]) : wp (call T k f [.dl cs l, .d (.int m)]) Q := by
  obtain ⟨k, rfl⟩ : ∃ j, k = j + 1 := ⟨k - 1, by omega⟩
  rw [call_prim h rfl (by omega)]
  obtain ⟨h1, h2, h3, h4, h5⟩ := drawB_ok (cs := cs) (l := l) hm hl
  refine ⟨.d (.int (drawB cs l m).1), [.dl (drawB cs l m).2.1 (drawB cs l m).2.2, .d (.int m)], ?_, q _ _ _ h1 h2 (by omega) ⟨h4, h5⟩⟩
  show (if 0 < m ∧ m < 1073741824 ∧ cs.length ≤ 1000 ∧ 0 ≤ l ∧ l < 4294967296 then some (Va.d (D.int (drawB cs l m).1), [Va.dl (drawB cs l m).2.1 (drawB cs l m).2.2, Va.d (D.int m)]) else none) = _
  rw [if_pos ⟨hm, hm2, by omega, hl.1, hl.2⟩]
theorem deckB_wp {T : Tab} {k f : Nat} {x : Str} (h : T.fns[f]? = some (x, .prim 1 deckB)) (hk : 9 ≤ k) {ns : List Int} {Q : Va → List Va → Prop} (hn : ns.length ≤ 63)
    (q : ∀ cs' l', cs'.length ≤ 63 → 0 ≤ l' ∧ l' < 4294967296 → Q (.dl cs' l') [.scr ns]) : wp (call T k f [.scr ns]) Q := by
  obtain ⟨k, rfl⟩ : ∃ j, k = j + 1 := ⟨k - 1, by omega⟩
  rw [call_prim h rfl (by omega)]
  refine ⟨.dl ns (48271 + ns.sum % 2147483629), [.scr ns], ?_, q _ _ hn ?_⟩
  · show (if ns.length ≤ 63 then some (Va.dl ns (48271 + ns.sum % 2147483629), [Va.scr ns]) else none) = _
    rw [if_pos hn]
  · have h1 := Int.emod_nonneg ns.sum (show (2147483629 : Int) ≠ 0 by decide)
    have h2 := Int.emod_lt_of_pos ns.sum (show (0 : Int) < 2147483629 by decide)
    omega
end Mn
/-! MnQ3: a deck of the third sort ({'cells', 'at', 'sum'}): what its defs do. -/
namespace Mn
open PySem L2
def mixC (c n m : Int) : Int :=
  let a := (c % 2147483647 * 48271 + 69621 * n + 7919) % 2147483629
  let b := a * a % 2147483587
  b * (b + 69621) % 2147483563 / 8 % m
/-- what is drawn, the cells behind it -/
def drawC (cs : List Int) (n s m : Int) : Int × List Int := match cs with
  | [] => (mixC s (n + 1) m, [])
  | c :: r => if 1000000000000000000 ≤ c then (c % m, c / m :: r) else (mixC c (n + 1) m, r)
def takeC : List Va → Option (Va × List Va)
  | [.dd cs n s, .d (.int m)] => if 0 < m ∧ m < 1073741824 ∧ cs.length ≤ 1000 then some (.d (.int (drawC cs n s m).1), [.dd (drawC cs n s m).2 (n + 1) s, .d (.int m)]) else none
  | _ => none
def deckC : List Va → Option (Va × List Va)
  | [.scr ns] => if ns.length ≤ 63 then some (.dd ns 0 (ns.sum % 2147483629 + ns.length), [.scr ns]) else none
  | _ => none
theorem drawC_ok {cs : List Int} {n s m : Int} (hm : 0 < m) : 0 ≤ (drawC cs n s m).1 ∧ (drawC cs n s m).1 < m ∧ (drawC cs n s m).2.length ≤ cs.length := by
  have e1 := fun x : Int => Int.emod_nonneg x (show m ≠ 0 by omega)
  have e2 := fun x : Int => Int.emod_lt_of_pos x hm
  cases cs with
  | nil => exact ⟨e1 _, e2 _, Nat.le_refl _⟩
  | cons c r =>
    unfold drawC
    by_cases hc : 1000000000000000000 ≤ c
    · simp only [hc, if_true]
      exact ⟨e1 _, e2 _, by simp⟩
    · simp only [hc, if_false]
      exact ⟨e1 _, e2 _, by simp⟩
theorem takeC_wp {T : Tab} {k f : Nat} {x : Str} (h : T.fns[f]? = some (x, .prim 2 takeC)) (hk : 9 ≤ k) {cs : List Int} {n s m : Int} {Q : Va → List Va → Prop} (hm : 0 < m) (hm2 : m < 1073741824) (hc : cs.length ≤ 63)
    (q : ∀ r cs', 0 ≤ r → r < m → cs'.length ≤ 63 → Q (.d (.int r)) [.dd cs' (n + 1) s, .d (.int m)]) : wp (call T k f [.dd cs n s, .d (.int m)]) Q := by
  obtain ⟨k, rfl⟩ : ∃ j, k = j + 1 := ⟨k - 1, by omega⟩
  rw [call_prim h rfl (by omega)]
  obtain ⟨h1, h2, h3⟩ := drawC_ok (cs := cs) (n := n) (s := s) hm
  refine ⟨.d (.int (drawC cs n s m).1), [.dd (drawC cs n s m).2 (n + 1) s, .d (.int m)], ?_, q _ _ h1 h2 (by omega)⟩
  show (if 0 < m ∧ m < 1073741824 ∧ cs.length ≤ 1000 then some (Va.d (D.int (drawC cs n s m).1), [Va.dd (drawC cs n s m).2 (n + 1) s, Va.d (D.int m)]) else none) = _
  rw [if_pos ⟨hm, hm2, by omega⟩]
theorem deckC_wp {T : Tab} {k f : Nat} {x : Str} (h : T.fns[f]? = some (x, .prim 1 deckC)) (hk : 9 ≤ k) {ns : List Int} {Q : Va → List Va → Prop} (hn : ns.length ≤ 63)
    (q : ∀ cs' n s, cs'.length ≤ 63 → Q (.dd cs' n s) [.scr ns]) : wp (call T k f [.scr ns]) Q := by
  obtain ⟨k, rfl⟩ : ∃ j, k = j + 1 := ⟨k - 1, by omega⟩
  rw [call_prim h rfl (by omega)]
  refine ⟨.dd ns 0 (ns.sum % 2147483629 + ns.length), [.scr ns], ?_, q _ _ _ hn⟩
  show (if ns.length ≤ 63 then some (Va.dd ns 0 (ns.sum % 2147483629 + ns.length), [Va.scr ns]) else none) = _
  rw [if_pos hn]
/-! ### the deck's dict -/
def dkC (c : Addr) (n s : Int) : List (Key × V) := [(Sum.inr "cells", .ref c), (Sum.inr "at", .int n), (Sum.inr "sum", .int s)]
theorem sn1 : ¬ ("cells" : Str) = "at" := by decide +kernel
theorem sn2 : ¬ ("cells" : Str) = "sum" := by decide +kernel
theorem sn3 : ¬ ("at" : Str) = "sum" := by decide +kernel
theorem sn4 : ¬ ("sum" : Str) = "at" := by decide +kernel
theorem ne1 : ¬ (Sum.inr ("cells" : Str) : Key) = Sum.inr ("at" : Str) := fun z => sn1 (Sum.inr.inj z)
theorem ne2 : ¬ (Sum.inr ("cells" : Str) : Key) = Sum.inr ("sum" : Str) := fun z => sn2 (Sum.inr.inj z)
theorem ne3 : ¬ (Sum.inr ("at" : Str) : Key) = Sum.inr ("sum" : Str) := fun z => sn3 (Sum.inr.inj z)
theorem ne4 : ¬ (Sum.inr ("sum" : Str) : Key) = Sum.inr ("at" : Str) := fun z => sn4 (Sum.inr.inj z)
theorem dkC1 (c : Addr) (n s : Int) : valV (dkC c n s) (Sum.inr "cells") = some (.ref c) := valV_pos rfl
theorem dkC2 (c : Addr) (n s : Int) : valV (dkC c n s) (Sum.inr "at") = some (.int n) := (valV_neg (p := ((Sum.inr ("cells" : Str) : Key), V.ref c)) ne1).trans (valV_pos rfl)
theorem dkC3 (c : Addr) (n s : Int) : valV (dkC c n s) (Sum.inr "sum") = some (.int s) := (valV_neg (p := ((Sum.inr ("cells" : Str) : Key), V.ref c)) ne2).trans ((valV_neg (p := ((Sum.inr ("at" : Str) : Key), V.int n)) ne3).trans (valV_pos rfl))
theorem dkCp (c : Addr) (n s m : Int) : putK (dkC c n s) (Sum.inr "at") (.int m) = dkC c m s := by
  simp [putK, dkC, sn1, sn4]
theorem merge_dkC (c : Addr) (n s : Int) : mergeK [] (dkC c n s) = dkC c n s := by
  simp [mergeK, dkC, putK, sn1, sn2, sn3]
def rIxG : V → V → Hp → VK → Prop := fun x y H Q => ∃ a z, x = .ref a ∧ DGet H a y (some z) ∧ Q z H
theorem ix_dG {X : Cx} (hu : X.A.units + 1 < cLine) : IxR X rIxG := by
  intro value slice pins s σ H x y v u Q I rx ry h hs
  obtain ⟨a, z, rfl, g, q⟩ := h
  obtain rfl : v = Value.ref a := rx
  exact PyProof.Rows.tail_any (dict_typeIs I g) PySem.F.slot_dict_getitem.lookup (d_getItem hu I g ry fun w' s3 I3 rw' => ⟨z, H, I3, rw', q⟩) hs
theorem getC {H : Hp} {a : Addr} {kvs : List (Key × V)} {k : Str} {z : V} (h : H a = some (.dK kvs)) (e : valV kvs (Sum.inr k) = some z) : DGet H a (.str k) (some z) := by
  rw [← e]
  exact DGet.k (k := Sum.inr k) h
theorem putC {H : Hp} {a c : Addr} {n s m : Int} (h : H a = some (.dK (dkC c n s))) : DPut H a (.str "at") (.int m) (upd H a (.dK (dkC c m s))) := by
  have := DPut.k (k := Sum.inr "at") (v := .int m) h (by show 3 < sizeLine; decide)
  rw [dkCp] at this
  exact this
theorem ne_nil (cs : List Int) : notV (eqS (.ls (cs.map D.int)) (.ls [])) = some (.d (.bl (!cs.isEmpty))) := by rw [eq_nil]; rfl
end Mn
/-! MnU: words, open parts, terms drawn; the open parts that stand in a term; for any table. -/
namespace Mn
open PySem
def cWords (tk : Nat) : CB := (.cons (.asg 2 (.lit (.str [97, 98, 99, 100, 101, 102, 103, 104, 105, 106, 107, 108, 109, 110, 111, 112, 113, 114, 115, 116, 117, 118, 119, 120, 121, 122]))) (.cons (.asg 3 (.lst (.cons (.lit (.str [98, 97, 114])) (.cons (.lit (.str [98, 97, 114, 101, 115])) (.cons (.lit (.str [116, 114, 101, 101, 115])) (.cons (.lit (.str [116, 114, 101])) (.cons (.lit (.str [119, 104, 101, 114])) (.cons (.lit (.str [119, 104, 101, 114, 101, 115])) (.cons (.lit (.str [103, 105, 118, 101])) (.cons (.lit (.str [103, 105, 118])) (.cons (.lit (.str [98, 121, 101])) (.cons (.lit (.str [98])) (.cons (.lit (.str [115, 117, 109])) (.cons (.lit (.str [115, 117])) .nil)))))))))))))) (.cons (.asg 4 (.cf tk (.cons (.var 0) (.cons (.lit (.int 12)) .nil)))) (.cons (.asg 5 (.bin .Add (.slc (.var 3) (.some (.var 4)) .none) (.slc (.var 3) .none (.some (.var 4))))) (.cons (.asg 6 (.mt .join (.lit (.str [])) (.cons (.comp [("_law_k", 7)] (.one 7) (.rng (.cons (.lit (.int 7)) .nil)) .nil (.sub (.var 2) (.cf tk (.cons (.var 0) (.cons (.lit (.int 26)) .nil))))) .nil))) (.cons (.asg 8 (.sub (.lit (.str [97, 99, 100, 101, 102, 104, 105, 106, 107, 108, 109, 110, 111, 112, 113, 114, 115, 117, 118, 120, 121, 122])) (.cf tk (.cons (.var 0) (.cons (.lit (.int 22)) .nil))))) (.cons (.ite (.cmp .Eq (.cf tk (.cons (.var 0) (.cons (.lit (.int 2)) .nil))) (.lit (.int 0))) (.cons (.asg 5 (.comp [("_law_k", 7)] (.one 7) (.rng (.cons (.lit (.int 8)) .nil)) .nil (.bin .Add (.var 8) (.slc (.var 6) .none (.some (.var 7)))))) .nil) .nil) (.cons (.ret (.slc (.var 5) .none (.some (.var 1)))) .nil))))))))
def cOpens (tk : Nat) : CB := (.cons (.asg 2 (.lit (.str [65, 66, 67, 68, 69, 70, 71, 72, 73, 74, 75, 76, 77, 78, 79, 80, 81, 82, 83, 84, 85, 86, 87, 88, 89, 90]))) (.cons (.asg 3 (.cf tk (.cons (.var 0) (.cons (.lit (.int 26)) .nil)))) (.cons (.asg 4 (.sub (.var 2) (.var 3))) (.cons (.asg 5 (.sub (.var 2) (.bin .Mod (.bin .Add (.var 3) (.lit (.int 1))) (.lit (.int 26))))) (.cons (.asg 6 (.lst (.cons (.var 4) (.cons (.bin .Add (.var 4) (.lit (.str [49]))) (.cons (.bin .Add (.var 4) (.lit (.str [57]))) (.cons (.var 5) (.cons (.bin .Add (.var 5) (.lit (.str [53]))) (.cons (.bin .Add (.var 4) (.lit (.str [52]))) .nil)))))))) (.cons (.asg 7 (.cf tk (.cons (.var 0) (.cons (.lit (.int 6)) .nil)))) (.cons (.ret (.slc (.bin .Add (.slc (.var 6) (.some (.var 7)) .none) (.slc (.var 6) .none (.some (.var 7)))) .none (.some (.var 1)))) .nil)))))))
def cTerm (tk me : Nat) : CB := (.cons (.setI 4 (.lit (.int 0)) (.bin .Sub (.sub (.var 4) (.lit (.int 0))) (.lit (.int 1)))) (.cons (.asg 5 (.cf tk (.cons (.var 0) (.cons (.lit (.int 4)) .nil)))) (.cons (.ite (.and (.cons (.cmp .NotEq (.var 2) (.lst .nil)) (.cons (.or (.cons (.cmp .Eq (.var 5) (.lit (.int 0))) (.cons (.and (.cons (.cmp .Eq (.var 3) (.lit (.int 0))) (.cons (.cmp .Lt (.var 5) (.lit (.int 3))) .nil))) .nil))) .nil))) (.cons (.ret (.sub (.var 2) (.cf tk (.cons (.var 0) (.cons (.cb .len (.cons (.var 2) .nil)) .nil))))) .nil) .nil) (.cons (.asg 6 (.tup (.cons (.sub (.var 1) (.cf tk (.cons (.var 0) (.cons (.cb .len (.cons (.var 1) .nil)) .nil)))) .nil))) (.cons (.asg 7 (.sub (.lst (.cons (.cf tk (.cons (.var 0) (.cons (.lit (.int 4)) .nil))) (.cons (.cf tk (.cons (.var 0) (.cons (.lit (.int 7)) .nil))) .nil))) (.cb .int (.cons (.cmp .Eq (.cf tk (.cons (.var 0) (.cons (.lit (.int 8)) .nil))) (.lit (.int 5))) .nil)))) (.cons (.for_ (.one 8) (.rng (.cons (.bin .Mult (.var 7) (.cb .int (.cons (.cmp .Gt (.var 3) (.lit (.int 0))) .nil))) .nil)) (.cons (.ite (.cmp .Gt (.sub (.var 4) (.lit (.int 0))) (.lit (.int 0))) (.cons (.asg 6 (.bin .Add (.var 6) (.tup (.cons (.cf me (.cons (.var 0) (.cons (.var 1) (.cons (.var 2) (.cons (.bin .Sub (.var 3) (.lit (.int 1))) (.cons (.var 4) .nil)))))) .nil)))) .nil) .nil) .nil)) (.cons (.ret (.var 6)) .nil)))))))
def cChain (tk : Nat) (m : Int) : CB := (.cons (.asg 3 (.sub (.bin .Add (.lst (.cons (.tup (.cons (.sub (.var 1) (.lit (.int 0))) .nil)) .nil)) (.var 2)) (.cf tk (.cons (.var 0) (.cons (.bin .Add (.cb .len (.cons (.var 2) .nil)) (.lit (.int 1))) .nil))))) (.cons (.for_ (.one 4) (.rng (.cons (.bin .Add (.lit (.int 1)) (.cf tk (.cons (.var 0) (.cons (.lit (.int m)) .nil)))) .nil)) (.cons (.asg 3 (.tup (.cons (.sub (.var 1) (.cf tk (.cons (.var 0) (.cons (.cb .len (.cons (.var 1) .nil)) .nil)))) (.cons (.var 3) .nil)))) .nil)) (.cons (.ret (.var 3)) .nil)))
def cNote (me : Nat) : CB := (.cons (.ite (.isi (.var 0) [.str]) (.cons (.setI 1 (.var 0) (.lit (.bl true))) .nil) (.cons (.for_ (.one 2) (.it (.slc (.var 0) (.some (.lit (.int 1))) .none)) (.cons (.expr (.cf me (.cons (.var 2) (.cons (.var 1) .nil)))) .nil)) .nil)) .nil)
def cOpensOf (nt : Nat) : CB := (.cons (.asg 1 .dnew) (.cons (.expr (.cf nt (.cons (.var 0) (.cons (.var 1) .nil)))) (.cons (.ret (.cb .tuple (.cons (.cb .sorted (.cons (.var 1) .nil)) .nil))) .nil)))
def small : List Nat := [97, 98, 99, 100, 101, 102, 103, 104, 105, 106, 107, 108, 109, 110, 111, 112, 113, 114, 115, 116, 117, 118, 119, 120, 121, 122]
def isWord (s : List Nat) : Bool := decide ((1 : Int) ≤ s.length ∧ (s.length : Int) ≤ 8) && !decide (s ∈ [[98, 97, 114, 101], [116, 114, 101, 101], [119, 104, 101, 114, 101], [103, 105, 118, 101, 110], [98, 121]]) && s.all fun c => decide (c ∈ small)
def great : List Nat := [65, 66, 67, 68, 69, 70, 71, 72, 73, 74, 75, 76, 77, 78, 79, 80, 81, 82, 83, 84, 85, 86, 87, 88, 89, 90]
def figs : List Nat := [49, 50, 51, 52, 53, 54, 55, 56, 57]
def isOpen : List Nat → Bool
  | [a] => decide (a ∈ great)
  | [a, b] => decide (a ∈ great) && decide (b ∈ figs)
  | _ => false
/-- plain, short -/
def Sh (s : List Nat) : Prop := Asc s ∧ s.length ≤ 60
/-- a word, an open part -/
def Wo (s : List Nat) : Prop := Sh s ∧ isWord s = true
def Op (s : List Nat) : Prop := Sh s ∧ isOpen s = true
theorem partsT_mem : ∀ {ts : List Tm} {t : Tm}, t ∈ ts → t.parts ≤ partsT ts
  | t :: ts, x, h => by
    rcases List.mem_cons.mp h with rfl | h
    · simp [partsT]
    · have := partsT_mem h
      simp [partsT]
      omega
mutual
def noteT : List (List Nat × D) → Tm → List (List Nat × D)
  | kvs, .op s => putKey kvs s (.bl true)
  | kvs, .nd _ ts => noteTs kvs ts
def noteTs : List (List Nat × D) → List Tm → List (List Nat × D)
  | kvs, [] => kvs
  | kvs, t :: ts => noteTs (noteT kvs t) ts
end
theorem put_len {β : Type} (kvs : List (List Nat × β)) (s : List Nat) (v : β) : (putKey kvs s v).length ≤ kvs.length + 1 := by
  unfold putKey
  split <;> simp
mutual
theorem note_len : ∀ (t : Tm) (kvs : List (List Nat × D)), (noteT kvs t).length ≤ kvs.length + t.parts
  | .op s, kvs => by simp only [noteT, Tm.parts]; exact put_len _ _ _
  | .nd w ts, kvs => by
    have := notes_len ts kvs
    simp only [noteT, Tm.parts]
    omega
theorem notes_len : ∀ (ts : List Tm) (kvs : List (List Nat × D)), (noteTs kvs ts).length ≤ kvs.length + partsT ts
  | [], kvs => by simp [noteTs]
  | t :: ts, kvs => by
    have h1 := note_len t kvs
    have h2 := notes_len ts (noteT kvs t)
    simp only [noteTs, partsT]
    omega
end
theorem note_eq {T : Tab} {me : Nat} {xn : Str} (hN : T.fns[me]? = some (xn, .code ⟨2, 3, [0, 1], cNote me⟩)) : ∀ (k : Nat) (t : Tm) (kvs : List (List Nat × D)), t.lev ≤ k → kvs.length + t.parts ≤ szL → Mn.call T k me [.d t.d, .dc kvs] = some (.d .non, [.d t.d, .dc (noteT kvs t)])
  | 0, t, _, h, _ => by have := t.lev_pos; omega
  | k + 1, t, kvs, h, hz => by
    rw [call_code hN rfl]
    cases t with
    | op s =>
      have hk : kvs.length < szL := by simp only [Tm.parts] at hz; omega
      simp [runFn, cNote, Tm.d, outs, tnS, noteT, hk]
    | nd w ts =>
      have hl : levT ts ≤ k := by simp only [Tm.lev] at h; omega
      have hp : kvs.length + partsT ts ≤ szL := by simp only [Tm.parts] at hz; omega
      have loop : ∀ (ts' : List Tm) (kvs : List (List Nat × D)) (o : Option Va), levT ts' ≤ k → kvs.length + partsT ts' ≤ szL → ∃ o', forL (forS (Mn.call T k) T.con (.one 2) (.cons (.expr (.cf me (.cons (.var 2) (.cons (.var 1) .nil)))) .nil)) (dsT ts') [some (.d (.tup (.str w :: dsT ts))), some (.dc kvs), o] = some (.nx, [some (.d (.tup (.str w :: dsT ts))), some (.dc (noteTs kvs ts')), o']) := by
        intro ts'
        induction ts' with
        | nil => intro kvs o _ _; exact ⟨o, rfl⟩
        | cons t ts' ih =>
          intro kvs o hl hz
          simp only [levT, partsT] at hl hz
          have h1 := note_eq hN k t kvs (by omega) (by omega)
          have h2 := note_len t kvs
          obtain ⟨o', ho⟩ := ih (noteT kvs t) (some (.d t.d)) (by omega) (by omega)
          refine ⟨o', ?_⟩
          simp only [dsT, forL]
          rw [show forS (Mn.call T k) T.con (.one 2) (.cons (.expr (.cf me (.cons (.var 2) (.cons (.var 1) .nil)))) .nil) t.d [some (.d (.tup (.str w :: dsT ts))), some (.dc kvs), o] = some (.nx, [some (.d (.tup (.str w :: dsT ts))), some (.dc (noteT kvs t)), some (.d t.d)]) by simp [forS, h1, putArgs]]
          exact ho
      obtain ⟨o', ho⟩ := loop ts kvs none hl hp
      simp [runFn, cNote, Tm.d, outs, tnS, noteT, cut_tail, ho]
theorem opens_wp {T : Tab} {tk : Nat} {xt : Str} (hT : T.fns[tk]? = some (xt, .prim 2 takeA)) {f : Nat} {xf : Str} (hF : T.fns[f]? = some (xf, .code ⟨2, 8, [0, 1], cOpens tk⟩)) {k : Nat} (hk : 9 ≤ k) {cs : List Int} {s n m : Int} {Q : Va → List Va → Prop} (hm : 0 ≤ m) (hc : cs.length ≤ 63)
    (q : ∀ (L : List (List Nat)) cs' n', (∀ x ∈ L, Op x) → L.Nodup → L.length ≤ 12 → L.length ≤ m → cs'.length ≤ 63 → Q (.ls (L.map D.str)) [.dk cs' s n', .d (.int m)]) : wp (Mn.call T (k + 1) f [.dk cs s n, .d (.int m)]) Q := by
  rw [call_run hF rfl]
  simp [cOpens]
  refine take_wp hT hk (by decide) (by decide) hc fun r cs1 h0 h1 hc1 => ?_
  have at26 : ∀ i : Fin 26, great[i.val]? = some (65 + i.val) := by decide
  have atg : ∀ z : Int, 0 ≤ z → z < 26 → Mn.atI great z = some (65 + z.toNat) := fun z a b => by
    unfold Mn.atI Mn.ixN
    rw [if_pos a, if_pos (show z < (great.length : Int) from b)]
    exact at26 ⟨z.toNat, by omega⟩
  obtain ⟨c, e1, hc⟩ : ∃ c, Mn.atI great r = some c ∧ c = 65 + r.toNat := ⟨_, atg r h0 h1, rfl⟩
  obtain ⟨d, e2, hd⟩ : ∃ d, Mn.atI great ((r + 1) % 26) = some d ∧ d = 65 + ((r + 1) % 26).toNat := ⟨_, atg _ (by omega) (by omega), rfl⟩
  have hcd : c ≠ d := by omega
  have mg : ∀ z : Nat, 65 ≤ z → z ≤ 90 → z ∈ great := fun z a b => by
    have := at26 ⟨z - 65, by omega⟩
    rw [show 65 + (z - 65) = z by omega] at this
    exact List.mem_of_getElem? this
  have m1 : c ∈ great := mg c (by omega) (by omega)
  have m2 : d ∈ great := mg d (by omega) (by omega)
  have c1 : c < 128 := by omega
  have d1 : d < 128 := by omega
  simp only [great] at e1 e2
  simp [sz, e1, e2]
  refine take_wp hT hk (by decide) (by decide) hc1 fun r2 cs2 h2 h3 hc2 => ?_
  simp
  have hL : [D.str [c], D.str [c, 49], D.str [c, 57], D.str [d], D.str [d, 53], D.str [c, 52]] = ([[c], [c, 49], [c, 57], [d], [d, 53], [c, 52]] : List (List Nat)).map D.str := rfl
  generalize hL0 : ([[c], [c, 49], [c, 57], [d], [d, 53], [c, 52]] : List (List Nat)) = L0 at hL
  have asc0 : ∀ x ∈ L0, Op x := by
    rw [← hL0]
    simp [Op, Sh, Asc, isOpen, m1, m2, figs]
    omega
  have nd0 : L0.Nodup := by
    rw [← hL0]
    simp [hcd, hcd.symm]
  have len0 : L0.length = 6 := by rw [← hL0]; rfl
  have l1 := cut_len L0 (some r2) none
  have l2 := cut_len L0 none (some r2)
  rw [hL, cut_map, cut_map]
  simp [sz, show (cut L0 (some r2) none).length + (cut L0 none (some r2)).length ≤ 16777216 by omega]
  rw [← List.map_append, cut_map]
  refine q _ _ _ (fun x hx => ?_) ?_ ?_ ?_ hc2
  · rcases List.mem_append.mp (cut_mem hx) with h | h
    · exact asc0 x (cut_mem h)
    · exact asc0 x (cut_mem h)
  · rw [cut_pre _ hm, cut_suf _ h2, cut_pre _ h2]
    refine List.Nodup.sublist (List.take_sublist _ _) ?_
    refine (List.perm_append_comm.nodup_iff).mp ?_
    rw [List.take_append_drop]
    exact nd0
  · refine Nat.le_trans (cut_len _ _ _) ?_
    rw [List.length_append]
    omega
  · rw [cut_pre _ hm, List.length_take]
    omega
def letters : List Nat := [97, 98, 99, 100, 101, 102, 103, 104, 105, 106, 107, 108, 109, 110, 111, 112, 113, 114, 115, 116, 117, 118, 119, 120, 121, 122]
theorem letter (r : Int) (h0 : 0 ≤ r) (h1 : r < 26) : ∃ c, Mn.atI letters r = some c ∧ c ∈ letters := by
  obtain ⟨c, e, m⟩ := atI_lt (xs := letters) h0 (by simpa [letters] using h1)
  exact ⟨c, e, m⟩
def LettersP (s : Int) (a1 a3 a4 a5 a6 a8 : Option Va) (i : Nat) (env : Mn.Env) (acc : List D) : Prop :=
  ∃ (cs' : List Int) (n' : Int) (zs : List Nat), cs'.length ≤ 63 ∧ env = [some (.dk cs' s n'), a1, some (.d (.str letters)), a3, a4, a5, a6, none, a8] ∧ acc = zs.map (fun c => D.str [c]) ∧ zs.length = i ∧ ∀ c ∈ zs, c ∈ letters
theorem letters_wp {T : Tab} {tk : Nat} {xt : Str} (hT : T.fns[tk]? = some (xt, .prim 2 takeA)) {k : Nat} (hk : 9 ≤ k) {cs : List Int} {s n : Int} {a1 a3 a4 a5 a6 a8 : Option Va} {Q : List D → Mn.Env → Prop} (hc : cs.length ≤ 63)
    (q : ∀ (zs : List Nat) cs' n', (∀ c ∈ zs, c ∈ letters) → zs.length = 7 → cs'.length ≤ 63 → Q (zs.map fun c => D.str [c]) [some (.dk cs' s n'), a1, some (.d (.str letters)), a3, a4, a5, a6, none, a8]) :
    wp (compL (turnS (Mn.call T k) T.con (.one 7) .nil (.sub (.var 2) (.cf tk (.cons (.var 0) (.cons (.lit (.int 26)) .nil))))) [7] (rangeL 0 7) [some (.dk cs s n), a1, some (.d (.str letters)), a3, a4, a5, a6, none, a8] []) Q := by
  refine compL_wp (LettersP s a1 a3 a4 a5 a6 a8) ?_ ⟨cs, n, [], hc, rfl, rfl, rfl, fun _ h => nomatch h⟩ ?_
  · rintro i x env acc hx ⟨cs', n', zs, hc', rfl, rfl, hl, ha⟩
    obtain ⟨rfl, hi⟩ := rangeL_get hx
    simp [turnS]
    refine take_wp hT hk (by decide) (by decide) hc' fun r cs1 h0 h1 hc1 => ?_
    obtain ⟨c, e1, m1⟩ := letter r h0 h1
    have hll : letters.length ≤ szL := by simp [letters, sz]
    simp [hll, e1, wipeS]
    refine ⟨by rw [sz]; omega, cs1, n' + 1, zs ++ [c], hc1, rfl, by simp, by simp [hl], fun y hy => ?_⟩
    rcases List.mem_append.mp hy with h | h
    · exact ha y h
    · simp only [List.mem_singleton] at h
      rw [h]
      exact m1
  · rintro env acc ⟨cs', n', zs, hc', rfl, rfl, hl, ha⟩
    exact q zs cs' n' ha (by rw [hl, rangeL_len]) hc'
theorem words_wp {T : Tab} {tk : Nat} {xt : Str} (hT : T.fns[tk]? = some (xt, .prim 2 takeA)) {f : Nat} {xf : Str} (hF : T.fns[f]? = some (xf, .code ⟨2, 9, [0, 1], cWords tk⟩)) {k : Nat} (hk : 9 ≤ k) {cs : List Int} {s n m : Int} {Q : Va → List Va → Prop} (hm : 1 ≤ m) (hm2 : m ≤ 8) (hc : cs.length ≤ 63)
    (q : ∀ (L : List (List Nat)) cs' n', (∀ x ∈ L, Wo x) → L.length = m.toNat → cs'.length ≤ 63 → Q (.ls (L.map D.str)) [.dk cs' s n', .d (.int m)]) : wp (Mn.call T (k + 1) f [.dk cs s n, .d (.int m)]) Q := by
  rw [call_run hF rfl]
  simp [cWords, sz]
  refine take_wp hT hk (by decide) (by decide) hc fun r cs1 h0 h1 hc1 => ?_
  simp
  have hL : [D.str [98, 97, 114], D.str [98, 97, 114, 101, 115], D.str [116, 114, 101, 101, 115], D.str [116, 114, 101], D.str [119, 104, 101, 114], D.str [119, 104, 101, 114, 101, 115], D.str [103, 105, 118, 101], D.str [103, 105, 118], D.str [98, 121, 101], D.str [98], D.str [115, 117, 109], D.str [115, 117]] =
    ([[98, 97, 114], [98, 97, 114, 101, 115], [116, 114, 101, 101, 115], [116, 114, 101], [119, 104, 101, 114], [119, 104, 101, 114, 101, 115], [103, 105, 118, 101], [103, 105, 118], [98, 121, 101], [98], [115, 117, 109], [115, 117]] : List (List Nat)).map D.str := rfl
  rw [hL]
  generalize hW : ([[98, 97, 114], [98, 97, 114, 101, 115], [116, 114, 101, 101, 115], [116, 114, 101], [119, 104, 101, 114], [119, 104, 101, 114, 101, 115], [103, 105, 118, 101], [103, 105, 118], [98, 121, 101], [98], [115, 117, 109], [115, 117]] : List (List Nat)) = W
  have hWl : W.length = 12 := by rw [← hW]; rfl
  have hWa : ∀ x ∈ W, Wo x := by
    have : ∀ x ∈ W, ((∀ c ∈ x, c < 128) ∧ x.length ≤ 60) ∧ isWord x = true := by rw [← hW]; decide
    exact this
  clear hL hW
  rw [cut_map, cut_map, cut_suf _ h0, cut_pre _ h0]
  have hlen : (W.drop r.toNat ++ W.take r.toNat).length = 12 := by
    rw [List.length_append, List.length_drop, List.length_take]
    omega
  have hz : (List.map D.str (W.drop r.toNat)).length + (List.map D.str (W.take r.toNat)).length ≤ szL := by
    rw [List.length_append] at hlen
    rw [List.length_map, List.length_map, sz]
    omega
  rw [add_l hz, ← List.map_append]
  generalize hV : W.drop r.toNat ++ W.take r.toNat = V at hlen
  have hVa : ∀ x ∈ V, Wo x := fun x hx => by
    rw [← hV] at hx
    rcases List.mem_append.mp hx with h | h
    · exact hWa x (List.mem_of_mem_drop h)
    · exact hWa x (List.mem_of_mem_take h)
  simp [wipeS]
  refine letters_wp hT (a6 := none) (a8 := none) hk hc1 fun zs cs2 n2 za zl hc2 => ?_
  rw [join_one zs (by omega)]
  simp
  refine take_wp hT hk (by decide) (by decide) hc2 fun r2 cs3 h2 h3 hc3 => ?_
  obtain ⟨f, e3, m3⟩ := atI_lt (xs := [97, 99, 100, 101, 102, 104, 105, 106, 107, 108, 109, 110, 111, 112, 113, 114, 115, 117, 118, 120, 121, 122]) h2 (by simpa using h3)
  have f1 : f ∈ small ∧ f ≠ 98 ∧ f ≠ 116 ∧ f ≠ 119 ∧ f ≠ 103 := by
    have : ∀ x ∈ [97, 99, 100, 101, 102, 104, 105, 106, 107, 108, 109, 110, 111, 112, 113, 114, 115, 117, 118, 120, 121, 122], x ∈ small ∧ x ≠ 98 ∧ x ≠ 116 ∧ x ≠ 119 ∧ x ≠ 103 := by decide
    exact this f m3
  have sm : ∀ c ∈ small, c < 128 := by decide
  simp [sz, e3]
  refine take_wp hT hk (by decide) (by decide) hc3 fun r3 cs4 h4 h5 hc4 => ?_
  by_cases h6 : r3 = 0
  · have hcomp : compL (turnS (Mn.call T k) T.con (.one 7) .nil (.bin .Add (.var 8) (.slc (.var 6) .none (.some (.var 7))))) [7] (rangeL 0 8) [some (.dk cs4 s (n2 + 1 + 1)), some (.d (.int m)), some (.d (.str letters)), some (.ls (List.map D.str W)), some (.d (.int r)), some (.ls (List.map D.str V)), some (.d (.str zs)), none, some (.d (.str [f]))] [] =
        some (((List.range 8).map fun j => f :: zs.take j).map D.str, [some (.dk cs4 s (n2 + 1 + 1)), some (.d (.int m)), some (.d (.str letters)), some (.ls (List.map D.str W)), some (.d (.int r)), some (.ls (List.map D.str V)), some (.d (.str zs)), none, some (.d (.str [f]))]) := by
      refine (compL_map (f := fun j : Nat => D.int (0 + (j : Int))) (g := fun j : Nat => D.str (f :: zs.take j)) (fun j hj => ?_) (by simp [sz])).trans (by simp)
      refine ⟨[some (.dk cs4 s (n2 + 1 + 1)), some (.d (.int m)), some (.d (.str letters)), some (.ls (List.map D.str W)), some (.d (.int r)), some (.ls (List.map D.str V)), some (.d (.str zs)), some (.d (.int j)), some (.d (.str [f]))], ?_, by simp [wipeS]⟩
      have hz : zs.length ≤ szL := by rw [sz]; omega
      have hz2 : [f].length + (zs.take j).length ≤ szL := by rw [List.length_take, sz]; simp; omega
      simp [turnS, hz, cut_pre _ (Int.natCast_nonneg j)]
      rw [add_s hz2]
      rfl
    simp [h6, hcomp]
    rw [← List.map_map, cut_map, cut_pre _ (by omega)]
    refine q _ _ _ (fun x hx => ?_) (by rw [List.length_take, List.length_map, List.length_range]; omega) hc4
    obtain ⟨j, _, rfl⟩ := List.mem_map.mp (List.mem_of_mem_take hx)
    have hall : ∀ c ∈ f :: zs.take j, c ∈ small := fun c hc => by
      rcases List.mem_cons.mp hc with rfl | hc
      · exact f1.1
      · exact za c (List.mem_of_mem_take hc)
    have hlen8 : (f :: zs.take j).length ≤ 8 := by
      rw [List.length_cons, List.length_take]
      omega
    refine ⟨⟨fun c hc => sm c (hall c hc), by omega⟩, ?_⟩
    unfold isWord
    simp only [Bool.and_eq_true, decide_eq_true_eq, Bool.not_eq_true', decide_eq_false_iff_not, List.all_eq_true]
    refine ⟨⟨⟨by simp only [List.length_cons]; omega, by omega⟩, ?_⟩, fun c hc => hall c hc⟩
    obtain ⟨_, g1, g2, g3, g4⟩ := f1
    simp [g1, g2, g3, g4]
  · simp [h6]
    rw [cut_map, cut_pre _ (by omega)]
    exact q _ _ _ (fun x hx => hVa x (List.mem_of_mem_take hx)) (by rw [List.length_take]; omega) hc4
/-! ### terms drawn -/
mutual
def TmOk : Tm → Prop
  | .op s => Op s
  | .nd w ts => Wo w ∧ ts.length ≤ 6 ∧ okTs ts
def okTs : List Tm → Prop
  | [] => True
  | t :: ts => TmOk t ∧ okTs ts
end
theorem okTs_app : ∀ {a b : List Tm}, okTs (a ++ b) ↔ okTs a ∧ okTs b
  | [], b => by simp [okTs]
  | t :: a, b => by simp [okTs, okTs_app (a := a) (b := b), and_assoc]
theorem partsT_app : ∀ (a b : List Tm), partsT (a ++ b) = partsT a + partsT b
  | [], b => by simp [partsT]
  | t :: a, b => by simp [partsT, partsT_app a b, Nat.add_assoc]
theorem levT_app : ∀ (a b : List Tm), levT (a ++ b) = max (levT a) (levT b)
  | [], b => by simp [levT]
  | t :: a, b => by
    simp only [List.cons_append, levT, levT_app a b]
    omega
theorem opensT_app : ∀ (a b : List Tm), opensT (a ++ b) = opensT a ++ opensT b
  | [], b => rfl
  | t :: a, b => by simp [opensT, opensT_app a b]
theorem dsT_app (a b : List Tm) : dsT (a ++ b) = dsT a ++ dsT b := by simp [dsT_map]
/-- a term as the law draws it: at most h levels, arity six -/
structure Drawn (O : List (List Nat)) (h p : Nat) (t : Tm) : Prop where
  ok : TmOk t
  lev : t.lev ≤ h
  parts : t.parts ≤ p
  opens : ∀ x ∈ t.opens, x ∈ O
theorem ne_nil_strs (L : List (List Nat)) : eqS (.ls (L.map D.str)) (.ls []) = some (.d (.bl (decide (L = [])))) := by
  cases L <;> rfl
def termRest (tk me : Nat) : CB := (.cons (.asg 6 (.tup (.cons (.sub (.var 1) (.cf tk (.cons (.var 0) (.cons (.cb .len (.cons (.var 1) .nil)) .nil)))) .nil))) (.cons (.asg 7 (.sub (.lst (.cons (.cf tk (.cons (.var 0) (.cons (.lit (.int 4)) .nil))) (.cons (.cf tk (.cons (.var 0) (.cons (.lit (.int 7)) .nil))) .nil))) (.cb .int (.cons (.cmp .Eq (.cf tk (.cons (.var 0) (.cons (.lit (.int 8)) .nil))) (.lit (.int 5))) .nil)))) (.cons (.for_ (.one 8) (.rng (.cons (.bin .Mult (.var 7) (.cb .int (.cons (.cmp .Gt (.var 3) (.lit (.int 0))) .nil))) .nil)) (.cons (.ite (.cmp .Gt (.sub (.var 4) (.lit (.int 0))) (.lit (.int 0))) (.cons (.asg 6 (.bin .Add (.var 6) (.tup (.cons (.cf me (.cons (.var 0) (.cons (.var 1) (.cons (.var 2) (.cons (.bin .Sub (.var 3) (.lit (.int 1))) (.cons (.var 4) .nil)))))) .nil)))) .nil) .nil) .nil)) (.cons (.ret (.var 6)) .nil))))
def termEnv (W O : List (List Nat)) (dp : Nat) (cs : List Int) (s n l : Int) (r : Int) (x y z : Option Va) : Mn.Env :=
  [some (.dk cs s n), some (.ls (W.map D.str)), some (.ls (O.map D.str)), some (.d (.int dp)), some (.ls [.int l]), some (.d (.int r)), x, y, z]
def TermP (W O : List (List Nat)) (dp : Nat) (s : Int) (r : Int) (w : List Nat) (y : Option Va) (i : Nat) (env : Mn.Env) : Prop :=
  ∃ cs n l z ts, env = termEnv W O dp cs s n l r (some (.d (.tup (.str w :: dsT ts)))) y z ∧ cs.length ≤ 63 ∧ okTs ts ∧ levT ts ≤ dp ∧ partsT ts ≤ i * 7 ^ dp ∧ ts.length ≤ i ∧ ∀ x ∈ opensT ts, x ∈ O
theorem term_rest {T : Tab} {tk : Nat} {xt : Str} (hT : T.fns[tk]? = some (xt, .prim 2 takeA)) {me : Nat} {k : Nat} {W O : List (List Nat)} {dp : Nat} {s : Int} (hk : dp + 9 ≤ k) (hW : ∀ x ∈ W, Wo x) (hW1 : 1 ≤ W.length) (hW2 : W.length ≤ 1000)
    (ih : ∀ {cs : List Int} {n l : Int} {Q : Va → List Va → Prop}, 0 < dp → cs.length ≤ 63 → (∀ t cs' n' l', Drawn O dp (7 ^ dp) t → cs'.length ≤ 63 → Q (.d t.d) [.dk cs' s n', .ls (W.map D.str), .ls (O.map D.str), .d (.int (dp - 1 : Int)), .ls [.int l']]) →
      wp (Mn.call T k me [.dk cs s n, .ls (W.map D.str), .ls (O.map D.str), .d (.int (dp - 1 : Int)), .ls [.int l]]) Q)
    {cs : List Int} {n l r : Int} {Q : Va → List Va → Prop} {ws : List Va} (hws : ∃ cs0 n0 l0, ws = [.dk cs0 s n0, .ls (W.map D.str), .ls (O.map D.str), .d (.int dp), .ls [.int l0]]) (hc : cs.length ≤ 63)
    (q : ∀ t cs' n' l', Drawn O (dp + 1) (7 ^ (dp + 1)) t → cs'.length ≤ 63 → Q (.d t.d) [.dk cs' s n', .ls (W.map D.str), .ls (O.map D.str), .d (.int dp), .ls [.int l']]) :
    wp (exB (Mn.call T k) T.con (termRest tk me) (termEnv W O dp cs s n l r none none none)) fun a b => wp (retF [0, 1, 2, 3, 4] ws a b) Q := by
  obtain ⟨cs0, n0, l0, rfl⟩ := hws
  simp [termRest, termEnv]
  refine take_wp hT (by omega) (by omega) (by omega) hc fun r1 cs1 h0 h1 hc1 => ?_
  obtain ⟨w, e1, m1⟩ := atI_lt (xs := W) h0 h1
  have e1' : Mn.atI (W.map D.str) r1 = some (.str w) := by
    unfold Mn.atI at e1 ⊢
    rw [List.length_map]
    simp only [Option.bind_eq_some_iff] at e1 ⊢
    obtain ⟨j, a1, a2⟩ := e1
    exact ⟨j, a1, by rw [List.getElem?_map, a2]; rfl⟩
  simp [e1', sz]
  refine take_wp hT (by omega) (by decide) (by decide) hc1 fun r2 cs2 h2 h3 hc2 => ?_
  simp
  refine take_wp hT (by omega) (by decide) (by decide) hc2 fun r3 cs3 h4 h5 hc3 => ?_
  simp
  refine take_wp hT (by omega) (by decide) (by decide) hc3 fun r4 cs4 h6 h7 hc4 => ?_
  simp
  obtain ⟨v, hv, v0, v6⟩ : ∃ v, Mn.atI [D.int r2, D.int r3] (if r4 = 5 then 1 else 0) = some (.int v) ∧ 0 ≤ v ∧ v ≤ 6 := by
    by_cases h : r4 = 5
    · exact ⟨r3, by simp [h, Mn.atI, Mn.ixN], h4, by omega⟩
    · exact ⟨r2, by simp [h, Mn.atI, Mn.ixN], h2, by omega⟩
  rw [hv]
  simp
  obtain ⟨u, hu, u0, u6, ud⟩ : ∃ u, mulS (.d (.int v)) (.d (.int (if 0 < dp then 1 else 0))) = some (.d (.int u)) ∧ 0 ≤ u ∧ u ≤ 6 ∧ (0 < u → 0 < dp) := by
    by_cases h : 0 < dp
    · exact ⟨v, by simp [h, mul_ii], v0, v6, fun _ => h⟩
    · exact ⟨0, by simp [h, mul_ii], by omega, by omega, fun z => by omega⟩
  rw [hu]
  simp [show -4611686018427387904 ≤ u by omega, show u < 4611686018427387904 by omega]
  refine forL_wp (TermP W O dp s r w (some (.d (.int v)))) ?_ ⟨cs4, _, l, none, [], rfl, hc4, trivial, by simp [levT], by simp [partsT], by simp, fun _ h => nomatch h⟩ ?_
  · rintro i x env hx ⟨cs', n', l', z, ts, rfl, hc', hok, hlv, hpt, hln, hop⟩
    obtain ⟨rfl, hi⟩ := rangeL_get hx
    have hdp : 0 < dp := ud (by omega)
    have hpow : (i + 1) * 7 ^ dp = i * 7 ^ dp + 7 ^ dp := by rw [Nat.succ_mul]
    simp [forS, termEnv, Mn.atI, Mn.ixN]
    by_cases hl0 : 0 < l'
    · simp [hl0]
      refine ih hdp hc' fun t cs1 n1 l1 ht hc1 => ?_
      have hz : (D.str w :: dsT ts).length + [t.d].length ≤ szL := by
        rw [sz, List.length_cons, dsT_map, List.length_map]
        simp
        omega
      simp [sz]
      rw [add_t hz]
      simp
      refine ⟨cs1, n1, l1, some (.d (.int i)), ts ++ [t], by simp [termEnv, dsT_app, dsT], hc1, okTs_app.mpr ⟨hok, ht.ok, trivial⟩, ?_, ?_, by simp; omega, fun y hy => ?_⟩
      · rw [levT_app]
        have := ht.lev
        simp only [levT]
        omega
      · rw [partsT_app]
        have := ht.parts
        simp only [partsT]
        rw [hpow]
        omega
      · rw [opensT_app] at hy
        rcases List.mem_append.mp hy with h | h
        · exact hop y h
        · simp [opensT] at h
          exact ht.opens y h
    · simp [hl0]
      exact ⟨cs', n', l', _, ts, rfl, hc', hok, hlv, Nat.le_trans hpt (Nat.mul_le_mul_right _ (Nat.le_succ i)), by omega, hop⟩
  · rintro env ⟨cs', n', l', z, ts, rfl, hc', hok, hlv, hpt, hln, hop⟩
    rw [rangeL_len] at hpt hln
    simp [termEnv]
    have hq := q (.nd w ts) cs' n' l' ⟨⟨hW w m1, by omega, hok⟩, by simp only [Tm.lev]; omega, ?_, hop⟩ hc'
    · simpa [Tm.d] using hq
    · have h6 : u.toNat * 7 ^ dp ≤ 6 * 7 ^ dp := Nat.mul_le_mul_right _ (by omega)
      have h7 : 7 ^ (dp + 1) = 7 * 7 ^ dp := by rw [Nat.pow_succ, Nat.mul_comm]
      have h1' : 1 ≤ 7 ^ dp := Nat.one_le_pow _ _ (by decide)
      simp only [Tm.parts]
      omega
theorem term_wp {T : Tab} {tk : Nat} {xt : Str} (hT : T.fns[tk]? = some (xt, .prim 2 takeA)) {me : Nat} {xf : Str} (hF : T.fns[me]? = some (xf, .code ⟨5, 9, [0, 1, 2, 3, 4], cTerm tk me⟩)) : ∀ (dp k : Nat), dp + 9 ≤ k → ∀ {W O : List (List Nat)} {cs : List Int} {s n l : Int} {Q : Va → List Va → Prop}, (∀ x ∈ W, Wo x) → 1 ≤ W.length → W.length ≤ 1000 → (∀ x ∈ O, Op x) → O.length ≤ 12 → cs.length ≤ 63 →
    (∀ t cs' n' l', Drawn O (dp + 1) (7 ^ (dp + 1)) t → cs'.length ≤ 63 → Q (.d t.d) [.dk cs' s n', .ls (W.map D.str), .ls (O.map D.str), .d (.int dp), .ls [.int l']]) →
    wp (Mn.call T (k + 1) me [.dk cs s n, .ls (W.map D.str), .ls (O.map D.str), .d (.int dp), .ls [.int l]]) Q := by
  intro dp
  induction dp using Nat.strongRecOn with
  | _ dp IH =>
    intro k hk W O cs s n l Q hW hW1 hW2 hO hO2 hc q
    have hrest : ∀ {cs1 : List Int} {n' l' r : Int}, cs1.length ≤ 63 → wp (exB (Mn.call T k) T.con (termRest tk me) (termEnv W O dp cs1 s n' l' r none none none)) fun a b => wp (retF [0, 1, 2, 3, 4] [.dk cs s n, .ls (W.map D.str), .ls (O.map D.str), .d (.int dp), .ls [.int l]] a b) Q := by
      intro cs1 n' l' r hc1
      refine term_rest hT hk hW hW1 hW2 (fun {cs2 n2 l2 Q2} hdp hc2 q2 => ?_) ⟨cs, n, l, rfl⟩ hc1 q
      obtain ⟨dq, rfl⟩ : ∃ dq, dp = dq + 1 := ⟨dp - 1, by omega⟩
      obtain ⟨kq, rfl⟩ : ∃ kq, k = kq + 1 := ⟨k - 1, by omega⟩
      have e : ((dq + 1 : Nat) : Int) - 1 = (dq : Int) := by omega
      rw [e]
      refine IH dq (by omega) kq (by omega) hW hW1 hW2 hO hO2 hc2 fun t cs' n' l' ht hc' => ?_
      have := q2 t cs' n' l' ht hc'
      rwa [e] at this
    rw [call_run hF rfl]
    simp [cTerm, Mn.atI, Mn.ixN]
    refine take_wp hT (by omega) (by decide) (by decide) hc fun r cs1 h0 h1 hc1 => ?_
    have op_get : O ≠ [] → ∀ {r2 : Int}, 0 ≤ r2 → r2 < O.length → ∃ z, Mn.atI (O.map D.str) r2 = some (.str z) ∧ z ∈ O := fun hne r2 a b => by
      obtain ⟨z, e1, m1⟩ := atI_lt (xs := O) a b
      refine ⟨z, ?_, m1⟩
      unfold Mn.atI at e1 ⊢
      rw [List.length_map]
      simp only [Option.bind_eq_some_iff] at e1 ⊢
      obtain ⟨j, a1, a2⟩ := e1
      exact ⟨j, a1, by rw [List.getElem?_map, a2]; rfl⟩
    have hr := hrest (cs1 := cs1) (n' := n + 1) (l' := l - 1) (r := r) hc1
    have h7 : 1 ≤ 7 ^ (dp + 1) := Nat.one_le_pow _ _ (by decide)
    simp [termRest, termEnv] at hr
    have hop : ∀ (z : List Nat) cs2 , z ∈ O → cs2.length ≤ 63 → Q (.d (.str z)) [.dk cs2 s (n + 1 + 1), .ls (W.map D.str), .ls (O.map D.str), .d (.int dp), .ls [.int (l - 1)]] := fun z cs2 hz hc2 => by
      have := q (.op z) cs2 (n + 1 + 1) (l - 1) ⟨hO z hz, by simp [Tm.lev], by simpa [Tm.parts] using h7, by simpa [Tm.opens] using hz⟩ hc2
      simpa [Tm.d] using this
    simp [ne_nil_strs O]
    by_cases hO0 : O = []
    · simp only [hO0, if_true]
      simp
      simpa [hO0] using hr
    · have hOl : 0 < O.length := List.length_pos_iff.mpr hO0
      by_cases hr0 : r = 0
      · simp [hO0, hr0]
        refine take_wp hT (by omega) (by omega) (by omega) hc1 fun r2 cs2 h2 h3 hc2 => ?_
        obtain ⟨z, e1, m1⟩ := op_get hO0 h2 h3
        simp [e1]
        exact hop z cs2 m1 hc2
      · by_cases hd0 : dp = 0
        · by_cases hr3 : r < 3
          · simp [hO0, hr0, hd0, hr3]
            refine take_wp hT (by omega) (by omega) (by omega) hc1 fun r2 cs2 h2 h3 hc2 => ?_
            obtain ⟨z, e1, m1⟩ := op_get hO0 h2 h3
            simp [e1]
            have := hop z cs2 m1 hc2
            simpa [hd0] using this
          · simp [hO0, hr0, hd0, hr3]
            simpa [hd0] using hr
        · simp [hO0, hr0, hd0]
          simpa using hr
theorem strs_get {O : List (List Nat)} {r2 : Int} (a : 0 ≤ r2) (b : r2 < O.length) : ∃ z, Mn.atI (O.map D.str) r2 = some (.str z) ∧ z ∈ O := by
  obtain ⟨z, e1, m1⟩ := atI_lt (xs := O) a b
  refine ⟨z, ?_, m1⟩
  unfold Mn.atI at e1 ⊢
  rw [List.length_map]
  simp only [Option.bind_eq_some_iff] at e1 ⊢
  obtain ⟨j, a1, a2⟩ := e1
  exact ⟨j, a1, by rw [List.getElem?_map, a2]; rfl⟩
def ChainP (W O : List (List Nat)) (s : Int) (i : Nat) (env : Mn.Env) : Prop :=
  ∃ cs n t z, env = [some (.dk cs s n), some (.ls (W.map D.str)), some (.ls (O.map D.str)), some (.d (Tm.d t)), z] ∧ cs.length ≤ 63 ∧ Drawn O (i + 1) (i + 1) t
theorem chain_wp {T : Tab} {tk : Nat} {xt : Str} (hT : T.fns[tk]? = some (xt, .prim 2 takeA)) {f : Nat} {xf : Str} {m : Int} (hm1 : 0 < m) (hm2 : m < 1000) (hF : T.fns[f]? = some (xf, .code ⟨3, 5, [0, 1, 2], cChain tk m⟩)) {k : Nat} (hk : 9 ≤ k) {W O : List (List Nat)} {cs : List Int} {s n : Int} {Q : Va → List Va → Prop} (hW : ∀ x ∈ W, Wo x) (hW1 : 1 ≤ W.length) (hW2 : W.length ≤ 1000) (hO : ∀ x ∈ O, Op x) (hO2 : O.length ≤ 12) (hc : cs.length ≤ 63)
    (q : ∀ t cs' n', Drawn O (m.toNat + 1) (m.toNat + 1) t → cs'.length ≤ 63 → Q (.d t.d) [.dk cs' s n', .ls (W.map D.str), .ls (O.map D.str)]) :
    wp (Mn.call T (k + 1) f [.dk cs s n, .ls (W.map D.str), .ls (O.map D.str)]) Q := by
  rw [call_run hF rfl]
  obtain ⟨w0, e0, m0⟩ := strs_get (O := W) (r2 := 0) (by omega) (by omega)
  have hz : [D.tup [.str w0]].length + (O.map D.str).length ≤ szL := by rw [sz]; simp; omega
  simp [cChain, e0, sz]
  rw [add_l hz]
  simp
  refine take_wp hT (by omega) (by omega) (by omega) hc fun r cs1 h0 h1 hc1 => ?_
  obtain ⟨t, et, ht⟩ : ∃ t, Mn.atI (D.tup [.str w0] :: O.map D.str) r = some (Tm.d t) ∧ Drawn O 1 1 t := by
    by_cases hr : r = 0
    · subst hr
      exact ⟨.nd w0 [], by simp [Mn.atI, Mn.ixN, Tm.d, dsT], ⟨⟨hW w0 m0, by simp, trivial⟩, by simp [Tm.lev, levT], by simp [Tm.parts, partsT], fun x hx => by simp [Tm.opens, opensT] at hx⟩⟩
    · obtain ⟨z, e1, m1⟩ := strs_get (O := O) (r2 := r - 1) (by omega) (by omega)
      refine ⟨.op z, ?_, ⟨hO z m1, by simp [Tm.lev], by simp [Tm.parts], fun x hx => by simp [Tm.opens] at hx; rw [hx]; exact m1⟩⟩
      unfold Mn.atI Mn.ixN at e1 ⊢
      rw [if_pos (by omega), if_pos (by rw [List.length_map]; omega)] at e1
      rw [if_pos h0, if_pos (by rw [List.length_cons, List.length_map]; omega)]
      simp only [Option.bind_some] at e1 ⊢
      rw [show r.toNat = (r - 1).toNat + 1 by omega, List.getElem?_cons_succ]
      exact e1
  simp [et]
  refine take_wp hT (by omega) (by omega) (by omega) hc1 fun r2 cs2 h2 h3 hc2 => ?_
  simp [show -4611686018427387904 ≤ 1 + r2 by omega, show 1 + r2 < 4611686018427387904 by omega]
  refine forL_wp (ChainP W O s) ?_ ⟨cs2, _, t, none, rfl, hc2, ht⟩ ?_
  · rintro i x env hx ⟨cs', n', t', z, rfl, hc', ht'⟩
    obtain ⟨rfl, hi⟩ := rangeL_get hx
    simp [forS]
    refine take_wp hT (by omega) (by omega) (by omega) hc' fun r5 cs5 h5 h6 hc5 => ?_
    obtain ⟨w, e1, m1⟩ := strs_get (O := W) h5 h6
    simp [e1, sz]
    refine ⟨cs5, n' + 1, .nd w [t'], some (.d (.int i)), by simp [Tm.d, dsT], hc5, ⟨⟨hW w m1, by simp, ht'.ok, trivial⟩, ?_, ?_, fun x hx => ?_⟩⟩
    · have := ht'.lev
      simp only [Tm.lev, levT]
      omega
    · have := ht'.parts
      simp only [Tm.parts, partsT]
      omega
    · simp [Tm.opens, opensT] at hx
      exact ht'.opens x hx
  · rintro env ⟨cs', n', t', z, rfl, hc', ht'⟩
    rw [rangeL_len] at ht'
    simp
    exact q t' cs' n' ⟨ht'.ok, Nat.le_trans ht'.lev (by omega), Nat.le_trans ht'.parts (by omega), ht'.opens⟩ hc'
theorem keys_put (kvs : List (List Nat × D)) (s : List Nat) (v : D) : (putKey kvs s v).map (·.1) = if s ∈ kvs.map (·.1) then kvs.map (·.1) else kvs.map (·.1) ++ [s] := by
  unfold putKey
  have e : ((kvs.any fun p => decide (p.1 = s)) = true) ↔ s ∈ kvs.map (·.1) := by
    simp [List.any_eq_true]
  by_cases h : s ∈ kvs.map (·.1)
  · rw [if_pos (e.mpr h), if_pos h, List.map_map]
    congr 1
    funext p
    simp only [Function.comp]
    split <;> rfl
  · rw [if_neg (fun z => h (e.mp z)), if_neg h, List.map_append]
    rfl
mutual
theorem note_keys : ∀ (t : Tm) (kvs : List (List Nat × D)), (kvs.map (·.1)).Nodup → ((noteT kvs t).map (·.1)).Nodup ∧ ∀ x, x ∈ (noteT kvs t).map (·.1) ↔ x ∈ kvs.map (·.1) ∨ x ∈ t.opens
  | .op s, kvs, h => by
    simp only [noteT, keys_put, Tm.opens, List.mem_singleton]
    split
    · rename_i hm
      refine ⟨h, fun x => ⟨.inl, fun z => z.elim id fun z => z ▸ hm⟩⟩
    · rename_i hm
      refine ⟨List.nodup_append.mpr ⟨h, by simp, fun a ha b hb => ?_⟩, fun x => by simp⟩
      simp only [List.mem_singleton] at hb
      subst hb
      exact fun z => hm (z ▸ ha)
  | .nd w ts, kvs, h => by
    simp only [noteT, Tm.opens]
    exact notes_keys ts kvs h
theorem notes_keys : ∀ (ts : List Tm) (kvs : List (List Nat × D)), (kvs.map (·.1)).Nodup → ((noteTs kvs ts).map (·.1)).Nodup ∧ ∀ x, x ∈ (noteTs kvs ts).map (·.1) ↔ x ∈ kvs.map (·.1) ∨ x ∈ opensT ts
  | [], kvs, h => by simp only [noteTs, opensT]; exact ⟨h, fun x => by simp⟩
  | t :: ts, kvs, h => by
    obtain ⟨h1, h2⟩ := note_keys t kvs h
    obtain ⟨h3, h4⟩ := notes_keys ts (noteT kvs t) h1
    simp only [noteTs, opensT]
    refine ⟨h3, fun x => ?_⟩
    rw [h4, h2, List.mem_append]
    exact ⟨fun z => z.elim (fun z => z.elim .inl fun z => .inr (.inl z)) fun z => .inr (.inr z), fun z => z.elim (fun z => .inl (.inl z)) fun z => z.elim (fun z => .inl (.inr z)) .inr⟩
end
theorem nodup_le {α : Type} [DecidableEq α] : ∀ {a b : List α}, a.Nodup → (∀ x ∈ a, x ∈ b) → a.length ≤ b.length
  | [], b, _, _ => Nat.zero_le _
  | x :: a, b, h, s => by
    obtain ⟨h1, h2⟩ := List.nodup_cons.mp h
    have hx := s x List.mem_cons_self
    have := nodup_le (b := b.erase x) h2 fun y hy => (List.mem_erase_of_ne (show y ≠ x from fun z => h1 (by rw [← z]; exact hy))).mpr (s y (List.mem_cons_of_mem _ hy))
    rw [List.length_erase_of_mem hx] at this
    have := List.length_pos_of_mem hx
    simp only [List.length_cons]
    omega
def keysOf (t : Tm) : List (List Nat) := (noteT [] t).map (·.1)
theorem keys_ok (t : Tm) : (keysOf t).Nodup ∧ ∀ x, x ∈ keysOf t ↔ x ∈ t.opens := by
  obtain ⟨h1, h2⟩ := note_keys t [] (by simp)
  exact ⟨h1, fun x => by unfold keysOf; rw [h2]; simp⟩
theorem opens_eq {T : Tab} {nt f : Nat} {xn xf : Str} (hN : T.fns[nt]? = some (xn, .code ⟨2, 3, [0, 1], cNote nt⟩)) (hF : T.fns[f]? = some (xf, .code ⟨1, 2, [0], cOpensOf nt⟩)) {k : Nat} {t : Tm} (hl : t.lev ≤ k) (hp : t.parts ≤ 2000000) (hk : (keysOf t).length < 64) : Mn.call T (k + 1) f [.d t.d] = some (.d (.tup ((sortT (keysOf t)).map .str)), [.d t.d]) := by
  rw [call_run hF rfl]
  have hn := note_eq hN k t [] hl (by rw [sz]; simp; omega)
  have hs : sortedS (.dc (noteT [] t)) = some (.ls ((sortT (keysOf t)).map .str)) := by
    show (if (noteT [] t).length < 64 then some (Va.ls ((sortT ((noteT [] t).map (·.1))).map .str)) else none) = _
    rw [if_pos (by simpa [keysOf] using hk)]
    rfl
  simp [cOpensOf, hn, hs]
mutual
theorem lay_tm : ∀ t : Tm, TmOk t → PyData.canLay0 t.d.py = true ∧ PyData.depth t.d.py ≤ t.lev
  | .op s, h => by
    simp only [Tm.d, D.py, PyData.canLay0, PyData.strOk, PyData.depth]
    exact ⟨asc_all h.1.1, by simp [Tm.lev]⟩
  | .nd w ts, h => by
    obtain ⟨h1, h2⟩ := lay_ts ts h.2.2
    simp only [Tm.d, D.py, D.pys, PyData.canLay0, PyData.canLayAll0, PyData.strOk, PyData.depth, PyData.depthAll, Tm.lev, h1, Bool.and_true]
    exact ⟨asc_all h.1.1.1, by omega⟩
theorem lay_ts : ∀ ts : List Tm, okTs ts → PyData.canLayAll0 (D.pys (dsT ts)) = true ∧ PyData.depthAll (D.pys (dsT ts)) ≤ levT ts
  | [], _ => ⟨rfl, by simp [dsT, D.pys, PyData.depthAll]⟩
  | t :: ts, h => by
    obtain ⟨h1, h2⟩ := lay_tm t h.1
    obtain ⟨h3, h4⟩ := lay_ts ts h.2
    simp only [dsT, D.pys, PyData.canLayAll0, PyData.depthAll, levT, h1, h3, Bool.and_self, true_and]
    omega
end
theorem okTs_mem : ∀ {ts : List Tm} {u : Tm}, okTs ts → u ∈ ts → TmOk u
  | t :: ts, u, h, hu => by
    rcases List.mem_cons.mp hu with rfl | hu
    · exact h.1
    · exact okTs_mem h.2 hu
theorem in_strs (x : List Nat) (l : List (List Nat)) (hx : Asc x) (hl : ∀ y ∈ l, Asc y) : inS (.d (.str x)) (.ls (l.map D.str)) = some (.d (.bl (decide (x ∈ l)))) := by
  show inL (.str x) (l.map D.str) = _
  unfold inL
  rw [if_pos ⟨okD_str hx, okD_strs hl⟩, anyEq_strs]
theorem eqv_strs : ∀ l : List (List Nat), PyData.eqvAll (D.pys (l.map D.str)) (D.pys (l.map D.str)) = true
  | [] => rfl
  | x :: l => by simp [D.pys, D.py, PyData.eqvAll, PyData.eqv, eqv_strs l]
theorem eq_tups {l : List (List Nat)} (h : ∀ s ∈ l, Asc s) : eqS (.d (.tup (l.map D.str))) (.d (.tup (l.map D.str))) = some (.d (.bl true)) := by
  obtain ⟨h1, h2⟩ := strs_ok h
  have ok : okD (.tup (l.map D.str)) = true := by
    unfold okD SeqAt.shaped
    simp only [D.py, PyData.canLay0, h1, PyData.depth, Bool.true_and, decide_eq_true_eq]
    omega
  simp only [eqS, eqN, Option.or, asD, Option.bind_some, ok, and_self, if_true]
  congr 3
  simp [eqD, D.py, PyData.eqv, eqv_strs]
mutual
theorem opens_asc : ∀ (t : Tm), TmOk t → ∀ x ∈ t.opens, Asc x
  | .op s, h, x, hx => by
    simp only [Tm.opens, List.mem_singleton] at hx
    rw [hx]
    exact h.1.1
  | .nd w ts, h, x, hx => opensT_asc ts h.2.2 x hx
theorem opensT_asc : ∀ (ts : List Tm), okTs ts → ∀ x ∈ opensT ts, Asc x
  | [], _, x, hx => nomatch hx
  | t :: ts, h, x, hx => by
    simp only [opensT, List.mem_append] at hx
    rcases hx with hx | hx
    · exact opens_asc t h.1 x hx
    · exact opensT_asc ts h.2 x hx
end
theorem keys_le {O : List (List Nat)} {t : Tm} (h : ∀ x ∈ t.opens, x ∈ O) (hO : O.length ≤ 12) : (keysOf t).length < 64 := by
  have := nodup_le (keys_ok t).1 fun x hx => h x (((keys_ok t).2 x).mp hx)
  omega
end Mn
/-! MnV: words and open parts judged, by the program and by the laws; for any table. -/
namespace Mn
open PySem
def cIsWord (a b c : Nat) : CB := (.cons (.ite (.or (.cons (.not (.isi (.var 0) [.str])) (.cons (.not (.cmp2 .LtE .LtE (.lit (.int 1)) (.cb .len (.cons (.var 0) .nil)) (.glb b))) (.cons (.cmp .In (.var 0) (.glb c)) .nil)))) (.cons (.ret (.lit (.bl false))) .nil) .nil) (.cons (.ret (.cb .all (.cons (.comp [("sign", 1)] (.one 1) (.it (.var 0)) .nil (.cmp .In (.var 1) (.glb a))) .nil))) .nil))
def cIsOpen (a b : Nat) : CB := (.cons (.ite (.or (.cons (.not (.isi (.var 0) [.str])) (.cons (.not (.cmp2 .LtE .LtE (.lit (.int 1)) (.cb .len (.cons (.var 0) .nil)) (.lit (.int 2)))) (.cons (.cmp .NotIn (.sub (.var 0) (.lit (.int 0))) (.glb a)) .nil)))) (.cons (.ret (.lit (.bl false))) .nil) .nil) (.cons (.ret (.or (.cons (.cmp .Eq (.cb .len (.cons (.var 0) .nil)) (.lit (.int 1))) (.cons (.cmp .In (.sub (.var 0) (.lit (.int 1))) (.glb b)) .nil)))) .nil))
def cLawIsWord : CB := (.cons (.ite (.or (.cons (.not (.isi (.var 0) [.str])) (.cons (.not (.cmp2 .Lt .Lt (.lit (.int 0)) (.cb .len (.cons (.var 0) .nil)) (.lit (.int 9)))) .nil))) (.cons (.ret (.lit (.bl false))) .nil) .nil) (.cons (.ite (.cmp .In (.var 0) (.lst (.cons (.lit (.str [98, 97, 114, 101])) (.cons (.lit (.str [116, 114, 101, 101])) (.cons (.lit (.str [119, 104, 101, 114, 101])) (.cons (.lit (.str [103, 105, 118, 101, 110])) (.cons (.lit (.str [98, 121])) .nil))))))) (.cons (.ret (.lit (.bl false))) .nil) .nil) (.cons (.ret (.cmp .Eq (.comp [("_law_sign", 1)] (.one 1) (.it (.var 0)) (.cons (.cmp .NotIn (.var 1) (.lit (.str [97, 98, 99, 100, 101, 102, 103, 104, 105, 106, 107, 108, 109, 110, 111, 112, 113, 114, 115, 116, 117, 118, 119, 120, 121, 122]))) .nil) (.var 1)) (.lst .nil))) .nil)))
def cLawIsOpen : CB := (.cons (.ite (.or (.cons (.not (.isi (.var 0) [.str])) (.cons (.not (.cmp2 .Lt .Lt (.lit (.int 0)) (.cb .len (.cons (.var 0) .nil)) (.lit (.int 3)))) .nil))) (.cons (.ret (.lit (.bl false))) .nil) .nil) (.cons (.ite (.cmp .NotIn (.sub (.var 0) (.lit (.int 0))) (.lit (.str [65, 66, 67, 68, 69, 70, 71, 72, 73, 74, 75, 76, 77, 78, 79, 80, 81, 82, 83, 84, 85, 86, 87, 88, 89, 90]))) (.cons (.ret (.lit (.bl false))) .nil) .nil) (.cons (.ret (.or (.cons (.cmp .Eq (.slc (.var 0) (.some (.lit (.int 1))) .none) (.lit (.str []))) (.cons (.cmp .In (.slc (.var 0) (.some (.lit (.int 1))) .none) (.lit (.str [49, 50, 51, 52, 53, 54, 55, 56, 57]))) .nil)))) .nil)))
def kept : List D := [.str [98, 97, 114, 101], .str [116, 114, 101, 101], .str [119, 104, 101, 114, 101], .str [103, 105, 118, 101, 110], .str [98, 121]]
theorem blsOf_map {α : Type} (f : α → Bool) : ∀ l : List α, blsOf (l.map fun x => D.bl (f x)) = some (l.map f)
  | [] => rfl
  | x :: l => by simp [blsOf, blsOf_map f l]
theorem in_sign (c : Nat) (b : List Nat) : inS (.d (.str [c])) (.d (.str b)) = some (.d (.bl (decide (c ∈ b)))) := rfl
theorem word_eq {T : Tab} {f a b c : Nat} {x : Str} (hF : T.fns[f]? = some (x, .code ⟨1, 2, [0], cIsWord a b c⟩)) (hc0 : T.con a = some (.str small)) (hc1 : T.con b = some (.int 8)) (hc2 : T.con c = some (.tup kept)) {k : Nat} {s : List Nat} (hs : Asc s) (hl : s.length ≤ 1000) : Mn.call T (k + 1) f [.d (.str s)] = some (.d (.bl (isWord s)), [.d (.str s)]) := by
  rw [call_run hF rfl]
  have hz : s.length ≤ szL := by rw [sz]; omega
  have hin : inS (.d (.str s)) (.d (.tup kept)) = some (.d (.bl (decide (s ∈ [[98, 97, 114, 101], [116, 114, 101, 101], [119, 104, 101, 114, 101], [103, 105, 118, 101, 110], [98, 121]])))) := by
    have hok : okD (.tup ([[98, 97, 114, 101], [116, 114, 101, 101], [119, 104, 101, 114, 101], [103, 105, 118, 101, 110], [98, 121]].map D.str)) = true := by decide +kernel
    show inL (.str s) ([[98, 97, 114, 101], [116, 114, 101, 101], [119, 104, 101, 114, 101], [103, 105, 118, 101, 110], [98, 121]].map D.str) = _
    unfold inL
    rw [if_pos ⟨okD_str hs, by decide +kernel⟩, anyEq_strs]
  by_cases h1 : (1 : Int) ≤ s.length
  · by_cases h2 : (s.length : Int) ≤ 8
    · by_cases h3 : s ∈ [[98, 97, 114, 101], [116, 114, 101, 101], [119, 104, 101, 114, 101], [103, 105, 118, 101, 110], [98, 121]]
      · simp [cIsWord, tnS, hz, hc0, hc1, hc2, hin, h1, h2, h3, isWord]
      · simp [cIsWord, tnS, hz, hc0, hc1, hc2, hin, h1, h2, h3, isWord]
        have hc : compL (turnS (Mn.call T k) T.con (.one 1) .nil (.cmp .In (.var 1) (.glb a))) [1] (s.map fun c => D.str [c]) [some (.d (.str s)), none] [] = some (s.map fun c => D.bl (decide (c ∈ small)), [some (.d (.str s)), none]) := by
          refine (compL_map (f := fun c : Nat => D.str [c]) (g := fun c : Nat => D.bl (decide (c ∈ small))) (fun c hc => ?_) (by rw [sz]; simp; omega)).trans (by simp)
          exact ⟨[some (.d (.str s)), some (.d (.str [c]))], by simp [turnS, hc0, in_sign], by simp [wipeS]⟩
        simp [wipeS, hc, blsOf_map (fun c => decide (c ∈ small))]
    · simp [cIsWord, tnS, hz, hc0, hc1, hc2, hin, h1, h2, isWord]
  · simp [cIsWord, tnS, hz, hc0, hc1, hc2, hin, h1, isWord]
theorem compL_filter {α : Type} {turn : D → Mn.Env → Option (Option D × Mn.Env)} {own : List Nat} {env : Mn.Env} {f g : α → D} {p : α → Bool} : ∀ {ts : List α} {acc : List D}, (∀ t ∈ ts, ∃ e, turn (f t) env = some (if p t = true then some (g t) else none, e) ∧ wipeS e own = env) → acc.length + ts.length ≤ szL →
    compL turn own (ts.map f) env acc = some (acc ++ (ts.filter p).map g, env)
  | [], acc, _, _ => by simp [compL]
  | x :: xs, acc, h, hz => by
    obtain ⟨e, h1, h2⟩ := h x List.mem_cons_self
    rw [List.map_cons]
    unfold compL
    rw [h1]
    simp only [bnd_some, List.length_cons] at hz ⊢
    by_cases hp : p x = true
    · rw [if_pos hp]
      simp only
      rw [if_pos (by omega), h2, compL_filter (fun y hy => h y (List.mem_cons_of_mem _ hy)) (by simp; omega)]
      simp [hp]
    · rw [if_neg hp]
      simp only
      rw [h2, compL_filter (fun y hy => h y (List.mem_cons_of_mem _ hy)) (by omega)]
      simp [hp]
theorem empty_all (l : List Nat) : ∀ s : List Nat, (s.filter fun c => !decide (c ∈ l)).isEmpty = s.all fun c => decide (c ∈ l)
  | [] => rfl
  | c :: s => by
    have := empty_all l s
    by_cases h : c ∈ l
    · simpa [h] using this
    · simp [h]
theorem law_word_eq {T : Tab} {f : Nat} {x : Str} (hF : T.fns[f]? = some (x, .code ⟨1, 2, [0], cLawIsWord⟩)) {k : Nat} {s : List Nat} (hs : Asc s) (hl : s.length ≤ 1000) : Mn.call T (k + 1) f [.d (.str s)] = some (.d (.bl (isWord s)), [.d (.str s)]) := by
  rw [call_run hF rfl]
  have hz : s.length ≤ 16777216 := by omega
  unfold cLawIsWord
  rw [show ([97, 98, 99, 100, 101, 102, 103, 104, 105, 106, 107, 108, 109, 110, 111, 112, 113, 114, 115, 116, 117, 118, 119, 120, 121, 122] : List Nat) = small from rfl]
  have hin : inS (.d (.str s)) (.ls [.str [98, 97, 114, 101], .str [116, 114, 101, 101], .str [119, 104, 101, 114, 101], .str [103, 105, 118, 101, 110], .str [98, 121]]) = some (.d (.bl (decide (s ∈ [[98, 97, 114, 101], [116, 114, 101, 101], [119, 104, 101, 114, 101], [103, 105, 118, 101, 110], [98, 121]])))) := by
    show inL (.str s) ([[98, 97, 114, 101], [116, 114, 101, 101], [119, 104, 101, 114, 101], [103, 105, 118, 101, 110], [98, 121]].map D.str) = _
    unfold inL
    rw [if_pos ⟨okD_str hs, by decide +kernel⟩, anyEq_strs]
  by_cases h1 : (0 : Int) < s.length
  · have h0 : 0 < s.length := by omega
    by_cases h2 : (s.length : Int) < 9
    · have h1' : (1 : Int) ≤ s.length := by omega
      have h2' : (s.length : Int) ≤ 8 := by omega
      by_cases h3 : s ∈ [[98, 97, 114, 101], [116, 114, 101, 101], [119, 104, 101, 114, 101], [103, 105, 118, 101, 110], [98, 121]]
      · simp [tnS, hz, hin, h0, h1, h2, h3, isWord, sz]
      · have hc : compL (turnS (Mn.call T k) T.con (.one 1) (.cons (.cmp .NotIn (.var 1) (.lit (.str small))) .nil) (.var 1)) [1] (s.map fun c => D.str [c]) [some (.d (.str s)), none] [] =
            some ((s.filter fun c => !decide (c ∈ small)).map fun c => D.str [c], [some (.d (.str s)), none]) := by
          refine (compL_filter (f := fun c : Nat => D.str [c]) (g := fun c : Nat => D.str [c]) (p := fun c => !decide (c ∈ small)) (fun c hc => ?_) (by rw [sz]; simp; omega)).trans (by simp)
          refine ⟨[some (.d (.str s)), some (.d (.str [c]))], ?_, by simp [wipeS]⟩
          by_cases hm : c ∈ small
          · simp [turnS, in_sign, hm]
          · simp [turnS, in_sign, hm]
        simp [tnS, hz, hin, h0, h1, h2, h3, h1', h2', isWord, sz, hc, wipeS]
        exact empty_all small s
    · have h2' : ¬ (s.length : Int) ≤ 8 := by omega
      simp [tnS, hz, hin, h0, h1, h2, h2', isWord, sz]
  · have h1' : ¬ (1 : Int) ≤ s.length := by omega
    have h0 : ¬ 0 < s.length := by omega
    simp [tnS, hz, hin, h0, h1, h1', isWord, sz]
/-! ### open parts -/
theorem eq_ss {a b : List Nat} (ha : Asc a) (hb : Asc b) : eqS (.d (.str a)) (.d (.str b)) = some (.d (.bl (decide (a = b)))) := by
  simp only [eqS, eqN, Option.or, asD, Option.bind_some, okD_str ha, okD_str hb, and_self, if_true, eqD_str]
theorem at_0 {α : Type} (x : α) (r : List α) : atI (x :: r) 0 = some x := by simp [atI, ixN]
theorem at_1 {α : Type} (x y : α) (r : List α) : atI (x :: y :: r) 1 = some y := by
  unfold atI ixN
  rw [if_pos (by decide), if_pos (by simp; omega)]
  rfl
theorem open_eq {T : Tab} {f a b : Nat} {x : Str} (hF : T.fns[f]? = some (x, .code ⟨1, 1, [0], cIsOpen a b⟩)) (hc0 : T.con a = some (.str great)) (hc1 : T.con b = some (.str figs)) {k : Nat} {s : List Nat} (hl : s.length ≤ 1000) : Mn.call T (k + 1) f [.d (.str s)] = some (.d (.bl (isOpen s)), [.d (.str s)]) := by
  rw [call_run hF rfl]
  match s, hl with
  | [], _ => simp [cIsOpen, tnS, sz, isOpen]
  | [a], _ => by_cases h : a ∈ great <;> simp [cIsOpen, tnS, sz, isOpen, hc0, at_0, in_sign, h]
  | [a, b], _ => by_cases h : a ∈ great <;> simp [cIsOpen, tnS, sz, isOpen, hc0, hc1, at_0, at_1, in_sign, h]
  | a :: b :: c :: r, hl =>
    have hz : r.length + 1 + 1 + 1 ≤ 16777216 := by simp at hl; omega
    have h1 : (1 : Int) ≤ (r.length : Int) + 1 + 1 + 1 := by omega
    have h2 : ¬ (r.length : Int) + 1 + 1 + 1 ≤ 2 := by omega
    simp [cIsOpen, tnS, sz, isOpen, hz, h1, h2]
theorem law_open_eq {T : Tab} {f : Nat} {x : Str} (hF : T.fns[f]? = some (x, .code ⟨1, 1, [0], cLawIsOpen⟩)) {k : Nat} {s : List Nat} (hs : Asc s) (hl : s.length ≤ 1000) : Mn.call T (k + 1) f [.d (.str s)] = some (.d (.bl (isOpen s)), [.d (.str s)]) := by
  rw [call_run hF rfl]
  unfold cLawIsOpen
  rw [show ([65, 66, 67, 68, 69, 70, 71, 72, 73, 74, 75, 76, 77, 78, 79, 80, 81, 82, 83, 84, 85, 86, 87, 88, 89, 90] : List Nat) = great from rfl, show ([49, 50, 51, 52, 53, 54, 55, 56, 57] : List Nat) = figs from rfl]
  have e0 : Asc [] := fun _ h => nomatch h
  match s, hs, hl with
  | [], _, _ => simp [tnS, sz, isOpen]
  | [a], _, _ =>
    have e1 := eq_ss e0 e0
    by_cases h : a ∈ great <;> simp [tnS, sz, isOpen, at_0, in_sign, h, cut_tail, e1]
  | [a, b], hs, _ =>
    have e1 := eq_ss (a := [b]) (b := []) (fun c hc => hs c (List.mem_cons_of_mem _ hc)) e0
    by_cases h : a ∈ great <;> simp [tnS, sz, isOpen, at_0, in_sign, h, cut_tail, e1]
  | a :: b :: c :: r, hs, hl =>
    have hz : r.length + 1 + 1 + 1 ≤ 16777216 := by simp at hl; omega
    have h1 : (0 : Int) < (r.length : Int) + 1 + 1 + 1 := by omega
    have h2 : ¬ (r.length : Int) + 1 + 1 + 1 < 3 := by omega
    simp [tnS, sz, isOpen, hz, h1, h2]
/-! ### both, and the law's own -/
theorem word_no {T : Tab} {f a b c : Nat} {x0 : Str} (hF : T.fns[f]? = some (x0, .code ⟨1, 2, [0], cIsWord a b c⟩)) {k : Nat} {x : D} (h : tnS .str x = false) : Mn.call T (k + 1) f [.d x] = some (.d (.bl false), [.d x]) := by
  rw [call_run hF rfl]
  simp [cIsWord, h]
theorem open_no {T : Tab} {f a b : Nat} {x0 : Str} (hF : T.fns[f]? = some (x0, .code ⟨1, 1, [0], cIsOpen a b⟩)) {k : Nat} {x : D} (h : tnS .str x = false) : Mn.call T (k + 1) f [.d x] = some (.d (.bl false), [.d x]) := by
  rw [call_run hF rfl]
  simp [cIsOpen, h]
theorem law_word_no {T : Tab} {f : Nat} {x0 : Str} (hF : T.fns[f]? = some (x0, .code ⟨1, 2, [0], cLawIsWord⟩)) {k : Nat} {x : D} (h : tnS .str x = false) : Mn.call T (k + 1) f [.d x] = some (.d (.bl false), [.d x]) := by
  rw [call_run hF rfl]
  simp [cLawIsWord, h]
theorem law_open_no {T : Tab} {f : Nat} {x0 : Str} (hF : T.fns[f]? = some (x0, .code ⟨1, 1, [0], cLawIsOpen⟩)) {k : Nat} {x : D} (h : tnS .str x = false) : Mn.call T (k + 1) f [.d x] = some (.d (.bl false), [.d x]) := by
  rw [call_run hF rfl]
  simp [cLawIsOpen, h]
theorem asc_app {a b : List Nat} (ha : Asc a) (hb : Asc b) : Asc (a ++ b) := fun c hc => (List.mem_append.mp hc).elim (ha c) (hb c)
theorem asc_cut {a : List Nat} {lo hi : Option Int} (ha : Asc a) : Asc (cut a lo hi) := fun c hc => ha c (cut_mem hc)
theorem asc_at {a : List Nat} {r : Int} (ha : Asc a) (h0 : 0 ≤ r) (h1 : r < a.length) : ∃ c, atI a r = some c ∧ c < 128 := by
  obtain ⟨c, e, m⟩ := atI_lt h0 h1
  exact ⟨c, e, ha c m⟩
/-- a row of texts -/
theorem at_strs {L : List (List Nat)} {r : Int} (h0 : 0 ≤ r) (h1 : r < L.length) : ∃ s ∈ L, atI (L.map D.str) r = some (.str s) := by
  obtain ⟨c, e, m⟩ := atI_lt (xs := L.map D.str) h0 (by simpa using h1)
  obtain ⟨s, hs, rfl⟩ := List.mem_map.mp m
  exact ⟨s, hs, e⟩
end Mn
/-! MnU2: terms drawn, the row of open parts frozen. -/
namespace Mn
open PySem
theorem ne_nil_strsF (L : List (List Nat)) : eqS (.d (.lst (L.map D.str))) (.ls []) = some (.d (.bl (decide (L = [])))) := by
  cases L <;> rfl
def termEnvF (W O : List (List Nat)) (dp : Nat) (cs : List Int) (s n l : Int) (r : Int) (x y z : Option Va) : Mn.Env :=
  [some (.dk cs s n), some (.ls (W.map D.str)), some (.d (.lst (O.map D.str))), some (.d (.int dp)), some (.ls [.int l]), some (.d (.int r)), x, y, z]
def TermPF (W O : List (List Nat)) (dp : Nat) (s : Int) (r : Int) (w : List Nat) (y : Option Va) (i : Nat) (env : Mn.Env) : Prop :=
  ∃ cs n l z ts, env = termEnvF W O dp cs s n l r (some (.d (.tup (.str w :: dsT ts)))) y z ∧ cs.length ≤ 63 ∧ okTs ts ∧ levT ts ≤ dp ∧ partsT ts ≤ i * 7 ^ dp ∧ ts.length ≤ i ∧ ∀ x ∈ opensT ts, x ∈ O
theorem term_restF {T : Tab} {tk : Nat} {xt : Str} (hT : T.fns[tk]? = some (xt, .prim 2 takeA)) {me : Nat} {k : Nat} {W O : List (List Nat)} {dp : Nat} {s : Int} (hk : dp + 9 ≤ k) (hW : ∀ x ∈ W, Wo x) (hW1 : 1 ≤ W.length) (hW2 : W.length ≤ 1000)
    (ih : ∀ {cs : List Int} {n l : Int} {Q : Va → List Va → Prop}, 0 < dp → cs.length ≤ 63 → (∀ t cs' n' l', Drawn O dp (7 ^ dp) t → cs'.length ≤ 63 → Q (.d t.d) [.dk cs' s n', .ls (W.map D.str), .d (.lst (O.map D.str)), .d (.int (dp - 1 : Int)), .ls [.int l']]) →
      wp (Mn.call T k me [.dk cs s n, .ls (W.map D.str), .d (.lst (O.map D.str)), .d (.int (dp - 1 : Int)), .ls [.int l]]) Q)
    {cs : List Int} {n l r : Int} {Q : Va → List Va → Prop} {ws : List Va} (hws : ∃ cs0 n0 l0, ws = [.dk cs0 s n0, .ls (W.map D.str), .d (.lst (O.map D.str)), .d (.int dp), .ls [.int l0]]) (hc : cs.length ≤ 63)
    (q : ∀ t cs' n' l', Drawn O (dp + 1) (7 ^ (dp + 1)) t → cs'.length ≤ 63 → Q (.d t.d) [.dk cs' s n', .ls (W.map D.str), .d (.lst (O.map D.str)), .d (.int dp), .ls [.int l']]) :
    wp (exB (Mn.call T k) T.con (termRest tk me) (termEnvF W O dp cs s n l r none none none)) fun a b => wp (retF [0, 1, 2, 3, 4] ws a b) Q := by
  obtain ⟨cs0, n0, l0, rfl⟩ := hws
  simp [termRest, termEnvF]
  refine take_wp hT (by omega) (by omega) (by omega) hc fun r1 cs1 h0 h1 hc1 => ?_
  obtain ⟨w, e1, m1⟩ := atI_lt (xs := W) h0 h1
  have e1' : Mn.atI (W.map D.str) r1 = some (.str w) := by
    unfold Mn.atI at e1 ⊢
    rw [List.length_map]
    simp only [Option.bind_eq_some_iff] at e1 ⊢
    obtain ⟨j, a1, a2⟩ := e1
    exact ⟨j, a1, by rw [List.getElem?_map, a2]; rfl⟩
  simp [e1', sz]
  refine take_wp hT (by omega) (by decide) (by decide) hc1 fun r2 cs2 h2 h3 hc2 => ?_
  simp
  refine take_wp hT (by omega) (by decide) (by decide) hc2 fun r3 cs3 h4 h5 hc3 => ?_
  simp
  refine take_wp hT (by omega) (by decide) (by decide) hc3 fun r4 cs4 h6 h7 hc4 => ?_
  simp
  obtain ⟨v, hv, v0, v6⟩ : ∃ v, Mn.atI [D.int r2, D.int r3] (if r4 = 5 then 1 else 0) = some (.int v) ∧ 0 ≤ v ∧ v ≤ 6 := by
    by_cases h : r4 = 5
    · exact ⟨r3, by simp [h, Mn.atI, Mn.ixN], h4, by omega⟩
    · exact ⟨r2, by simp [h, Mn.atI, Mn.ixN], h2, by omega⟩
  rw [hv]
  simp
  obtain ⟨u, hu, u0, u6, ud⟩ : ∃ u, mulS (.d (.int v)) (.d (.int (if 0 < dp then 1 else 0))) = some (.d (.int u)) ∧ 0 ≤ u ∧ u ≤ 6 ∧ (0 < u → 0 < dp) := by
    by_cases h : 0 < dp
    · exact ⟨v, by simp [h, mul_ii], v0, v6, fun _ => h⟩
    · exact ⟨0, by simp [h, mul_ii], by omega, by omega, fun z => by omega⟩
  rw [hu]
  simp [show -4611686018427387904 ≤ u by omega, show u < 4611686018427387904 by omega]
  refine forL_wp (TermPF W O dp s r w (some (.d (.int v)))) ?_ ⟨cs4, _, l, none, [], rfl, hc4, trivial, by simp [levT], by simp [partsT], by simp, fun _ h => nomatch h⟩ ?_
  · rintro i x env hx ⟨cs', n', l', z, ts, rfl, hc', hok, hlv, hpt, hln, hop⟩
    obtain ⟨rfl, hi⟩ := rangeL_get hx
    have hdp : 0 < dp := ud (by omega)
    have hpow : (i + 1) * 7 ^ dp = i * 7 ^ dp + 7 ^ dp := by rw [Nat.succ_mul]
    simp [forS, termEnvF, Mn.atI, Mn.ixN]
    by_cases hl0 : 0 < l'
    · simp [hl0]
      refine ih hdp hc' fun t cs1 n1 l1 ht hc1 => ?_
      have hz : (D.str w :: dsT ts).length + [t.d].length ≤ szL := by
        rw [sz, List.length_cons, dsT_map, List.length_map]
        simp
        omega
      simp [sz]
      rw [add_t hz]
      simp
      refine ⟨cs1, n1, l1, some (.d (.int i)), ts ++ [t], by simp [termEnvF, dsT_app, dsT], hc1, okTs_app.mpr ⟨hok, ht.ok, trivial⟩, ?_, ?_, by simp; omega, fun y hy => ?_⟩
      · rw [levT_app]
        have := ht.lev
        simp only [levT]
        omega
      · rw [partsT_app]
        have := ht.parts
        simp only [partsT]
        rw [hpow]
        omega
      · rw [opensT_app] at hy
        rcases List.mem_append.mp hy with h | h
        · exact hop y h
        · simp [opensT] at h
          exact ht.opens y h
    · simp [hl0]
      exact ⟨cs', n', l', _, ts, rfl, hc', hok, hlv, Nat.le_trans hpt (Nat.mul_le_mul_right _ (Nat.le_succ i)), by omega, hop⟩
  · rintro env ⟨cs', n', l', z, ts, rfl, hc', hok, hlv, hpt, hln, hop⟩
    rw [rangeL_len] at hpt hln
    simp [termEnvF]
    have hq := q (.nd w ts) cs' n' l' ⟨⟨hW w m1, by omega, hok⟩, by simp only [Tm.lev]; omega, ?_, hop⟩ hc'
    · simpa [Tm.d] using hq
    · have h6 : u.toNat * 7 ^ dp ≤ 6 * 7 ^ dp := Nat.mul_le_mul_right _ (by omega)
      have h7 : 7 ^ (dp + 1) = 7 * 7 ^ dp := by rw [Nat.pow_succ, Nat.mul_comm]
      have h1' : 1 ≤ 7 ^ dp := Nat.one_le_pow _ _ (by decide)
      simp only [Tm.parts]
      omega
theorem term_wpF {T : Tab} {tk : Nat} {xt : Str} (hT : T.fns[tk]? = some (xt, .prim 2 takeA)) {me : Nat} {xf : Str} (hF : T.fns[me]? = some (xf, .code ⟨5, 9, [0, 1, 2, 3, 4], cTerm tk me⟩)) : ∀ (dp k : Nat), dp + 9 ≤ k → ∀ {W O : List (List Nat)} {cs : List Int} {s n l : Int} {Q : Va → List Va → Prop}, (∀ x ∈ W, Wo x) → 1 ≤ W.length → W.length ≤ 1000 → (∀ x ∈ O, Op x) → O.length ≤ 12 → cs.length ≤ 63 →
    (∀ t cs' n' l', Drawn O (dp + 1) (7 ^ (dp + 1)) t → cs'.length ≤ 63 → Q (.d t.d) [.dk cs' s n', .ls (W.map D.str), .d (.lst (O.map D.str)), .d (.int dp), .ls [.int l']]) →
    wp (Mn.call T (k + 1) me [.dk cs s n, .ls (W.map D.str), .d (.lst (O.map D.str)), .d (.int dp), .ls [.int l]]) Q := by
  intro dp
  induction dp using Nat.strongRecOn with
  | _ dp IH =>
    intro k hk W O cs s n l Q hW hW1 hW2 hO hO2 hc q
    have hrest : ∀ {cs1 : List Int} {n' l' r : Int}, cs1.length ≤ 63 → wp (exB (Mn.call T k) T.con (termRest tk me) (termEnvF W O dp cs1 s n' l' r none none none)) fun a b => wp (retF [0, 1, 2, 3, 4] [.dk cs s n, .ls (W.map D.str), .d (.lst (O.map D.str)), .d (.int dp), .ls [.int l]] a b) Q := by
      intro cs1 n' l' r hc1
      refine term_restF hT hk hW hW1 hW2 (fun {cs2 n2 l2 Q2} hdp hc2 q2 => ?_) ⟨cs, n, l, rfl⟩ hc1 q
      obtain ⟨dq, rfl⟩ : ∃ dq, dp = dq + 1 := ⟨dp - 1, by omega⟩
      obtain ⟨kq, rfl⟩ : ∃ kq, k = kq + 1 := ⟨k - 1, by omega⟩
      have e : ((dq + 1 : Nat) : Int) - 1 = (dq : Int) := by omega
      rw [e]
      refine IH dq (by omega) kq (by omega) hW hW1 hW2 hO hO2 hc2 fun t cs' n' l' ht hc' => ?_
      have := q2 t cs' n' l' ht hc'
      rwa [e] at this
    rw [call_run hF rfl]
    simp [cTerm, Mn.atI, Mn.ixN]
    refine take_wp hT (by omega) (by decide) (by decide) hc fun r cs1 h0 h1 hc1 => ?_
    have op_get : O ≠ [] → ∀ {r2 : Int}, 0 ≤ r2 → r2 < O.length → ∃ z, Mn.atI (O.map D.str) r2 = some (.str z) ∧ z ∈ O := fun hne r2 a b => by
      obtain ⟨z, e1, m1⟩ := atI_lt (xs := O) a b
      refine ⟨z, ?_, m1⟩
      unfold Mn.atI at e1 ⊢
      rw [List.length_map]
      simp only [Option.bind_eq_some_iff] at e1 ⊢
      obtain ⟨j, a1, a2⟩ := e1
      exact ⟨j, a1, by rw [List.getElem?_map, a2]; rfl⟩
    have hr := hrest (cs1 := cs1) (n' := n + 1) (l' := l - 1) (r := r) hc1
    have h7 : 1 ≤ 7 ^ (dp + 1) := Nat.one_le_pow _ _ (by decide)
    simp [termRest, termEnvF] at hr
    have hop : ∀ (z : List Nat) cs2 , z ∈ O → cs2.length ≤ 63 → Q (.d (.str z)) [.dk cs2 s (n + 1 + 1), .ls (W.map D.str), .d (.lst (O.map D.str)), .d (.int dp), .ls [.int (l - 1)]] := fun z cs2 hz hc2 => by
      have := q (.op z) cs2 (n + 1 + 1) (l - 1) ⟨hO z hz, by simp [Tm.lev], by simpa [Tm.parts] using h7, by simpa [Tm.opens] using hz⟩ hc2
      simpa [Tm.d] using this
    simp [ne_nil_strsF O]
    by_cases hO0 : O = []
    · simp only [hO0, if_true]
      simp
      simpa [hO0] using hr
    · have hOl : 0 < O.length := List.length_pos_iff.mpr hO0
      by_cases hr0 : r = 0
      · simp [hO0, hr0]
        refine take_wp hT (by omega) (by omega) (by omega) hc1 fun r2 cs2 h2 h3 hc2 => ?_
        obtain ⟨z, e1, m1⟩ := op_get hO0 h2 h3
        simp [e1]
        exact hop z cs2 m1 hc2
      · by_cases hd0 : dp = 0
        · by_cases hr3 : r < 3
          · simp [hO0, hr0, hd0, hr3]
            refine take_wp hT (by omega) (by omega) (by omega) hc1 fun r2 cs2 h2 h3 hc2 => ?_
            obtain ⟨z, e1, m1⟩ := op_get hO0 h2 h3
            simp [e1]
            have := hop z cs2 m1 hc2
            simpa [hd0] using this
          · simp [hO0, hr0, hd0, hr3]
            simpa [hd0] using hr
        · simp [hO0, hr0, hd0]
          simpa using hr
end Mn
/-! MnY: terms compared; what is known of open parts; slices of terms. -/
namespace Mn
open PySem L2
/-! ### terms compared -/
mutual
theorem eqv_tm_iff : ∀ t u : Tm, PyData.eqv t.d.py u.d.py = true ↔ t = u
  | .op a, .op b => by
    have := eqD_str a b
    unfold eqD at this
    simp only [Tm.d]
    rw [this]
    simp
  | .op a, .nd w ts => by simp [Tm.d, D.py, PyData.eqv]
  | .nd w ts, .op a => by simp [Tm.d, D.py, PyData.eqv]
  | .nd v ts, .nd w us => by
    have h := eqD_str v w
    unfold eqD at h
    simp only [Tm.d, D.py, D.pys, PyData.eqv, PyData.eqvAll, Bool.and_eq_true] at h ⊢
    rw [h, eqv_ts_iff ts us]
    simp
theorem eqv_ts_iff : ∀ ts us : List Tm, PyData.eqvAll (D.pys (dsT ts)) (D.pys (dsT us)) = true ↔ ts = us
  | [], [] => by simp [dsT, D.pys, PyData.eqvAll]
  | [], u :: us => by simp [dsT, D.pys, PyData.eqvAll]
  | t :: ts, [] => by simp [dsT, D.pys, PyData.eqvAll]
  | t :: ts, u :: us => by
    simp only [dsT, D.pys, PyData.eqvAll, Bool.and_eq_true]
    rw [eqv_tm_iff t u, eqv_ts_iff ts us]
    simp
end
instance : DecidableEq Tm := fun t u => decidable_of_iff _ (eqv_tm_iff t u)
theorem okD_tm {t : Tm} (ht : TmOk t) (hl : t.lev ≤ 60) : okD t.d = true := by
  obtain ⟨h1, h2⟩ := lay_tm t ht
  unfold okD SeqAt.shaped
  simp only [h1, Bool.true_and, decide_eq_true_eq]
  omega
theorem eq_tms {t u : Tm} (ht : TmOk t) (hl : t.lev ≤ 60) (hu : TmOk u) (hm : u.lev ≤ 60) : eqS (.d t.d) (.d u.d) = some (.d (.bl (decide (t = u)))) := by
  have e : eqN (.d t.d) (.d u.d) = none := by cases t <;> rfl
  simp only [eqS, e, Option.or, asD, Option.bind_some, okD_tm ht hl, okD_tm hu hm, and_self, if_true]
  congr 3
  rw [Bool.eq_iff_iff, decide_eq_true_eq]
  exact eqv_tm_iff t u
/-! ### what is known -/
def look : List (List Nat × Tm) → List Nat → Option Tm
  | [], _ => none
  | (a, u) :: r, s => if a = s then some u else look r s
theorem look_mem : ∀ {ps : List (List Nat × Tm)} {s : List Nat} {u : Tm}, look ps s = some u → (s, u) ∈ ps
  | (a, v) :: r, s, u, h => by
    unfold look at h
    split at h
    · rename_i e
      subst e
      cases h
      exact List.mem_cons_self
    · exact List.mem_cons_of_mem _ (look_mem h)
theorem look_none {ps : List (List Nat × Tm)} {s : List Nat} : look ps s = none ↔ s ∉ ps.map (·.1) := by
  induction ps with
  | nil => simp [look]
  | cons q r ih =>
    obtain ⟨a, u⟩ := q
    simp only [List.map_cons, List.mem_cons, not_or]
    by_cases h : a = s
    · simp [look, h]
    · rw [look, if_neg h, ih]
      exact ⟨fun z => ⟨fun e => h e.symm, z⟩, fun z => z.2⟩
theorem look_app {ps : List (List Nat × Tm)} {s : List Nat} {u : Tm} (h : s ∉ ps.map (·.1)) (x : List Nat) : look (ps ++ [(s, u)]) x = if s = x then some u else look ps x := by
  induction ps with
  | nil => simp [look]
  | cons q r ih =>
    obtain ⟨a, v⟩ := q
    simp only [List.map_cons, List.mem_cons, not_or] at h
    rw [List.cons_append, look, ih h.2, look]
    by_cases e : a = x
    · subst e
      simp [h.1]
    · simp [e]
def kvD (ps : List (List Nat × Tm)) : List (List Nat × D) := ps.map fun q => (q.1, q.2.d)
theorem key_look (ps : List (List Nat × Tm)) (s : List Nat) : keyOf (kvD ps) s = (look ps s).map Tm.d := by
  induction ps with
  | nil => rfl
  | cons q r ih =>
    obtain ⟨a, u⟩ := q
    show keyOf ((a, u.d) :: kvD r) s = _
    by_cases h : a = s
    · simp [keyOf, look, h]
    · simp [keyOf, look, h, ih]
theorem kv_keys (ps : List (List Nat × Tm)) : (kvD ps).map (·.1) = ps.map (·.1) := by
  unfold kvD
  rw [List.map_map]
  rfl
theorem put_new {ps : List (List Nat × Tm)} {s : List Nat} (h : s ∉ ps.map (·.1)) (u : Tm) : putKey (kvD ps) s u.d = kvD (ps ++ [(s, u)]) := by
  have hk : ((kvD ps).any fun p => decide (p.1 = s)) = false := by
    rw [List.any_eq_false]
    intro p hp
    simp only [decide_eq_true_eq]
    intro z
    refine h ?_
    rw [← kv_keys]
    exact List.mem_map.mpr ⟨p, hp, z⟩
  rw [putKey, if_neg (by rw [hk]; decide)]
  simp [kvD]
theorem put_same {ps : List (List Nat × Tm)} {s : List Nat} {u : Tm} (hn : (ps.map (·.1)).Nodup) (h : look ps s = some u) : putKey (kvD ps) s u.d = kvD ps := by
  have hk : ((kvD ps).any fun p => decide (p.1 = s)) = true := by
    rw [List.any_eq_true]
    exact ⟨(s, u.d), List.mem_map.mpr ⟨_, look_mem h, rfl⟩, by simp⟩
  rw [putKey, if_pos hk]
  induction ps with
  | nil => rfl
  | cons q r ih =>
    obtain ⟨a, v⟩ := q
    have hc : kvD ((a, v) :: r) = (a, v.d) :: kvD r := rfl
    rw [hc, List.map_cons]
    simp only [List.map_cons, List.nodup_cons] at hn
    by_cases e : a = s
    · subst e
      have : v = u := by simpa [look] using h
      subst this
      have : (kvD r).map (fun p => if p.1 = a then (p.1, v.d) else p) = kvD r := by
        have : ∀ p ∈ kvD r, (if p.1 = a then (p.1, v.d) else p) = p := fun p hp => by
          rw [if_neg]
          intro z
          refine hn.1 ?_
          rw [← kv_keys, ← z]
          exact List.mem_map.mpr ⟨p, hp, rfl⟩
        exact (List.map_congr_left this).trans (List.map_id _)
      simp [this]
    · have hl : look r s = some u := by simpa [look, e] using h
      have hk' : ((kvD r).any fun p => decide (p.1 = s)) = true := by
        rw [List.any_eq_true]
        exact ⟨(s, u.d), List.mem_map.mpr ⟨_, look_mem hl, rfl⟩, by simp⟩
      rw [ih hn.2 hl hk']
      simp [e]
/-! ### open parts put for terms -/
mutual
def sb (σ : List Nat → Tm) : Tm → Tm
  | .op s => σ s
  | .nd w ts => .nd w (sbs σ ts)
def sbs (σ : List Nat → Tm) : List Tm → List Tm
  | [] => []
  | t :: ts => sb σ t :: sbs σ ts
end
theorem sbs_map (σ : List Nat → Tm) : ∀ ts : List Tm, sbs σ ts = ts.map (sb σ)
  | [] => rfl
  | t :: ts => by simp [sbs, sbs_map σ ts]
mutual
theorem sb_ext {σ τ : List Nat → Tm} : ∀ t : Tm, (∀ x ∈ t.opens, σ x = τ x) → sb σ t = sb τ t
  | .op s, h => h s (by simp [Tm.opens])
  | .nd w ts, h => by rw [sb, sb, sbs_ext ts (by simpa [Tm.opens] using h)]
theorem sbs_ext {σ τ : List Nat → Tm} : ∀ ts : List Tm, (∀ x ∈ opensT ts, σ x = τ x) → sbs σ ts = sbs τ ts
  | [], _ => rfl
  | t :: ts, h => by
    simp only [opensT, List.mem_append] at h
    rw [sbs, sbs, sb_ext t (fun x hx => h x (.inl hx)), sbs_ext ts (fun x hx => h x (.inr hx))]
end
/-- a filling in line with what is known -/
def Fits (ps : List (List Nat × Tm)) (σ : List Nat → Tm) : Prop := ∀ s u, look ps s = some u → σ s = u
def fitOf (ps : List (List Nat × Tm)) (s : List Nat) : Tm := (look ps s).getD (.op s)
theorem fits_of (ps : List (List Nat × Tm)) : Fits ps (fitOf ps) := fun s u h => by simp [fitOf, h]
theorem fits_app {ps : List (List Nat × Tm)} {s : List Nat} {u : Tm} (h : s ∉ ps.map (·.1)) (σ : List Nat → Tm) : Fits (ps ++ [(s, u)]) σ ↔ Fits ps σ ∧ σ s = u := by
  constructor
  · intro z
    refine ⟨fun x v e => z x v ?_, z s u ?_⟩
    · rw [look_app h]
      have : s ≠ x := fun q => by
        subst q
        exact h (List.mem_map.mpr ⟨_, look_mem e, rfl⟩)
      rw [if_neg this, e]
    · rw [look_app h, if_pos rfl]
  · rintro ⟨z, e⟩ x v q
    rw [look_app h] at q
    split at q
    · rename_i q2
      subst q2
      cases q
      exact e
    · exact z x v q
/-! ### the pieces of a term -/
theorem cut_init {α : Type} (l : List α) : cut l none (some (-1)) = l.dropLast := by
  unfold cut sIx
  simp only [show ((-1 : Int) < 0) from by decide, if_true, List.drop_zero, Nat.sub_zero]
  rw [List.dropLast_eq_take]
  congr 1
  omega
theorem okTs_mem' {ts : List Tm} : okTs ts ↔ ∀ u ∈ ts, TmOk u := by
  induction ts with
  | nil => simp [okTs]
  | cons t ts ih => simp [okTs, ih]
theorem opensT_nil {ts : List Tm} : opensT ts = [] ↔ ∀ u ∈ ts, u.opens = [] := by
  induction ts with
  | nil => simp [opensT]
  | cons t ts ih => simp [opensT, ih]
theorem opensT_mem {ts : List Tm} {x : List Nat} : x ∈ opensT ts ↔ ∃ u ∈ ts, x ∈ u.opens := by
  induction ts with
  | nil => simp [opensT]
  | cons t ts ih => simp [opensT, ih]
theorem levT_le {ts : List Tm} {n : Nat} : levT ts ≤ n ↔ ∀ u ∈ ts, u.lev ≤ n := by
  induction ts with
  | nil => simp [levT]
  | cons t ts ih => simp [levT, ← ih]; omega
theorem dsT_len (ts : List Tm) : (dsT ts).length = ts.length := by rw [dsT_map, List.length_map]
end Mn
/-! MnUn: open parts put for terms, one after another. -/
namespace Mn
open PySem
mutual
theorem sb_comp (σ τ : List Nat → Tm) : ∀ t : Tm, sb σ (sb τ t) = sb (fun s => sb σ (τ s)) t
  | .op s => rfl
  | .nd w ts => by rw [sb, sb, sb, sbs_comp σ τ ts]
theorem sbs_comp (σ τ : List Nat → Tm) : ∀ ts : List Tm, sbs σ (sbs τ ts) = sbs (fun s => sb σ (τ s)) ts
  | [] => rfl
  | t :: ts => by rw [sbs, sbs, sbs, sb_comp σ τ t, sbs_comp σ τ ts]
end
mutual
theorem sb_same {σ : List Nat → Tm} : ∀ t : Tm, (∀ y ∈ t.opens, σ y = .op y) → sb σ t = t
  | .op s, h => h s (by simp [Tm.opens])
  | .nd w ts, h => by rw [sb, sbs_same ts (by simpa [Tm.opens] using h)]
theorem sbs_same {σ : List Nat → Tm} : ∀ ts : List Tm, (∀ y ∈ opensT ts, σ y = .op y) → sbs σ ts = ts
  | [], _ => rfl
  | t :: ts, h => by
    simp only [opensT, List.mem_append] at h
    rw [sbs, sb_same t fun y hy => h y (.inl hy), sbs_same ts fun y hy => h y (.inr hy)]
end
mutual
theorem sb_same_iff {σ : List Nat → Tm} : ∀ t : Tm, sb σ t = t → ∀ y ∈ t.opens, σ y = .op y
  | .op s, h, y, hy => by
    simp [Tm.opens] at hy
    rw [hy]; exact h
  | .nd w ts, h, y, hy => by
    rw [sb] at h
    injection h with _ h
    exact sbs_same_iff ts h y (by simpa [Tm.opens] using hy)
theorem sbs_same_iff {σ : List Nat → Tm} : ∀ ts : List Tm, sbs σ ts = ts → ∀ y ∈ opensT ts, σ y = .op y
  | [], _, y, hy => by simp [opensT] at hy
  | t :: ts, h, y, hy => by
    rw [sbs] at h
    injection h with h1 h2
    simp only [opensT, List.mem_append] at hy
    rcases hy with z | z
    · exact sb_same_iff t h1 y z
    · exact sbs_same_iff ts h2 y z
end
mutual
theorem sb_opens {σ : List Nat → Tm} {x : List Nat} : ∀ t : Tm, x ∈ (sb σ t).opens ↔ ∃ y ∈ t.opens, x ∈ (σ y).opens
  | .op s => by simp [sb, Tm.opens]
  | .nd w ts => by
    rw [sb, Tm.opens, Tm.opens]
    exact sbs_opens ts
theorem sbs_opens {σ : List Nat → Tm} {x : List Nat} : ∀ ts : List Tm, x ∈ opensT (sbs σ ts) ↔ ∃ y ∈ opensT ts, x ∈ (σ y).opens
  | [] => by simp [sbs, opensT]
  | t :: ts => by
    rw [sbs, opensT, opensT, List.mem_append, sb_opens t, sbs_opens ts]
    constructor
    · rintro (⟨y, h1, h2⟩ | ⟨y, h1, h2⟩)
      · exact ⟨y, List.mem_append_left _ h1, h2⟩
      · exact ⟨y, List.mem_append_right _ h1, h2⟩
    · rintro ⟨y, h1, h2⟩
      rcases List.mem_append.mp h1 with z | z
      · exact .inl ⟨y, z, h2⟩
      · exact .inr ⟨y, z, h2⟩
end
mutual
theorem sb_lev {σ : List Nat → Tm} {K : Nat} (hK : 1 ≤ K) : ∀ t : Tm, (∀ y ∈ t.opens, (σ y).lev ≤ K) → (sb σ t).lev + 1 ≤ t.lev + K
  | .op s, h => by
    have := h s (by simp [Tm.opens])
    simp only [sb, Tm.lev]; omega
  | .nd w ts, h => by
    have := sbs_lev hK ts (by simpa [Tm.opens] using h)
    simp only [sb, Tm.lev]; omega
theorem sbs_lev {σ : List Nat → Tm} {K : Nat} (hK : 1 ≤ K) : ∀ ts : List Tm, (∀ y ∈ opensT ts, (σ y).lev ≤ K) → levT (sbs σ ts) + 1 ≤ levT ts + K
  | [], _ => by simp [sbs, levT]; omega
  | t :: ts, h => by
    simp only [opensT, List.mem_append] at h
    have h1 := sb_lev hK t fun y hy => h y (.inl hy)
    have h2 := sbs_lev hK ts fun y hy => h y (.inr hy)
    simp only [sbs, levT]; omega
end
mutual
theorem sb_parts {σ : List Nat → Tm} {K : Nat} (hK : 1 ≤ K) : ∀ t : Tm, (∀ y ∈ t.opens, (σ y).parts ≤ K) → (sb σ t).parts ≤ t.parts * K
  | .op s, h => by
    have := h s (by simp [Tm.opens])
    simp only [sb, Tm.parts]; omega
  | .nd w ts, h => by
    have := sbs_parts hK ts (by simpa [Tm.opens] using h)
    simp only [sb, Tm.parts, Nat.add_mul]; omega
theorem sbs_parts {σ : List Nat → Tm} {K : Nat} (hK : 1 ≤ K) : ∀ ts : List Tm, (∀ y ∈ opensT ts, (σ y).parts ≤ K) → partsT (sbs σ ts) ≤ partsT ts * K
  | [], _ => by simp [sbs, partsT]
  | t :: ts, h => by
    simp only [opensT, List.mem_append] at h
    have h1 := sb_parts hK t fun y hy => h y (.inl hy)
    have h2 := sbs_parts hK ts fun y hy => h y (.inr hy)
    simp only [sbs, partsT, Nat.add_mul]; omega
end
mutual
theorem sb_okG {σ : List Nat → Tm} : ∀ t : Tm, TmOk t → (∀ y ∈ t.opens, TmOk (σ y)) → TmOk (sb σ t)
  | .op s, _, h => h s (by simp [Tm.opens])
  | .nd w ts, ht, h => by
    refine ⟨ht.1, ?_, sbs_okG ts ht.2.2 (by simpa [Tm.opens] using h)⟩
    rw [sbs_map, List.length_map]
    exact ht.2.1
theorem sbs_okG {σ : List Nat → Tm} : ∀ ts : List Tm, okTs ts → (∀ y ∈ opensT ts, TmOk (σ y)) → okTs (sbs σ ts)
  | [], _, _ => trivial
  | t :: ts, ht, h => by
    simp only [opensT, List.mem_append] at h
    exact ⟨sb_okG t ht.1 fun y hy => h y (.inl hy), sbs_okG ts ht.2 fun y hy => h y (.inr hy)⟩
end
mutual
theorem lev_sb_ge {σ : List Nat → Tm} : ∀ t : Tm, t.lev ≤ (sb σ t).lev
  | .op s => by simp only [sb, Tm.lev]; exact (σ s).lev_pos
  | .nd w ts => by
    have := levs_sb_ge (σ := σ) ts
    simp only [sb, Tm.lev]; omega
theorem levs_sb_ge {σ : List Nat → Tm} : ∀ ts : List Tm, levT ts ≤ levT (sbs σ ts)
  | [] => by simp [sbs]
  | t :: ts => by
    have h1 := lev_sb_ge (σ := σ) t
    have h2 := levs_sb_ge (σ := σ) ts
    simp only [sbs, levT]; omega
end
mutual
theorem parts_sb_ge {σ : List Nat → Tm} : ∀ t : Tm, t.parts ≤ (sb σ t).parts
  | .op s => by simp only [sb, Tm.parts]; exact (σ s).parts_pos
  | .nd w ts => by
    have := partss_sb_ge (σ := σ) ts
    simp only [sb, Tm.parts]; omega
theorem partss_sb_ge {σ : List Nat → Tm} : ∀ ts : List Tm, partsT ts ≤ partsT (sbs σ ts)
  | [] => by simp [sbs]
  | t :: ts => by
    have h1 := parts_sb_ge (σ := σ) t
    have h2 := partss_sb_ge (σ := σ) ts
    simp only [sbs, partsT]; omega
end
abbrev Kn := List (List Nat × Tm)
/-- in line with what is known -/
def Sat (ps : Kn) (θ : List Nat → Tm) : Prop := ∀ s u, look ps s = some u → θ s = sb θ u
def Rk (ps : Kn) (r : List Nat → Nat) : Prop := ∀ s u, look ps s = some u → ∀ y ∈ u.opens, r y < r s
def clo (ps : Kn) : Nat → List Nat → Tm
  | 0, s => .op s
  | n + 1, s => match look ps s with
    | none => .op s
    | some u => sb (clo ps n) u
theorem clo_eq {ps : Kn} {r : List Nat → Nat} (h : Rk ps r) : ∀ (n m : Nat) (s : List Nat), r s < n → r s < m → clo ps n s = clo ps m s
  | 0, m, s, h1, _ => by omega
  | n + 1, 0, s, _, h2 => by omega
  | n + 1, m + 1, s, h1, h2 => by
    unfold clo
    cases e : look ps s with
    | none => rfl
    | some u =>
      refine sb_ext u fun y hy => ?_
      have := h s u e y hy
      exact clo_eq h n m y (by omega) (by omega)
structure Tri (ps : Kn) (r : List Nat → Nat) (σ : List Nat → Tm) : Prop where
  rk : Rk ps r
  nn : ∀ s, look ps s = none → σ s = .op s
  ss : ∀ s u, look ps s = some u → σ s = sb σ u
theorem tri_of {ps : Kn} {r : List Nat → Nat} (h : Rk ps r) : Tri ps r fun s => clo ps (r s + 1) s where
  rk := h
  nn := fun s e => by unfold clo; rw [e]
  ss := fun s u e => by
    show clo ps (r s + 1) s = _
    unfold clo
    rw [e]
    refine sb_ext u fun y hy => ?_
    have := h s u e y hy
    exact clo_eq h _ _ y this (Nat.lt_succ_self _)
section
variable {ps : Kn} {r : List Nat → Nat} {σ : List Nat → Tm} (T : Tri ps r σ)
include T
theorem Tri.free : ∀ (n : Nat) (s : List Nat), r s < n → ∀ y ∈ (σ s).opens, look ps y = none
  | 0, s, h, _, _ => by omega
  | n + 1, s, h, y, hy => by
    cases e : look ps s with
    | none =>
      rw [T.nn s e] at hy
      simp [Tm.opens] at hy
      rw [hy]; exact e
    | some u =>
      rw [T.ss s u e, sb_opens] at hy
      obtain ⟨z, hz, hy⟩ := hy
      have := T.rk s u e z hz
      exact Tri.free n z (by omega) y hy
theorem Tri.fr {s y : List Nat} (h : y ∈ (σ s).opens) : look ps y = none := T.free _ s (Nat.lt_succ_self _) y h
theorem Tri.frt {t : Tm} {y : List Nat} (h : y ∈ (sb σ t).opens) : look ps y = none := by
  obtain ⟨z, _, h⟩ := (sb_opens t).mp h
  exact T.fr h
theorem Tri.idem (t : Tm) : sb σ (sb σ t) = sb σ t := sb_same _ fun y hy => T.nn y (T.frt hy)
theorem Tri.sat : Sat ps σ := T.ss
theorem Tri.via_ {θ : List Nat → Tm} (h : Sat ps θ) : ∀ (n : Nat) (s : List Nat), r s < n → θ s = sb θ (σ s)
  | 0, s, h1 => by omega
  | n + 1, s, h1 => by
    cases e : look ps s with
    | none => rw [T.nn s e]; rfl
    | some u =>
      rw [T.ss s u e, sb_comp, h s u e]
      refine sb_ext u fun y hy => ?_
      have := T.rk s u e y hy
      exact Tri.via_ h n y (by omega)
theorem Tri.via {θ : List Nat → Tm} (h : Sat ps θ) (t : Tm) : sb θ (sb σ t) = sb θ t := by
  rw [sb_comp]
  exact sb_ext t fun y _ => (T.via_ h _ y (Nat.lt_succ_self _)).symm
theorem Tri.back {θ : List Nat → Tm} (h : ∀ s, θ s = sb θ (σ s)) : Sat ps θ := fun s u e => by
  rw [h s, T.ss s u e, sb_comp]
  exact sb_ext u fun y _ => (h y).symm
/-- how many names stand at or below a name -/
def cntR (ps : Kn) (r : List Nat → Nat) (n : Nat) : Nat := (ps.filter fun q => decide (r q.1 ≤ n)).length
omit T in
theorem cntR_le (n : Nat) : cntR ps r n ≤ ps.length := List.length_filter_le _ _
omit T in
theorem cntR_lt {n m : Nat} {s : List Nat} {u : Tm} (h : look ps s = some u) (h1 : r s = m) (h2 : n < m) : cntR ps r n + 1 ≤ cntR ps r m := by
  have hm := look_mem h
  clear h
  unfold cntR
  induction ps with
  | nil => cases hm
  | cons q l ih =>
    have mono : ∀ l : Kn, (l.filter fun q => decide (r q.1 ≤ n)).length ≤ (l.filter fun q => decide (r q.1 ≤ m)).length := fun l => by
      induction l with
      | nil => simp
      | cons a b ih2 =>
        simp only [List.filter_cons]
        by_cases c : r a.1 ≤ n
        · have c2 : r a.1 ≤ m := by omega
          simp [c, c2, ih2]
        · by_cases c2 : r a.1 ≤ m
          · simp [c, c2]; omega
          · simp [c, c2, ih2]
    simp only [List.filter_cons]
    rcases List.mem_cons.mp hm with rfl | hm
    · have c1 : ¬ r s ≤ n := by omega
      have c2 : r s ≤ m := by omega
      have := mono l
      simp [c1, c2]; omega
    · have := ih hm
      by_cases c : r q.1 ≤ n
      · have c2 : r q.1 ≤ m := by omega
        simp [c, c2]; omega
      · by_cases c2 : r q.1 ≤ m
        · simp [c, c2]; omega
        · simp [c, c2]; omega
theorem Tri.lev_ {M : Nat} (hM : ∀ q ∈ ps, q.2.lev ≤ M + 1) : ∀ (n : Nat) (s : List Nat), r s < n → (σ s).lev ≤ 1 + M * cntR ps r (r s)
  | 0, s, h => by omega
  | n + 1, s, h => by
    cases e : look ps s with
    | none => rw [T.nn s e]; simp [Tm.lev]
    | some u =>
      have hu := hM _ (look_mem e)
      simp only at hu
      obtain ⟨c, hc⟩ : ∃ c, cntR ps r (r s) = c + 1 := by
        refine ⟨cntR ps r (r s) - 1, ?_⟩
        have : 1 ≤ cntR ps r (r s) := by
          unfold cntR
          have : (s, u) ∈ ps.filter fun q => decide (r q.1 ≤ r s) := List.mem_filter.mpr ⟨look_mem e, by simp⟩
          exact List.length_pos_iff.mpr fun z => by rw [z] at this; cases this
        omega
      have hy : ∀ y ∈ u.opens, (σ y).lev ≤ 1 + M * c := fun y hy => by
        have h1 := T.rk s u e y hy
        have h2 := Tri.lev_ hM n y (by omega)
        have h3 := cntR_lt (n := r y) e rfl h1
        have : M * cntR ps r (r y) ≤ M * c := Nat.mul_le_mul_left _ (by omega)
        omega
      have := sb_lev (K := 1 + M * c) (by omega) u hy
      rw [T.ss s u e, hc, Nat.mul_succ]
      omega
theorem Tri.parts_ {P : Nat} (hP0 : 1 ≤ P) (hP : ∀ q ∈ ps, q.2.parts ≤ P) : ∀ (n : Nat) (s : List Nat), r s < n → (σ s).parts ≤ P ^ cntR ps r (r s)
  | 0, s, h => by omega
  | n + 1, s, h => by
    cases e : look ps s with
    | none =>
      rw [T.nn s e]
      simp only [Tm.parts]
      exact Nat.one_le_pow _ _ hP0
    | some u =>
      have hu := hP _ (look_mem e)
      simp only at hu
      obtain ⟨c, hc⟩ : ∃ c, cntR ps r (r s) = c + 1 := by
        refine ⟨cntR ps r (r s) - 1, ?_⟩
        have : 1 ≤ cntR ps r (r s) := by
          unfold cntR
          have : (s, u) ∈ ps.filter fun q => decide (r q.1 ≤ r s) := List.mem_filter.mpr ⟨look_mem e, by simp⟩
          exact List.length_pos_iff.mpr fun z => by rw [z] at this; cases this
        omega
      have hy : ∀ y ∈ u.opens, (σ y).parts ≤ P ^ c := fun y hy => by
        have h1 := T.rk s u e y hy
        have h2 := Tri.parts_ hP0 hP n y (by omega)
        have h3 := cntR_lt (n := r y) e rfl h1
        exact Nat.le_trans h2 (Nat.pow_le_pow_right hP0 (by omega))
      have := sb_parts (K := P ^ c) (Nat.one_le_pow _ _ hP0) u hy
      rw [T.ss s u e, hc, Nat.pow_succ, Nat.mul_comm]
      exact Nat.le_trans this (Nat.mul_le_mul_right _ hu)
end
/-- one more known -/
theorem rk_add {ps : Kn} {r : List Nat → Nat} {σ : List Nat → Tm} (T : Tri ps r σ) {x : List Nat} {t : Tm} (hx : x ∉ ps.map (·.1)) (ht : x ∉ (sb σ t).opens) : ∃ r', Rk (ps ++ [(x, t)]) r' := by
  have hsum : ∀ (l : List (List Nat)) (y : List Nat), y ∈ l → r y ≤ (l.map r).sum := fun l => by
    induction l with
    | nil => intro y hy; cases hy
    | cons a b ih =>
      intro y hy
      simp only [List.map_cons, List.sum_cons]
      rcases List.mem_cons.mp hy with rfl | hy
      · omega
      · have := ih y hy; omega
  refine ⟨fun s => if x ∈ (σ s).opens then r s + (1 + (t.opens.map r).sum) else r s, fun s u e y hy => ?_⟩
  rw [look_app hx] at e
  split at e
  · rename_i hs
    subst hs
    cases e
    have hxn : look ps x = none := look_none.mpr hx
    have h1 : x ∈ (σ x).opens := by rw [T.nn x hxn]; simp [Tm.opens]
    have h2 : x ∉ (σ y).opens := fun z => ht ((sb_opens t).mpr ⟨y, hy, z⟩)
    have h3 := hsum t.opens y hy
    simp only [h1, h2, if_true, if_false]
    omega
  · have h1 := T.rk s u e y hy
    have h2 : x ∈ (σ y).opens → x ∈ (σ s).opens := fun z => by
      rw [T.ss s u e, sb_opens]
      exact ⟨y, hy, z⟩
    by_cases c : x ∈ (σ y).opens
    · simp only [c, h2 c, if_true]
      omega
    · simp only [c, if_false]
      split <;> omega
theorem sat_add {ps : Kn} {x : List Nat} {t : Tm} (hx : x ∉ ps.map (·.1)) (θ : List Nat → Tm) : Sat (ps ++ [(x, t)]) θ ↔ Sat ps θ ∧ θ x = sb θ t := by
  constructor
  · intro h
    refine ⟨fun s u e => h s u ?_, h x t ?_⟩
    · rw [look_app hx]
      have : x ≠ s := fun z => by
        subst z
        rw [look_none.mpr hx] at e
        cases e
      rw [if_neg this, e]
    · rw [look_app hx, if_pos rfl]
  · rintro ⟨h1, h2⟩ s u e
    rw [look_app hx] at e
    split at e
    · rename_i z
      subst z
      cases e
      exact h2
    · exact h1 s u e
theorem look_up {ps : Kn} {x s : List Nat} {t u : Tm} (hx : x ∉ ps.map (·.1)) (h : look ps s = some u) : look (ps ++ [(x, t)]) s = some u := by
  rw [look_app hx]
  have : x ≠ s := fun z => by
    subst z
    rw [look_none.mpr hx] at h
    cases h
  rw [if_neg this, h]
/-- more is known -/
def Ups (ps qs : Kn) : Prop := ∀ s u, look ps s = some u → look qs s = some u
theorem Ups.refl (ps : Kn) : Ups ps ps := fun _ _ h => h
theorem Ups.trans {ps qs rs : Kn} (a : Ups ps qs) (b : Ups qs rs) : Ups ps rs := fun s u h => b s u (a s u h)
theorem Ups.sat {ps qs : Kn} (a : Ups ps qs) {θ : List Nat → Tm} (h : Sat qs θ) : Sat ps θ := fun s u e => h s u (a s u e)
/-- under what more is known -/
theorem Ups.sb {ps qs : Kn} {r r' : List Nat → Nat} {σ τ : List Nat → Tm} (a : Ups ps qs) (T : Tri ps r σ) (T' : Tri qs r' τ) (t : Tm) : Mn.sb τ (Mn.sb σ t) = Mn.sb τ t := T.via (a.sat T'.sat) t
/-- terms of the two -/
structure Ind (O : List (List Nat)) (t : Tm) : Prop where
  ok : TmOk t
  lev : t.lev ≤ 5
  parts : t.parts ≤ 13
  opens : ∀ y ∈ t.opens, y ∈ O
theorem Ind.sub {O : List (List Nat)} {w : List Nat} {ts : List Tm} (h : Ind O (.nd w ts)) {u : Tm} (hu : u ∈ ts) : Ind O u := by
  have h1 := levT_mem hu
  have h2 := partsT_mem hu
  have h3 := h.lev
  have h4 := h.parts
  simp only [Tm.lev] at h3
  simp only [Tm.parts] at h4
  exact ⟨okTs_mem h.ok.2.2 hu, by omega, by omega, fun y hy => h.opens y (by simp only [Tm.opens]; exact opensT_mem.mpr ⟨u, hu, hy⟩)⟩
structure Knw (O N : List (List Nat)) (ps : Kn) (r : List Nat → Nat) (σ : List Nat → Tm) : Prop where
  nodup : (ps.map (·.1)).Nodup
  keys : ∀ q ∈ ps, q.1 ∈ O
  vals : ∀ q ∈ ps, Ind O q.2
  tri : Tri ps r σ
  sub : ∀ x ∈ O, x ∈ N
  few : N.length ≤ 6
  ops : ∀ x ∈ O, Op x
section
variable {O N : List (List Nat)} {ps : Kn} {r : List Nat → Nat} {σ : List Nat → Tm} (K : Knw O N ps r σ)
include K
theorem Knw.len : ps.length ≤ 6 := by
  have := nodup_le K.nodup (b := N) fun x hx => by
    obtain ⟨q, hq, rfl⟩ := List.mem_map.mp hx
    exact K.sub _ (K.keys q hq)
  rw [List.length_map] at this
  have := K.few
  omega
theorem Knw.lev (s : List Nat) : (σ s).lev ≤ 25 := by
  have h1 := K.tri.lev_ (M := 4) (fun q hq => (K.vals q hq).lev) _ s (Nat.lt_succ_self _)
  have h2 := cntR_le (ps := ps) (r := r) (r s)
  have h3 := K.len
  omega
theorem Knw.levt {t : Tm} (h : t.lev ≤ 5) : (sb σ t).lev ≤ 29 := by
  have := sb_lev (K := 25) (by omega) t fun y _ => K.lev y
  omega
theorem Knw.parts (s : List Nat) : (σ s).parts ≤ 4826809 := by
  have h1 := K.tri.parts_ (P := 13) (by omega) (fun q hq => (K.vals q hq).parts) _ s (Nat.lt_succ_self _)
  have h2 := cntR_le (ps := ps) (r := r) (r s)
  have h3 := K.len
  exact Nat.le_trans h1 (Nat.le_trans (Nat.pow_le_pow_right (by omega) (Nat.le_trans h2 h3)) (by decide))
theorem Knw.ok (n : Nat) : ∀ (s : List Nat), r s < n → s ∈ O → TmOk (σ s) ∧ ∀ y ∈ (σ s).opens, y ∈ O := by
  induction n with
  | zero => intro s h; omega
  | succ n ih =>
    intro s h hs
    cases e : look ps s with
    | none =>
      rw [K.tri.nn s e]
      exact ⟨K.ops s hs, fun y hy => by simp [Tm.opens] at hy; rw [hy]; exact hs⟩
    | some u =>
      have hu := K.vals _ (look_mem e)
      simp only at hu
      have hy : ∀ y ∈ u.opens, TmOk (σ y) ∧ ∀ z ∈ (σ y).opens, z ∈ O := fun y hy => by
        have := K.tri.rk s u e y hy
        exact ih y (by omega) (hu.opens y hy)
      rw [K.tri.ss s u e]
      refine ⟨sb_okG u hu.ok fun y h => (hy y h).1, fun z hz => ?_⟩
      obtain ⟨y, h1, h2⟩ := (sb_opens u).mp hz
      exact (hy y h1).2 z h2
theorem Knw.okt {t : Tm} (h : Ind O t) : TmOk (sb σ t) ∧ ∀ y ∈ (sb σ t).opens, y ∈ O := by
  have hy : ∀ y ∈ t.opens, TmOk (σ y) ∧ ∀ z ∈ (σ y).opens, z ∈ O := fun y hy => K.ok _ y (Nat.lt_succ_self _) (h.opens y hy)
  refine ⟨sb_okG t h.ok fun y h => (hy y h).1, fun z hz => ?_⟩
  obtain ⟨y, h1, h2⟩ := (sb_opens t).mp hz
  exact (hy y h1).2 z h2
theorem Knw.add {x : List Nat} {t : Tm} (hx : x ∉ ps.map (·.1)) (hxO : x ∈ O) (ht : Ind O t) (hn : x ∉ (sb σ t).opens) : ∃ r' σ', Knw O N (ps ++ [(x, t)]) r' σ' := by
  obtain ⟨r', hr⟩ := rk_add K.tri hx hn
  refine ⟨r', _, ?_, fun q hq => ?_, fun q hq => ?_, tri_of hr, K.sub, K.few, K.ops⟩
  · rw [List.map_append]
    refine List.nodup_append.mpr ⟨K.nodup, by simp, fun a ha b hb => ?_⟩
    simp at hb
    rw [hb]
    exact fun z => hx (z ▸ ha)
  · rcases List.mem_append.mp hq with z | z
    · exact K.keys q z
    · rw [List.mem_singleton.mp z]; exact hxO
  · rcases List.mem_append.mp hq with z | z
    · exact K.vals q z
    · rw [List.mem_singleton.mp z]; exact ht
end
end Mn
/-! MnUo: more on open parts put for terms. -/
namespace Mn
open PySem
mutual
theorem parts_in {θ : List Nat → Tm} {y : List Nat} : ∀ t : Tm, y ∈ t.opens → (θ y).parts ≤ (sb θ t).parts
  | .op s, h => by
    simp only [Tm.opens, List.mem_singleton] at h
    subst h
    exact Nat.le_refl _
  | .nd w ts, h => by
    have := partss_in (θ := θ) (y := y) ts (by simpa [Tm.opens] using h)
    simp only [sb, Tm.parts]; omega
theorem partss_in {θ : List Nat → Tm} {y : List Nat} : ∀ ts : List Tm, y ∈ opensT ts → (θ y).parts ≤ partsT (sbs θ ts)
  | [], h => by simp [opensT] at h
  | t :: ts, h => by
    simp only [opensT, List.mem_append] at h
    simp only [sbs, partsT]
    rcases h with h | h
    · have := parts_in (θ := θ) t h; omega
    · have := partss_in (θ := θ) ts h; omega
end
mutual
theorem opens_parts : ∀ t : Tm, t.opens.length ≤ t.parts
  | .op s => by simp [Tm.opens, Tm.parts]
  | .nd w ts => by
    have := openss_parts ts
    simp only [Tm.opens, Tm.parts]; omega
theorem openss_parts : ∀ ts : List Tm, (opensT ts).length ≤ partsT ts
  | [] => by simp [opensT]
  | t :: ts => by
    have h1 := opens_parts t
    have h2 := openss_parts ts
    simp only [opensT, partsT, List.length_append]; omega
end
theorem sb_op (θ : List Nat → Tm) (s : List Nat) : sb θ (.op s) = θ s := rfl
theorem sb_nd (θ : List Nat → Tm) (w : List Nat) (ts : List Tm) : sb θ (.nd w ts) = .nd w (ts.map (sb θ)) := by rw [sb, sbs_map]
/-- what stands: a word with its terms, or an open part of which nothing is known -/
def Std (ps : Kn) (t : Tm) : Prop := ∀ s, t = .op s → look ps s = none
section
variable {O N : List (List Nat)} {ps : Kn} {r : List Nat → Nat} {σ : List Nat → Tm} (K : Knw O N ps r σ)
include K
theorem Knw.std_ (n : Nat) : ∀ (s : List Nat), r s < n → s ∈ O → ∃ t, Ind O t ∧ Std ps t ∧ ∀ θ, Sat ps θ → sb θ t = θ s := by
  induction n with
  | zero => intro s h; omega
  | succ n ih =>
    intro s h hs
    cases e : look ps s with
    | none => exact ⟨.op s, ⟨K.ops s hs, by simp [Tm.lev], by simp [Tm.parts], fun y hy => by simp [Tm.opens] at hy; rw [hy]; exact hs⟩, fun z hz => by cases hz; exact e, fun θ _ => rfl⟩
    | some u =>
      have hu := K.vals _ (look_mem e)
      simp only at hu
      cases u with
      | op y =>
        have hy : y ∈ O := hu.opens y (by simp [Tm.opens])
        have := K.tri.rk s _ e y (by simp [Tm.opens])
        obtain ⟨t, h1, h2, h3⟩ := ih y (by omega) hy
        exact ⟨t, h1, h2, fun θ hθ => by rw [h3 θ hθ, hθ s _ e]; rfl⟩
      | nd w ts => exact ⟨_, hu, (fun _ z => nomatch z), fun θ hθ => (hθ s _ e).symm⟩
theorem Knw.std {t : Tm} (ht : Ind O t) : ∃ t', Ind O t' ∧ Std ps t' ∧ ∀ θ, Sat ps θ → sb θ t' = sb θ t := by
  cases t with
  | op s =>
    obtain ⟨t', h1, h2, h3⟩ := K.std_ _ s (Nat.lt_succ_self _) (ht.opens s (by simp [Tm.opens]))
    exact ⟨t', h1, h2, h3⟩
  | nd w ts => exact ⟨_, ht, (fun _ z => nomatch z), fun _ _ => rfl⟩
/-- nothing fits where an open part would stand within itself -/
theorem Knw.occurs {x : List Nat} {w : List Nat} {ts : List Tm} (h : x ∈ (sb σ (.nd w ts)).opens) {θ : List Nat → Tm} (hθ : Sat ps θ) : θ x ≠ sb θ (.nd w ts) := fun z => by
  have e := K.tri.via hθ (.nd w ts)
  rw [sb] at h e
  have h' : x ∈ opensT (sbs σ ts) := by simpa [Tm.opens] using h
  have h1 := partss_in (θ := θ) _ h'
  rw [sb] at e
  rw [← e] at z
  have h2 := congrArg Tm.parts z
  simp only [Tm.parts] at h2
  omega
/-- few open parts are left -/
theorem Knw.few_opens {t : Tm} (ht : Ind O t) : (sb σ t).opens.length ≤ 4826809 := by
  by_cases h0 : (sb σ t).opens = []
  · rw [h0]; simp
  · obtain ⟨y, hy⟩ := List.exists_mem_of_ne_nil _ h0
    have hyO := (K.okt ht).2 y hy
    have hyn := K.tri.frt hy
    have h5 : ps.length ≤ 5 := by
      have h1 : (y :: ps.map (·.1)).Nodup := List.nodup_cons.mpr ⟨look_none.mp hyn, K.nodup⟩
      have := nodup_le h1 (b := N) fun x hx => by
        rcases List.mem_cons.mp hx with rfl | hx
        · exact K.sub _ hyO
        · obtain ⟨q, hq, rfl⟩ := List.mem_map.mp hx
          exact K.sub _ (K.keys q hq)
      simp only [List.length_cons, List.length_map] at this
      have := K.few
      omega
    have hp : ∀ s, (σ s).parts ≤ 371293 := fun s => by
      have h1 := K.tri.parts_ (P := 13) (by omega) (fun q hq => (K.vals q hq).parts) _ s (Nat.lt_succ_self _)
      have h2 := cntR_le (ps := ps) (r := r) (r s)
      exact Nat.le_trans h1 (Nat.le_trans (Nat.pow_le_pow_right (by omega) (Nat.le_trans h2 h5)) (by decide))
    have h1 := sb_parts (K := 371293) (by omega) t fun y _ => hp y
    have h2 := opens_parts (sb σ t)
    have h3 := Nat.mul_le_mul_right 371293 ht.parts
    omega
theorem Knw.levI {t : Tm} (h : Ind O t) : (sb σ t).lev ≤ 29 := K.levt h.lev
theorem Knw.partsI {t : Tm} (h : Ind O t) : (sb σ t).parts ≤ 62748517 := by
  have h1 := sb_parts (K := 4826809) (by omega) t fun y _ => K.parts y
  have h3 := Nat.mul_le_mul_right 4826809 h.parts
  omega
end
theorem knw_nil {O N : List (List Nat)} (sub : ∀ x ∈ O, x ∈ N) (few : N.length ≤ 6) (ops : ∀ x ∈ O, Op x) : Knw O N [] (fun _ => 0) Tm.op where
  nodup := by simp
  keys := fun _ h => nomatch h
  vals := fun _ h => nomatch h
  tri := ⟨(fun _ _ h => nomatch h), (fun _ _ => rfl), (fun _ _ h => nomatch h)⟩
  sub := sub
  few := few
  ops := ops
theorem sat_nil (θ : List Nat → Tm) : Sat [] θ := fun _ _ h => nomatch h
/-- what can be the same -/
structure Jn (O N : List (List Nat)) (ps : Kn) (a b : Tm) (bb : Bool) (qs : Kn) : Prop where
  yes : bb = true → (∃ r σ, Knw O N qs r σ) ∧ Ups ps qs ∧ ∀ θ, Sat qs θ ↔ Sat ps θ ∧ sb θ a = sb θ b
  no : bb = false → ∀ θ, Sat ps θ → sb θ a ≠ sb θ b
theorem two_take {σ : List Nat → Tm} {ts us : List Tm} {i : Nat} {t u : Tm} (ht : ts[i]? = some t) (hu : us[i]? = some u) : (ts.take (i + 1)).map (sb σ) = (us.take (i + 1)).map (sb σ) ↔ (ts.take i).map (sb σ) = (us.take i).map (sb σ) ∧ sb σ t = sb σ u := by
  have a1 := (List.getElem?_eq_some_iff.mp ht).1
  have a2 := (List.getElem?_eq_some_iff.mp hu).1
  rw [List.take_succ, List.take_succ, ht, hu, List.map_append, List.map_append]
  constructor
  · intro h
    have := List.append_inj h (by simp; omega)
    simpa using this
  · rintro ⟨h1, h2⟩
    rw [h1]
    simp [h2]
theorem in_kv (ps : Kn) (s : List Nat) : inS (.d (.str s)) (.dc (kvD ps)) = some (.d (.bl (look ps s).isSome)) := by
  show some (Va.d (.bl (keyOf (kvD ps) s).isSome)) = _
  rw [key_look]
  cases look ps s <;> rfl
theorem item_kvS {ps : Kn} {s : List Nat} {u : Tm} (h : look ps s = some u) : itemS (.dc (kvD ps)) (.d (.str s)) = some (.d u.d) := by
  show (keyOf (kvD ps) s).map Va.d = _
  rw [key_look, h]
  rfl
theorem zip_tmsU : ∀ (ts us : List Tm), zipD (dsT ts) (dsT us) = (ts.zip us).map fun p => D.tup [p.1.d, p.2.d]
  | [], _ => rfl
  | t :: ts, [] => rfl
  | t :: ts, u :: us => by simp [dsT, zipD, zip_tmsU ts us]
theorem sorted_kvU {ps : Kn} (h : ps.length ≤ 12) : sortedS (.dc (kvD ps)) = some (.ls ((sortT (ps.map (·.1))).map .str)) := by
  show (if (kvD ps).length < 64 then some (Va.ls ((sortT ((kvD ps).map (·.1))).map D.str)) else none) = _
  rw [if_pos (by simp [kvD]; omega), kv_keys]
theorem tnS_op (s : List Nat) : tnS .str (Tm.op s).d = true := rfl
theorem tnS_nd (w : List Nat) (ts : List Tm) : tnS .str (Tm.nd w ts).d = false := rfl
end Mn
/-! MnTl: terms drawn, their parts told by what is left. -/
namespace Mn
open PySem L2
def termEnvL (W O : List (List Nat)) (dp : Nat) (cs : List Int) (s n l : Int) (r : Int) (x y z : Option Va) : Mn.Env :=
  [some (.dk cs s n), some (.ls (W.map D.str)), some (.ls (O.map D.str)), some (.d (.int dp)), some (.ls [.int l]), some (.d (.int r)), x, y, z]
def TermPL (W O : List (List Nat)) (dp : Nat) (lr s : Int) (r : Int) (w : List Nat) (y : Option Va) (i : Nat) (env : Mn.Env) : Prop :=
  ∃ cs n l z ts, env = termEnvL W O dp cs s n l r (some (.d (.tup (.str w :: dsT ts)))) y z ∧ cs.length ≤ 63 ∧ okTs ts ∧ levT ts ≤ dp ∧ partsT ts ≤ i * 7 ^ dp ∧ ts.length ≤ i ∧ l = lr - partsT ts ∧ 0 ≤ l ∧ ∀ x ∈ opensT ts, x ∈ O
theorem term_restL {T : Tab} {tk : Nat} {xt : Str} (hT : T.fns[tk]? = some (xt, .prim 2 takeA)) {me : Nat} {k : Nat} {W O : List (List Nat)} {dp : Nat} {s : Int} (hk : dp + 9 ≤ k) (hW : ∀ x ∈ W, Wo x) (hW1 : 1 ≤ W.length) (hW2 : W.length ≤ 1000)
    (ih : ∀ {cs : List Int} {n l : Int} {Q : Va → List Va → Prop}, 0 < dp → 1 ≤ l → cs.length ≤ 63 → (∀ t cs' n' l', Drawn O dp (7 ^ dp) t → l' = l - t.parts → 0 ≤ l' → cs'.length ≤ 63 → Q (.d t.d) [.dk cs' s n', .ls (W.map D.str), .ls (O.map D.str), .d (.int (dp - 1 : Int)), .ls [.int l']]) →
      wp (Mn.call T k me [.dk cs s n, .ls (W.map D.str), .ls (O.map D.str), .d (.int (dp - 1 : Int)), .ls [.int l]]) Q)
    {cs : List Int} {n l r : Int} {Q : Va → List Va → Prop} {ws : List Va} (hws : ∃ cs0 n0 l0, ws = [.dk cs0 s n0, .ls (W.map D.str), .ls (O.map D.str), .d (.int dp), .ls [.int l0]]) (hc : cs.length ≤ 63) (hl : 0 ≤ l)
    (q : ∀ t cs' n' l', Drawn O (dp + 1) (7 ^ (dp + 1)) t → l' = l + 1 - t.parts → 0 ≤ l' → cs'.length ≤ 63 → Q (.d t.d) [.dk cs' s n', .ls (W.map D.str), .ls (O.map D.str), .d (.int dp), .ls [.int l']]) :
    wp (exB (Mn.call T k) T.con (termRest tk me) (termEnvL W O dp cs s n l r none none none)) fun a b => wp (retF [0, 1, 2, 3, 4] ws a b) Q := by
  obtain ⟨cs0, n0, l0, rfl⟩ := hws
  simp [termRest, termEnvL]
  refine take_wp hT (by omega) (by omega) (by omega) hc fun r1 cs1 h0 h1 hc1 => ?_
  obtain ⟨w, e1, m1⟩ := atI_lt (xs := W) h0 h1
  have e1' : Mn.atI (W.map D.str) r1 = some (.str w) := by
    unfold Mn.atI at e1 ⊢
    rw [List.length_map]
    simp only [Option.bind_eq_some_iff] at e1 ⊢
    obtain ⟨j, a1, a2⟩ := e1
    exact ⟨j, a1, by rw [List.getElem?_map, a2]; rfl⟩
  simp [e1', sz]
  refine take_wp hT (by omega) (by decide) (by decide) hc1 fun r2 cs2 h2 h3 hc2 => ?_
  simp
  refine take_wp hT (by omega) (by decide) (by decide) hc2 fun r3 cs3 h4 h5 hc3 => ?_
  simp
  refine take_wp hT (by omega) (by decide) (by decide) hc3 fun r4 cs4 h6 h7 hc4 => ?_
  simp
  obtain ⟨v, hv, v0, v6⟩ : ∃ v, Mn.atI [D.int r2, D.int r3] (if r4 = 5 then 1 else 0) = some (.int v) ∧ 0 ≤ v ∧ v ≤ 6 := by
    by_cases h : r4 = 5
    · exact ⟨r3, by simp [h, Mn.atI, Mn.ixN], h4, by omega⟩
    · exact ⟨r2, by simp [h, Mn.atI, Mn.ixN], h2, by omega⟩
  rw [hv]
  simp
  obtain ⟨u, hu, u0, u6, ud⟩ : ∃ u, mulS (.d (.int v)) (.d (.int (if 0 < dp then 1 else 0))) = some (.d (.int u)) ∧ 0 ≤ u ∧ u ≤ 6 ∧ (0 < u → 0 < dp) := by
    by_cases h : 0 < dp
    · exact ⟨v, by simp [h, mul_ii], v0, v6, fun _ => h⟩
    · exact ⟨0, by simp [h, mul_ii], by omega, by omega, fun z => by omega⟩
  rw [hu]
  simp [show -4611686018427387904 ≤ u by omega, show u < 4611686018427387904 by omega]
  refine forL_wp (TermPL W O dp l s r w (some (.d (.int v)))) ?_ ⟨cs4, _, l, none, [], rfl, hc4, trivial, by simp [levT], by simp [partsT], by simp, by simp [partsT], hl, fun _ h => nomatch h⟩ ?_
  · rintro i x env hx ⟨cs', n', l', z, ts, rfl, hc', hok, hlv, hpt, hln, hll, hl0', hop⟩
    obtain ⟨rfl, hi⟩ := rangeL_get hx
    have hdp : 0 < dp := ud (by omega)
    have hpow : (i + 1) * 7 ^ dp = i * 7 ^ dp + 7 ^ dp := by rw [Nat.succ_mul]
    simp [forS, termEnvL, Mn.atI, Mn.ixN]
    by_cases hl0 : 0 < l'
    · simp [hl0]
      refine ih hdp (by omega) hc' fun t cs1 n1 l1 ht hle hle0 hc1 => ?_
      have hz : (D.str w :: dsT ts).length + [t.d].length ≤ szL := by
        rw [sz, List.length_cons, dsT_map, List.length_map]
        simp
        omega
      simp [sz]
      rw [add_t hz]
      simp
      refine ⟨cs1, n1, l1, some (.d (.int i)), ts ++ [t], by simp [termEnvL, dsT_app, dsT], hc1, okTs_app.mpr ⟨hok, ht.ok, trivial⟩, ?_, ?_, by simp; omega, by rw [partsT_app]; simp [partsT]; omega, hle0, fun y hy => ?_⟩
      · rw [levT_app]
        have := ht.lev
        simp only [levT]
        omega
      · rw [partsT_app]
        have := ht.parts
        simp only [partsT]
        rw [hpow]
        omega
      · rw [opensT_app] at hy
        rcases List.mem_append.mp hy with h | h
        · exact hop y h
        · simp [opensT] at h
          exact ht.opens y h
    · simp [hl0]
      exact ⟨cs', n', l', _, ts, rfl, hc', hok, hlv, Nat.le_trans hpt (Nat.mul_le_mul_right _ (Nat.le_succ i)), by omega, hll, hl0', hop⟩
  · rintro env ⟨cs', n', l', z, ts, rfl, hc', hok, hlv, hpt, hln, hll, hl0', hop⟩
    rw [rangeL_len] at hpt hln
    simp [termEnvL]
    have hq := q (.nd w ts) cs' n' l' ⟨⟨hW w m1, by omega, hok⟩, by simp only [Tm.lev]; omega, ?_, hop⟩ (by simp only [Tm.parts]; omega) hl0' hc'
    · simpa [Tm.d] using hq
    · have h6 : u.toNat * 7 ^ dp ≤ 6 * 7 ^ dp := Nat.mul_le_mul_right _ (by omega)
      have h7 : 7 ^ (dp + 1) = 7 * 7 ^ dp := by rw [Nat.pow_succ, Nat.mul_comm]
      have h1' : 1 ≤ 7 ^ dp := Nat.one_le_pow _ _ (by decide)
      simp only [Tm.parts]
      omega
theorem term_wpL {T : Tab} {tk : Nat} {xt : Str} (hT : T.fns[tk]? = some (xt, .prim 2 takeA)) {me : Nat} {xf : Str} (hF : T.fns[me]? = some (xf, .code ⟨5, 9, [0, 1, 2, 3, 4], cTerm tk me⟩)) : ∀ (dp k : Nat), dp + 9 ≤ k → ∀ {W O : List (List Nat)} {cs : List Int} {s n l : Int} {Q : Va → List Va → Prop}, (∀ x ∈ W, Wo x) → 1 ≤ W.length → W.length ≤ 1000 → (∀ x ∈ O, Op x) → O.length ≤ 12 → cs.length ≤ 63 → 1 ≤ l →
    (∀ t cs' n' l', Drawn O (dp + 1) (7 ^ (dp + 1)) t → l' = l - t.parts → 0 ≤ l' → cs'.length ≤ 63 → Q (.d t.d) [.dk cs' s n', .ls (W.map D.str), .ls (O.map D.str), .d (.int dp), .ls [.int l']]) →
    wp (Mn.call T (k + 1) me [.dk cs s n, .ls (W.map D.str), .ls (O.map D.str), .d (.int dp), .ls [.int l]]) Q := by
  intro dp
  induction dp using Nat.strongRecOn with
  | _ dp IH =>
    intro k hk W O cs s n l Q hW hW1 hW2 hO hO2 hc hl1 q
    have hrest : ∀ {cs1 : List Int} {n' r : Int}, cs1.length ≤ 63 → wp (exB (Mn.call T k) T.con (termRest tk me) (termEnvL W O dp cs1 s n' (l - 1) r none none none)) fun a b => wp (retF [0, 1, 2, 3, 4] [.dk cs s n, .ls (W.map D.str), .ls (O.map D.str), .d (.int dp), .ls [.int l]] a b) Q := by
      intro cs1 n' r hc1
      refine term_restL hT hk hW hW1 hW2 (fun {cs2 n2 l2 Q2} hdp hl2 hc2 q2 => ?_) ⟨cs, n, l, rfl⟩ hc1 (by omega) (fun t cs' n' l' ht e e0 hc' => q t cs' n' l' ht (by omega) e0 hc')
      obtain ⟨dq, rfl⟩ : ∃ dq, dp = dq + 1 := ⟨dp - 1, by omega⟩
      obtain ⟨kq, rfl⟩ : ∃ kq, k = kq + 1 := ⟨k - 1, by omega⟩
      have e : ((dq + 1 : Nat) : Int) - 1 = (dq : Int) := by omega
      rw [e]
      refine IH dq (by omega) kq (by omega) hW hW1 hW2 hO hO2 hc2 hl2 fun t cs' n' l' ht he he0 hc' => ?_
      have := q2 t cs' n' l' ht he he0 hc'
      rwa [e] at this
    rw [call_run hF rfl]
    simp [cTerm, Mn.atI, Mn.ixN]
    refine take_wp hT (by omega) (by decide) (by decide) hc fun r cs1 h0 h1 hc1 => ?_
    have op_get : O ≠ [] → ∀ {r2 : Int}, 0 ≤ r2 → r2 < O.length → ∃ z, Mn.atI (O.map D.str) r2 = some (.str z) ∧ z ∈ O := fun hne r2 a b => by
      obtain ⟨z, e1, m1⟩ := atI_lt (xs := O) a b
      refine ⟨z, ?_, m1⟩
      unfold Mn.atI at e1 ⊢
      rw [List.length_map]
      simp only [Option.bind_eq_some_iff] at e1 ⊢
      obtain ⟨j, a1, a2⟩ := e1
      exact ⟨j, a1, by rw [List.getElem?_map, a2]; rfl⟩
    have hr := hrest (cs1 := cs1) (n' := n + 1) (r := r) hc1
    have h7 : 1 ≤ 7 ^ (dp + 1) := Nat.one_le_pow _ _ (by decide)
    simp [termRest, termEnvL] at hr
    have hop : ∀ (z : List Nat) cs2 , z ∈ O → cs2.length ≤ 63 → Q (.d (.str z)) [.dk cs2 s (n + 1 + 1), .ls (W.map D.str), .ls (O.map D.str), .d (.int dp), .ls [.int (l - 1)]] := fun z cs2 hz hc2 => by
      have := q (.op z) cs2 (n + 1 + 1) (l - 1) ⟨hO z hz, by simp [Tm.lev], by simpa [Tm.parts] using h7, by simpa [Tm.opens] using hz⟩ (by simp [Tm.parts]) (by omega) hc2
      simpa [Tm.d] using this
    simp [ne_nil_strs O]
    by_cases hO0 : O = []
    · simp only [hO0, if_true]
      simp
      simpa [hO0] using hr
    · have hOl : 0 < O.length := List.length_pos_iff.mpr hO0
      by_cases hr0 : r = 0
      · simp [hO0, hr0]
        refine take_wp hT (by omega) (by omega) (by omega) hc1 fun r2 cs2 h2 h3 hc2 => ?_
        obtain ⟨z, e1, m1⟩ := op_get hO0 h2 h3
        simp [e1]
        exact hop z cs2 m1 hc2
      · by_cases hd0 : dp = 0
        · by_cases hr3 : r < 3
          · simp [hO0, hr0, hd0, hr3]
            refine take_wp hT (by omega) (by omega) (by omega) hc1 fun r2 cs2 h2 h3 hc2 => ?_
            obtain ⟨z, e1, m1⟩ := op_get hO0 h2 h3
            simp [e1]
            have := hop z cs2 m1 hc2
            simpa [hd0] using this
          · simp [hO0, hr0, hd0, hr3]
            simpa [hd0] using hr
        · simp [hO0, hr0, hd0]
          simpa using hr
def termEnvFL (W O : List (List Nat)) (dp : Nat) (cs : List Int) (s n l : Int) (r : Int) (x y z : Option Va) : Mn.Env :=
  [some (.dk cs s n), some (.ls (W.map D.str)), some (.d (.lst (O.map D.str))), some (.d (.int dp)), some (.ls [.int l]), some (.d (.int r)), x, y, z]
def TermPFL (W O : List (List Nat)) (dp : Nat) (lr s : Int) (r : Int) (w : List Nat) (y : Option Va) (i : Nat) (env : Mn.Env) : Prop :=
  ∃ cs n l z ts, env = termEnvFL W O dp cs s n l r (some (.d (.tup (.str w :: dsT ts)))) y z ∧ cs.length ≤ 63 ∧ okTs ts ∧ levT ts ≤ dp ∧ partsT ts ≤ i * 7 ^ dp ∧ ts.length ≤ i ∧ l = lr - partsT ts ∧ 0 ≤ l ∧ ∀ x ∈ opensT ts, x ∈ O
theorem term_restFL {T : Tab} {tk : Nat} {xt : Str} (hT : T.fns[tk]? = some (xt, .prim 2 takeA)) {me : Nat} {k : Nat} {W O : List (List Nat)} {dp : Nat} {s : Int} (hk : dp + 9 ≤ k) (hW : ∀ x ∈ W, Wo x) (hW1 : 1 ≤ W.length) (hW2 : W.length ≤ 1000)
    (ih : ∀ {cs : List Int} {n l : Int} {Q : Va → List Va → Prop}, 0 < dp → 1 ≤ l → cs.length ≤ 63 → (∀ t cs' n' l', Drawn O dp (7 ^ dp) t → l' = l - t.parts → 0 ≤ l' → cs'.length ≤ 63 → Q (.d t.d) [.dk cs' s n', .ls (W.map D.str), .d (.lst (O.map D.str)), .d (.int (dp - 1 : Int)), .ls [.int l']]) →
      wp (Mn.call T k me [.dk cs s n, .ls (W.map D.str), .d (.lst (O.map D.str)), .d (.int (dp - 1 : Int)), .ls [.int l]]) Q)
    {cs : List Int} {n l r : Int} {Q : Va → List Va → Prop} {ws : List Va} (hws : ∃ cs0 n0 l0, ws = [.dk cs0 s n0, .ls (W.map D.str), .d (.lst (O.map D.str)), .d (.int dp), .ls [.int l0]]) (hc : cs.length ≤ 63) (hl : 0 ≤ l)
    (q : ∀ t cs' n' l', Drawn O (dp + 1) (7 ^ (dp + 1)) t → l' = l + 1 - t.parts → 0 ≤ l' → cs'.length ≤ 63 → Q (.d t.d) [.dk cs' s n', .ls (W.map D.str), .d (.lst (O.map D.str)), .d (.int dp), .ls [.int l']]) :
    wp (exB (Mn.call T k) T.con (termRest tk me) (termEnvFL W O dp cs s n l r none none none)) fun a b => wp (retF [0, 1, 2, 3, 4] ws a b) Q := by
  obtain ⟨cs0, n0, l0, rfl⟩ := hws
  simp [termRest, termEnvFL]
  refine take_wp hT (by omega) (by omega) (by omega) hc fun r1 cs1 h0 h1 hc1 => ?_
  obtain ⟨w, e1, m1⟩ := atI_lt (xs := W) h0 h1
  have e1' : Mn.atI (W.map D.str) r1 = some (.str w) := by
    unfold Mn.atI at e1 ⊢
    rw [List.length_map]
    simp only [Option.bind_eq_some_iff] at e1 ⊢
    obtain ⟨j, a1, a2⟩ := e1
    exact ⟨j, a1, by rw [List.getElem?_map, a2]; rfl⟩
  simp [e1', sz]
  refine take_wp hT (by omega) (by decide) (by decide) hc1 fun r2 cs2 h2 h3 hc2 => ?_
  simp
  refine take_wp hT (by omega) (by decide) (by decide) hc2 fun r3 cs3 h4 h5 hc3 => ?_
  simp
  refine take_wp hT (by omega) (by decide) (by decide) hc3 fun r4 cs4 h6 h7 hc4 => ?_
  simp
  obtain ⟨v, hv, v0, v6⟩ : ∃ v, Mn.atI [D.int r2, D.int r3] (if r4 = 5 then 1 else 0) = some (.int v) ∧ 0 ≤ v ∧ v ≤ 6 := by
    by_cases h : r4 = 5
    · exact ⟨r3, by simp [h, Mn.atI, Mn.ixN], h4, by omega⟩
    · exact ⟨r2, by simp [h, Mn.atI, Mn.ixN], h2, by omega⟩
  rw [hv]
  simp
  obtain ⟨u, hu, u0, u6, ud⟩ : ∃ u, mulS (.d (.int v)) (.d (.int (if 0 < dp then 1 else 0))) = some (.d (.int u)) ∧ 0 ≤ u ∧ u ≤ 6 ∧ (0 < u → 0 < dp) := by
    by_cases h : 0 < dp
    · exact ⟨v, by simp [h, mul_ii], v0, v6, fun _ => h⟩
    · exact ⟨0, by simp [h, mul_ii], by omega, by omega, fun z => by omega⟩
  rw [hu]
  simp [show -4611686018427387904 ≤ u by omega, show u < 4611686018427387904 by omega]
  refine forL_wp (TermPFL W O dp l s r w (some (.d (.int v)))) ?_ ⟨cs4, _, l, none, [], rfl, hc4, trivial, by simp [levT], by simp [partsT], by simp, by simp [partsT], hl, fun _ h => nomatch h⟩ ?_
  · rintro i x env hx ⟨cs', n', l', z, ts, rfl, hc', hok, hlv, hpt, hln, hll, hl0', hop⟩
    obtain ⟨rfl, hi⟩ := rangeL_get hx
    have hdp : 0 < dp := ud (by omega)
    have hpow : (i + 1) * 7 ^ dp = i * 7 ^ dp + 7 ^ dp := by rw [Nat.succ_mul]
    simp [forS, termEnvFL, Mn.atI, Mn.ixN]
    by_cases hl0 : 0 < l'
    · simp [hl0]
      refine ih hdp (by omega) hc' fun t cs1 n1 l1 ht hle hle0 hc1 => ?_
      have hz : (D.str w :: dsT ts).length + [t.d].length ≤ szL := by
        rw [sz, List.length_cons, dsT_map, List.length_map]
        simp
        omega
      simp [sz]
      rw [add_t hz]
      simp
      refine ⟨cs1, n1, l1, some (.d (.int i)), ts ++ [t], by simp [termEnvFL, dsT_app, dsT], hc1, okTs_app.mpr ⟨hok, ht.ok, trivial⟩, ?_, ?_, by simp; omega, by rw [partsT_app]; simp [partsT]; omega, hle0, fun y hy => ?_⟩
      · rw [levT_app]
        have := ht.lev
        simp only [levT]
        omega
      · rw [partsT_app]
        have := ht.parts
        simp only [partsT]
        rw [hpow]
        omega
      · rw [opensT_app] at hy
        rcases List.mem_append.mp hy with h | h
        · exact hop y h
        · simp [opensT] at h
          exact ht.opens y h
    · simp [hl0]
      exact ⟨cs', n', l', _, ts, rfl, hc', hok, hlv, Nat.le_trans hpt (Nat.mul_le_mul_right _ (Nat.le_succ i)), by omega, hll, hl0', hop⟩
  · rintro env ⟨cs', n', l', z, ts, rfl, hc', hok, hlv, hpt, hln, hll, hl0', hop⟩
    rw [rangeL_len] at hpt hln
    simp [termEnvFL]
    have hq := q (.nd w ts) cs' n' l' ⟨⟨hW w m1, by omega, hok⟩, by simp only [Tm.lev]; omega, ?_, hop⟩ (by simp only [Tm.parts]; omega) hl0' hc'
    · simpa [Tm.d] using hq
    · have h6 : u.toNat * 7 ^ dp ≤ 6 * 7 ^ dp := Nat.mul_le_mul_right _ (by omega)
      have h7 : 7 ^ (dp + 1) = 7 * 7 ^ dp := by rw [Nat.pow_succ, Nat.mul_comm]
      have h1' : 1 ≤ 7 ^ dp := Nat.one_le_pow _ _ (by decide)
      simp only [Tm.parts]
      omega
theorem term_wpFL {T : Tab} {tk : Nat} {xt : Str} (hT : T.fns[tk]? = some (xt, .prim 2 takeA)) {me : Nat} {xf : Str} (hF : T.fns[me]? = some (xf, .code ⟨5, 9, [0, 1, 2, 3, 4], cTerm tk me⟩)) : ∀ (dp k : Nat), dp + 9 ≤ k → ∀ {W O : List (List Nat)} {cs : List Int} {s n l : Int} {Q : Va → List Va → Prop}, (∀ x ∈ W, Wo x) → 1 ≤ W.length → W.length ≤ 1000 → (∀ x ∈ O, Op x) → O.length ≤ 12 → cs.length ≤ 63 → 1 ≤ l →
    (∀ t cs' n' l', Drawn O (dp + 1) (7 ^ (dp + 1)) t → l' = l - t.parts → 0 ≤ l' → cs'.length ≤ 63 → Q (.d t.d) [.dk cs' s n', .ls (W.map D.str), .d (.lst (O.map D.str)), .d (.int dp), .ls [.int l']]) →
    wp (Mn.call T (k + 1) me [.dk cs s n, .ls (W.map D.str), .d (.lst (O.map D.str)), .d (.int dp), .ls [.int l]]) Q := by
  intro dp
  induction dp using Nat.strongRecOn with
  | _ dp IH =>
    intro k hk W O cs s n l Q hW hW1 hW2 hO hO2 hc hl1 q
    have hrest : ∀ {cs1 : List Int} {n' r : Int}, cs1.length ≤ 63 → wp (exB (Mn.call T k) T.con (termRest tk me) (termEnvFL W O dp cs1 s n' (l - 1) r none none none)) fun a b => wp (retF [0, 1, 2, 3, 4] [.dk cs s n, .ls (W.map D.str), .d (.lst (O.map D.str)), .d (.int dp), .ls [.int l]] a b) Q := by
      intro cs1 n' r hc1
      refine term_restFL hT hk hW hW1 hW2 (fun {cs2 n2 l2 Q2} hdp hl2 hc2 q2 => ?_) ⟨cs, n, l, rfl⟩ hc1 (by omega) (fun t cs' n' l' ht e e0 hc' => q t cs' n' l' ht (by omega) e0 hc')
      obtain ⟨dq, rfl⟩ : ∃ dq, dp = dq + 1 := ⟨dp - 1, by omega⟩
      obtain ⟨kq, rfl⟩ : ∃ kq, k = kq + 1 := ⟨k - 1, by omega⟩
      have e : ((dq + 1 : Nat) : Int) - 1 = (dq : Int) := by omega
      rw [e]
      refine IH dq (by omega) kq (by omega) hW hW1 hW2 hO hO2 hc2 hl2 fun t cs' n' l' ht he he0 hc' => ?_
      have := q2 t cs' n' l' ht he he0 hc'
      rwa [e] at this
    rw [call_run hF rfl]
    simp [cTerm, Mn.atI, Mn.ixN]
    refine take_wp hT (by omega) (by decide) (by decide) hc fun r cs1 h0 h1 hc1 => ?_
    have op_get : O ≠ [] → ∀ {r2 : Int}, 0 ≤ r2 → r2 < O.length → ∃ z, Mn.atI (O.map D.str) r2 = some (.str z) ∧ z ∈ O := fun hne r2 a b => by
      obtain ⟨z, e1, m1⟩ := atI_lt (xs := O) a b
      refine ⟨z, ?_, m1⟩
      unfold Mn.atI at e1 ⊢
      rw [List.length_map]
      simp only [Option.bind_eq_some_iff] at e1 ⊢
      obtain ⟨j, a1, a2⟩ := e1
      exact ⟨j, a1, by rw [List.getElem?_map, a2]; rfl⟩
    have hr := hrest (cs1 := cs1) (n' := n + 1) (r := r) hc1
    have h7 : 1 ≤ 7 ^ (dp + 1) := Nat.one_le_pow _ _ (by decide)
    simp [termRest, termEnvFL] at hr
    have hop : ∀ (z : List Nat) cs2 , z ∈ O → cs2.length ≤ 63 → Q (.d (.str z)) [.dk cs2 s (n + 1 + 1), .ls (W.map D.str), .d (.lst (O.map D.str)), .d (.int dp), .ls [.int (l - 1)]] := fun z cs2 hz hc2 => by
      have := q (.op z) cs2 (n + 1 + 1) (l - 1) ⟨hO z hz, by simp [Tm.lev], by simpa [Tm.parts] using h7, by simpa [Tm.opens] using hz⟩ (by simp [Tm.parts]) (by omega) hc2
      simpa [Tm.d] using this
    simp [ne_nil_strsF O]
    by_cases hO0 : O = []
    · simp only [hO0, if_true]
      simp
      simpa [hO0] using hr
    · have hOl : 0 < O.length := List.length_pos_iff.mpr hO0
      by_cases hr0 : r = 0
      · simp [hO0, hr0]
        refine take_wp hT (by omega) (by omega) (by omega) hc1 fun r2 cs2 h2 h3 hc2 => ?_
        obtain ⟨z, e1, m1⟩ := op_get hO0 h2 h3
        simp [e1]
        exact hop z cs2 m1 hc2
      · by_cases hd0 : dp = 0
        · by_cases hr3 : r < 3
          · simp [hO0, hr0, hd0, hr3]
            refine take_wp hT (by omega) (by omega) (by omega) hc1 fun r2 cs2 h2 h3 hc2 => ?_
            obtain ⟨z, e1, m1⟩ := op_get hO0 h2 h3
            simp [e1]
            have := hop z cs2 m1 hc2
            simpa [hd0] using this
          · simp [hO0, hr0, hd0, hr3]
            simpa [hd0] using hr
        · simp [hO0, hr0, hd0]
          simpa using hr
theorem opens_wpN {T : Tab} {tk : Nat} {xt : Str} (hT : T.fns[tk]? = some (xt, .prim 2 takeA)) {f : Nat} {xf : Str} (hF : T.fns[f]? = some (xf, .code ⟨2, 8, [0, 1], cOpens tk⟩)) {k : Nat} (hk : 9 ≤ k) {cs : List Int} {s n m : Int} {Q : Va → List Va → Prop} (hm : 0 ≤ m) (hc : cs.length ≤ 63)
    (q : ∀ (L : List (List Nat)) cs' n', (∀ x ∈ L, Op x) → L.Nodup → L.length ≤ 12 → L.length ≤ m → (1 ≤ m → 1 ≤ L.length) → cs'.length ≤ 63 → Q (.ls (L.map D.str)) [.dk cs' s n', .d (.int m)]) : wp (Mn.call T (k + 1) f [.dk cs s n, .d (.int m)]) Q := by
  rw [call_run hF rfl]
  simp [cOpens]
  refine take_wp hT hk (by decide) (by decide) hc fun r cs1 h0 h1 hc1 => ?_
  have at26 : ∀ i : Fin 26, great[i.val]? = some (65 + i.val) := by decide
  have atg : ∀ z : Int, 0 ≤ z → z < 26 → Mn.atI great z = some (65 + z.toNat) := fun z a b => by
    unfold Mn.atI Mn.ixN
    rw [if_pos a, if_pos (show z < (great.length : Int) from b)]
    exact at26 ⟨z.toNat, by omega⟩
  obtain ⟨c, e1, hc⟩ : ∃ c, Mn.atI great r = some c ∧ c = 65 + r.toNat := ⟨_, atg r h0 h1, rfl⟩
  obtain ⟨d, e2, hd⟩ : ∃ d, Mn.atI great ((r + 1) % 26) = some d ∧ d = 65 + ((r + 1) % 26).toNat := ⟨_, atg _ (by omega) (by omega), rfl⟩
  have hcd : c ≠ d := by omega
  have mg : ∀ z : Nat, 65 ≤ z → z ≤ 90 → z ∈ great := fun z a b => by
    have := at26 ⟨z - 65, by omega⟩
    rw [show 65 + (z - 65) = z by omega] at this
    exact List.mem_of_getElem? this
  have m1 : c ∈ great := mg c (by omega) (by omega)
  have m2 : d ∈ great := mg d (by omega) (by omega)
  have c1 : c < 128 := by omega
  have d1 : d < 128 := by omega
  simp only [great] at e1 e2
  simp [sz, e1, e2]
  refine take_wp hT hk (by decide) (by decide) hc1 fun r2 cs2 h2 h3 hc2 => ?_
  simp
  have hL : [D.str [c], D.str [c, 49], D.str [c, 57], D.str [d], D.str [d, 53], D.str [c, 52]] = ([[c], [c, 49], [c, 57], [d], [d, 53], [c, 52]] : List (List Nat)).map D.str := rfl
  generalize hL0 : ([[c], [c, 49], [c, 57], [d], [d, 53], [c, 52]] : List (List Nat)) = L0 at hL
  have asc0 : ∀ x ∈ L0, Op x := by
    rw [← hL0]
    simp [Op, Sh, Asc, isOpen, m1, m2, figs]
    omega
  have nd0 : L0.Nodup := by
    rw [← hL0]
    simp [hcd, hcd.symm]
  have len0 : L0.length = 6 := by rw [← hL0]; rfl
  have l1 := cut_len L0 (some r2) none
  have l2 := cut_len L0 none (some r2)
  rw [hL, cut_map, cut_map]
  simp [sz, show (cut L0 (some r2) none).length + (cut L0 none (some r2)).length ≤ 16777216 by omega]
  rw [← List.map_append, cut_map]
  refine q _ _ _ (fun x hx => ?_) ?_ ?_ ?_ (fun hm1 => ?_) hc2
  · rcases List.mem_append.mp (cut_mem hx) with h | h
    · exact asc0 x (cut_mem h)
    · exact asc0 x (cut_mem h)
  · rw [cut_pre _ hm, cut_suf _ h2, cut_pre _ h2]
    refine List.Nodup.sublist (List.take_sublist _ _) ?_
    refine (List.perm_append_comm.nodup_iff).mp ?_
    rw [List.take_append_drop]
    exact nd0
  · refine Nat.le_trans (cut_len _ _ _) ?_
    rw [List.length_append]
    omega
  · rw [cut_pre _ hm, List.length_take]
    omega
  · rw [cut_pre _ hm, cut_suf _ h2, cut_pre _ h2, List.length_take, List.length_append, List.length_drop, List.length_take]
    omega
end Mn
namespace K07
open PySem L2 Mn
def top (i : Nat) : Stmt := PySem.Challenge.pw_showlooker_k07_joined.main.body.getD i (.Pass ⟨0, 0, 0, 0⟩)
def cPutFor : CB := (.cons (.ite (.isi (.var 0) [.str]) (.cons (.ret (.mt .get (.var 1) (.cons (.var 0) (.cons (.var 0) .nil)))) .nil) .nil) (.cons (.ret (.bin .Add (.slc (.var 0) .none (.some (.lit (.int 1)))) (.cb .tuple (.cons (.comp [("one", 2)] (.one 2) (.it (.slc (.var 0) (.some (.lit (.int 1))) .none)) .nil (.cf 0 (.cons (.var 2) (.cons (.var 1) .nil)))) .nil)))) .nil))
def cStandsFor : CB := (.cons (.whl (.and (.cons (.isi (.var 0) [.str]) (.cons (.cmp .In (.var 0) (.var 1)) .nil))) (.cons (.asg 0 (.sub (.var 1) (.var 0))) .nil)) (.cons (.ret (.var 0)) .nil))
def cStandsIn : CB := (.cons (.asg 1 (.cf 1 (.cons (.var 1) (.cons (.var 2) .nil)))) (.cons (.ite (.isi (.var 1) [.str]) (.cons (.ret (.cmp .Eq (.var 1) (.var 0))) .nil) .nil) (.cons (.ret (.cb .any (.cons (.comp [("one", 3)] (.one 3) (.it (.slc (.var 1) (.some (.lit (.int 1))) .none)) .nil (.cf 2 (.cons (.var 0) (.cons (.var 3) (.cons (.var 2) .nil))))) .nil))) .nil)))
def cOpenIs : CB := (.cons (.ite (.cf 2 (.cons (.var 0) (.cons (.var 1) (.cons (.var 2) .nil)))) (.cons (.ret (.cmp .Eq (.var 1) (.var 0))) .nil) .nil) (.cons (.setI 2 (.var 0) (.var 1)) (.cons (.ret (.lit (.bl true))) .nil)))
def cJoinInto : CB := (.cons (.asg 0 (.cf 1 (.cons (.var 0) (.cons (.var 2) .nil)))) (.cons (.asg 1 (.cf 1 (.cons (.var 1) (.cons (.var 2) .nil)))) (.cons (.ite (.isi (.var 0) [.str]) (.cons (.ret (.cf 3 (.cons (.var 0) (.cons (.var 1) (.cons (.var 2) .nil))))) .nil) .nil) (.cons (.ite (.isi (.var 1) [.str]) (.cons (.ret (.cf 3 (.cons (.var 1) (.cons (.var 0) (.cons (.var 2) .nil))))) .nil) .nil) (.cons (.ite (.or (.cons (.cmp .NotEq (.sub (.var 0) (.lit (.int 0))) (.sub (.var 1) (.lit (.int 0)))) (.cons (.cmp .NotEq (.cb .len (.cons (.var 0) .nil)) (.cb .len (.cons (.var 1) .nil))) .nil))) (.cons (.ret (.lit (.bl false))) .nil) .nil) (.cons (.for_ (.many [3, 4]) (.zip (.cons (.slc (.var 0) (.some (.lit (.int 1))) .none) (.cons (.slc (.var 1) (.some (.lit (.int 1))) .none) .nil))) (.cons (.ite (.not (.cf 4 (.cons (.var 3) (.cons (.var 4) (.cons (.var 2) .nil))))) (.cons (.ret (.lit (.bl false))) .nil) .nil) .nil)) (.cons (.ret (.lit (.bl true))) .nil)))))))
def cWholeOf : CB := (.cons (.asg 2 (.cf 0 (.cons (.var 0) (.cons (.var 1) .nil)))) (.cons (.whl (.cmp .NotEq (.var 2) (.var 0)) (.cons (.asg 0 (.var 2)) (.cons (.asg 2 (.cf 0 (.cons (.var 0) (.cons (.var 1) .nil)))) .nil))) (.cons (.ret (.var 2)) .nil)))
def cJoined : CB := (.cons (.asg 2 .dnew) (.cons (.ite (.not (.cf 4 (.cons (.var 0) (.cons (.var 1) (.cons (.var 2) .nil))))) (.cons (.ret (.lit .non)) .nil) .nil) (.cons (.ret (.cb .tuple (.cons (.comp [("name", 3)] (.one 3) (.it (.cb .sorted (.cons (.var 2) .nil))) .nil (.tup (.cons (.var 3) (.cons (.cf 5 (.cons (.sub (.var 2) (.var 3)) (.cons (.var 2) .nil))) .nil)))) .nil))) .nil)))
def cLawMixed : CB := (.cons (.asg 2 (.bin .Mod (.bin .Mult (.bin .Add (.bin .Add (.bin .Mod (.var 0) (.lit (.int 2147483629))) (.bin .Mult (.lit (.int 7919)) (.var 1))) (.lit (.int 1))) (.lit (.int 48271))) (.lit (.int 2147483647)))) (.cons (.asg 2 (.bin .Mod (.bin .Add (.bin .Add (.bin .Mult (.var 2) (.var 2)) (.bin .Mult (.lit (.int 69621)) (.var 1))) (.lit (.int 7))) (.lit (.int 2147483587)))) (.cons (.ret (.bin .Add (.bin .Mult (.var 2) (.lit (.int 2147483563))) (.bin .Mod (.bin .Add (.bin .Add (.bin .Mult (.var 2) (.var 2)) (.bin .Mult (.lit (.int 16807)) (.var 2))) (.var 1)) (.lit (.int 2147483563))))) .nil)))
def cLawWords : CB := (.cons (.asg 2 (.lit (.str [97, 98, 99, 100, 101, 102, 103, 104, 105, 106, 107, 108, 109, 110, 111, 112, 113, 114, 115, 116, 117, 118, 119, 120, 121, 122]))) (.cons (.asg 3 (.lst (.cons (.lit (.str [98, 97, 114])) (.cons (.lit (.str [98, 97, 114, 101, 115])) (.cons (.lit (.str [116, 114, 101, 101, 115])) (.cons (.lit (.str [116, 114, 101])) (.cons (.lit (.str [119, 104, 101, 114])) (.cons (.lit (.str [119, 104, 101, 114, 101, 115])) (.cons (.lit (.str [103, 105, 118, 101])) (.cons (.lit (.str [103, 105, 118])) (.cons (.lit (.str [98, 121, 101])) (.cons (.lit (.str [98])) (.cons (.lit (.str [115, 117, 109])) (.cons (.lit (.str [115, 117])) .nil)))))))))))))) (.cons (.asg 4 (.cf 9 (.cons (.var 0) (.cons (.lit (.int 12)) .nil)))) (.cons (.asg 5 (.bin .Add (.slc (.var 3) (.some (.var 4)) .none) (.slc (.var 3) .none (.some (.var 4))))) (.cons (.asg 6 (.mt .join (.lit (.str [])) (.cons (.comp [("_law_k", 7)] (.one 7) (.rng (.cons (.lit (.int 7)) .nil)) .nil (.sub (.var 2) (.cf 9 (.cons (.var 0) (.cons (.lit (.int 26)) .nil))))) .nil))) (.cons (.asg 8 (.sub (.lit (.str [97, 99, 100, 101, 102, 104, 105, 106, 107, 108, 109, 110, 111, 112, 113, 114, 115, 117, 118, 120, 121, 122])) (.cf 9 (.cons (.var 0) (.cons (.lit (.int 22)) .nil))))) (.cons (.ite (.cmp .Eq (.cf 9 (.cons (.var 0) (.cons (.lit (.int 2)) .nil))) (.lit (.int 0))) (.cons (.asg 5 (.comp [("_law_k", 7)] (.one 7) (.rng (.cons (.lit (.int 8)) .nil)) .nil (.bin .Add (.var 8) (.slc (.var 6) .none (.some (.var 7)))))) .nil) .nil) (.cons (.ret (.slc (.var 5) .none (.some (.var 1)))) .nil))))))))
def cLawOpens : CB := (.cons (.asg 2 (.lit (.str [65, 66, 67, 68, 69, 70, 71, 72, 73, 74, 75, 76, 77, 78, 79, 80, 81, 82, 83, 84, 85, 86, 87, 88, 89, 90]))) (.cons (.asg 3 (.cf 9 (.cons (.var 0) (.cons (.lit (.int 26)) .nil)))) (.cons (.asg 4 (.sub (.var 2) (.var 3))) (.cons (.asg 5 (.sub (.var 2) (.bin .Mod (.bin .Add (.var 3) (.lit (.int 1))) (.lit (.int 26))))) (.cons (.asg 6 (.lst (.cons (.var 4) (.cons (.bin .Add (.var 4) (.lit (.str [49]))) (.cons (.bin .Add (.var 4) (.lit (.str [57]))) (.cons (.var 5) (.cons (.bin .Add (.var 5) (.lit (.str [53]))) (.cons (.bin .Add (.var 4) (.lit (.str [52]))) .nil)))))))) (.cons (.asg 7 (.cf 9 (.cons (.var 0) (.cons (.lit (.int 6)) .nil)))) (.cons (.ret (.slc (.bin .Add (.slc (.var 6) (.some (.var 7)) .none) (.slc (.var 6) .none (.some (.var 7)))) .none (.some (.var 1)))) .nil)))))))
def cLawTerm : CB := (.cons (.setI 4 (.lit (.int 0)) (.bin .Sub (.sub (.var 4) (.lit (.int 0))) (.lit (.int 1)))) (.cons (.asg 5 (.cf 9 (.cons (.var 0) (.cons (.lit (.int 4)) .nil)))) (.cons (.ite (.and (.cons (.cmp .NotEq (.var 2) (.lst .nil)) (.cons (.or (.cons (.cmp .Eq (.var 5) (.lit (.int 0))) (.cons (.and (.cons (.cmp .Eq (.var 3) (.lit (.int 0))) (.cons (.cmp .Lt (.var 5) (.lit (.int 3))) .nil))) .nil))) .nil))) (.cons (.ret (.sub (.var 2) (.cf 9 (.cons (.var 0) (.cons (.cb .len (.cons (.var 2) .nil)) .nil))))) .nil) .nil) (.cons (.asg 6 (.tup (.cons (.sub (.var 1) (.cf 9 (.cons (.var 0) (.cons (.cb .len (.cons (.var 1) .nil)) .nil)))) .nil))) (.cons (.asg 7 (.sub (.lst (.cons (.cf 9 (.cons (.var 0) (.cons (.lit (.int 4)) .nil))) (.cons (.cf 9 (.cons (.var 0) (.cons (.lit (.int 7)) .nil))) .nil))) (.cb .int (.cons (.cmp .Eq (.cf 9 (.cons (.var 0) (.cons (.lit (.int 8)) .nil))) (.lit (.int 5))) .nil)))) (.cons (.for_ (.one 8) (.rng (.cons (.bin .Mult (.var 7) (.cb .int (.cons (.cmp .Gt (.var 3) (.lit (.int 0))) .nil))) .nil)) (.cons (.ite (.cmp .Gt (.sub (.var 4) (.lit (.int 0))) (.lit (.int 0))) (.cons (.asg 6 (.bin .Add (.var 6) (.tup (.cons (.cf 12 (.cons (.var 0) (.cons (.var 1) (.cons (.var 2) (.cons (.bin .Sub (.var 3) (.lit (.int 1))) (.cons (.var 4) .nil)))))) .nil)))) .nil) .nil) .nil)) (.cons (.ret (.var 6)) .nil)))))))
def cLawMade : CB := (.cons (.ite (.isi (.var 0) [.str]) (.cons (.ret (.dg2 1 (.var 0) (.var 0))) .nil) .nil) (.cons (.ret (.bin .Add (.slc (.var 0) .none (.some (.lit (.int 1)))) (.cb .tuple (.cons (.comp [("_law_one", 2)] (.one 2) (.it (.slc (.var 0) (.some (.lit (.int 1))) .none)) .nil (.cf 13 (.cons (.var 2) (.cons (.var 1) .nil)))) .nil)))) .nil))
def cLawOpensIn : CB := (.cons (.ite (.isi (.var 0) [.str]) (.cons (.ret (.lst (.cons (.var 0) .nil))) .nil) .nil) (.cons (.asg 1 (.lst .nil)) (.cons (.for_ (.one 2) (.it (.slc (.var 0) (.some (.lit (.int 1))) .none)) (.cons (.asg 1 (.bin .Add (.var 1) (.cf 14 (.cons (.var 2) .nil)))) .nil)) (.cons (.ret (.var 1)) .nil))))
def cLawInner : CB := (.cons (.asg 1 (.lst (.cons (.var 0) .nil))) (.cons (.for_ (.one 2) (.it (.slc (.var 0) (.some (.lit (.int 1))) .none)) (.cons (.asg 1 (.bin .Add (.var 1) (.cf 15 (.cons (.var 2) .nil)))) .nil)) (.cons (.ret (.var 1)) .nil)))
def cLawOpened : CB := (.cons (.asg 3 (.comp [("_law_name", 4)] (.one 4) (.it (.cb .sorted (.cons (.var 2) .nil))) (.cons (.cmp .Eq (.sub (.var 2) (.var 4)) (.var 1)) .nil) (.var 4))) (.cons (.ite (.and (.cons (.cmp .NotEq (.var 3) (.lst .nil)) (.cons (.cmp .Eq (.cf 9 (.cons (.var 0) (.cons (.lit (.int 2)) .nil))) (.lit (.int 1))) .nil))) (.cons (.ret (.sub (.var 3) (.cf 9 (.cons (.var 0) (.cons (.cb .len (.cons (.var 3) .nil)) .nil))))) .nil) .nil) (.cons (.asg 5 (.slc (.var 1) .none (.some (.lit (.int 1))))) (.cons (.for_ (.one 6) (.it (.slc (.var 1) (.some (.lit (.int 1))) .none)) (.cons (.asg 5 (.bin .Add (.var 5) (.tup (.cons (.cf 16 (.cons (.var 0) (.cons (.var 6) (.cons (.var 2) .nil)))) .nil)))) .nil)) (.cons (.ret (.var 5)) .nil)))))
def cLawFromOne : CB := (.cons (.asg 3 (.cf 12 (.cons (.var 0) (.cons (.var 1) (.cons (.lst .nil) (.cons (.bin .Add (.lit (.int 1)) (.cf 9 (.cons (.var 0) (.cons (.lit (.int 4)) .nil)))) (.cons (.lst (.cons (.bin .Add (.lit (.int 2)) (.cf 9 (.cons (.var 0) (.cons (.lit (.int 10)) .nil)))) .nil)) .nil))))))) (.cons (.asg 4 (.cf 15 (.cons (.var 3) .nil))) (.cons (.asg 5 .dnew) (.cons (.for_ (.one 6) (.it (.var 2)) (.cons (.setI 5 (.var 6) (.sub (.bin .Add (.var 4) (.lst (.cons (.tup (.cons (.sub (.var 1) (.lit (.int 0))) .nil)) .nil))) (.cf 9 (.cons (.var 0) (.cons (.bin .Add (.cb .len (.cons (.var 4) .nil)) (.lit (.int 1))) .nil))))) .nil)) (.cons (.asg 7 (.cf 16 (.cons (.var 0) (.cons (.var 3) (.cons (.var 5) .nil))))) (.cons (.ret (.tup (.cons (.var 7) (.cons (.cf 16 (.cons (.var 0) (.cons (.var 3) (.cons (.var 5) .nil)))) (.cons (.var 5) .nil))))) .nil))))))
def cLawKnown : CB := (.cons (.asg 2 .dnew) (.cons (.asg 3 (.lst (.cons (.tup (.cons (.var 0) (.cons (.var 1) .nil))) .nil))) (.cons (.whl (.cmp .NotEq (.var 3) (.lst .nil)) (.cons (.asgT [4, 5] (.popV 3)) (.cons (.asg 4 (.cf 13 (.cons (.var 4) (.cons (.var 2) .nil)))) (.cons (.asg 5 (.cf 13 (.cons (.var 5) (.cons (.var 2) .nil)))) (.cons (.ite (.and (.cons (.isi (.var 5) [.str]) (.cons (.not (.isi (.var 4) [.str])) .nil))) (.cons (.par 4 5 (.var 5) (.var 4)) .nil) .nil) (.cons (.ite (.and (.cons (.isi (.var 4) [.str]) (.cons (.cmp .NotEq (.var 4) (.var 5)) .nil))) (.cons (.ite (.cmp .In (.var 4) (.cf 14 (.cons (.var 5) .nil))) (.cons (.ret (.lit .non)) .nil) .nil) (.cons (.for_ (.one 6) (.it (.keysL 2)) (.cons (.setI 2 (.var 6) (.cf 13 (.cons (.sub (.var 2) (.var 6)) (.cons (.dl1 (.var 4) (.var 5)) .nil)))) .nil)) (.cons (.setI 2 (.var 4) (.var 5)) .nil))) (.cons (.ite (.cmp .NotEq (.var 4) (.var 5)) (.cons (.ite (.or (.cons (.cmp .NotEq (.sub (.var 4) (.lit (.int 0))) (.sub (.var 5) (.lit (.int 0)))) (.cons (.cmp .NotEq (.cb .len (.cons (.var 4) .nil)) (.cb .len (.cons (.var 5) .nil))) .nil))) (.cons (.ret (.lit .non)) .nil) .nil) (.cons (.ext 3 (.lzip (.cons (.slc (.var 4) (.some (.lit (.int 1))) .none) (.cons (.slc (.var 5) (.some (.lit (.int 1))) .none) .nil)))) .nil)) .nil) .nil)) .nil)))))) (.cons (.ret (.var 2)) .nil))))
def cLawUnlike : CB := (.cons (.asg 3 (.cb .dict (.cons (.var 2) .nil))) (.cons (.asg 4 (.cf 14 (.cons (.tup (.cons (.lit (.str [97])) (.cons (.var 0) (.cons (.var 1) .nil)))) .nil))) (.cons (.asg 5 (.cb .sorted (.cons (.comp [("_law_name", 6)] (.one 6) (.it (.var 4)) (.cons (.cmp .NotIn (.var 6) (.var 2)) .nil) (.var 6)) .nil))) (.cons (.for_ (.one 6) (.it (.var 5)) (.cons (.setI 3 (.var 6) (.tup (.cons (.bin .Add (.lit (.str [113])) (.sub (.lit (.str [97, 98, 99, 100, 101, 102, 103, 104, 105, 106, 107, 108, 109, 110, 111, 112, 113, 114, 115, 116, 117, 118, 119, 120, 121, 122])) (.mt .lindex (.var 5) (.cons (.var 6) .nil)))) .nil))) .nil)) (.cons (.for_ (.one 6) (.it (.var 2)) (.cons (.setI 3 (.var 6) (.cf 13 (.cons (.sub (.var 2) (.var 6)) (.cons (.var 3) .nil)))) .nil)) (.cons (.ret (.var 3)) .nil))))))
def cLawIsTerm : CB := (.cons (.ite (.isi (.var 0) [.str]) (.cons (.ret (.lit (.bl true))) .nil) .nil) (.cons (.ite (.or (.cons (.not (.isi (.var 0) [.tup])) (.cons (.cmp .Eq (.var 0) (.tup .nil)) (.cons (.not (.isi (.sub (.var 0) (.lit (.int 0))) [.str])) .nil)))) (.cons (.ret (.lit (.bl false))) .nil) .nil) (.cons (.ret (.cmp .Eq (.comp [("_law_one", 1)] (.one 1) (.it (.slc (.var 0) (.some (.lit (.int 1))) .none)) (.cons (.not (.cf 20 (.cons (.var 1) .nil))) .nil) (.var 1)) (.lst .nil))) .nil)))
def cLawFits : CB := (.cons (.asg 4 (.cf 14 (.cons (.tup (.cons (.lit (.str [97])) (.cons (.var 0) (.cons (.var 1) .nil)))) .nil))) (.cons (.ite (.not (.isi (.var 2) [.tup])) (.cons (.ret (.lit (.bl false))) .nil) .nil) (.cons (.for_ (.one 5) (.it (.var 2)) (.cons (.ite (.or (.cons (.not (.isi (.var 5) [.tup])) (.cons (.cmp .NotEq (.cb .len (.cons (.var 5) .nil)) (.lit (.int 2))) (.cons (.cmp .NotIn (.sub (.var 5) (.lit (.int 0))) (.var 4)) .nil)))) (.cons (.ret (.lit (.bl false))) .nil) .nil) (.cons (.ite (.not (.cf 20 (.cons (.sub (.var 5) (.lit (.int 1))) .nil))) (.cons (.ret (.lit (.bl false))) .nil) .nil) .nil))) (.cons (.asg 6 (.comp [("_law_pair", 5)] (.one 5) (.it (.var 2)) .nil (.sub (.var 5) (.lit (.int 0))))) (.cons (.ite (.or (.cons (.cmp .NotEq (.var 6) (.cb .sorted (.cons (.var 6) .nil))) (.cons (.cmp .NotEq (.cb .len (.cons (.cb .dict (.cons (.var 2) .nil)) .nil)) (.cb .len (.cons (.var 6) .nil))) .nil))) (.cons (.ret (.lit (.bl false))) .nil) .nil) (.cons (.for_ (.many [7, 8]) (.it (.var 2)) (.cons (.for_ (.one 9) (.it (.cf 14 (.cons (.var 8) .nil))) (.cons (.ite (.or (.cons (.cmp .In (.var 9) (.var 6)) (.cons (.cmp .NotIn (.var 9) (.var 4)) .nil))) (.cons (.ret (.lit (.bl false))) .nil) .nil) .nil)) .nil)) (.cons (.asg 10 (.cb .dict (.cons (.var 2) .nil))) (.cons (.ite (.cmp .NotEq (.cf 13 (.cons (.var 0) (.cons (.var 10) .nil))) (.cf 13 (.cons (.var 1) (.cons (.var 10) .nil)))) (.cons (.ret (.lit (.bl false))) .nil) .nil) (.cons (.for_ (.one 7) (.it (.var 4)) (.cons (.ite (.cmp .NotEq (.cf 13 (.cons (.cf 13 (.cons (.var 7) (.cons (.var 10) .nil))) (.cons (.var 3) .nil))) (.sub (.var 3) (.var 7))) (.cons (.ret (.lit (.bl false))) .nil) .nil) .nil)) (.cons (.ret (.lit (.bl true))) .nil))))))))))
def cLawRight : CB := (.cons (.asg 2 (.cf 18 (.cons (.var 0) (.cons (.var 1) .nil)))) (.cons (.asg 3 (.cf 6 (.cons (.var 0) (.cons (.var 1) .nil)))) (.cons (.ite (.cmp .Is (.var 2) (.lit .non)) (.cons (.ret (.cmp .Is (.var 3) (.lit .non))) .nil) .nil) (.cons (.asg 4 (.cf 19 (.cons (.var 0) (.cons (.var 1) (.cons (.var 2) .nil))))) (.cons (.ret (.and (.cons (.cmp .IsNot (.var 3) (.lit .non)) (.cons (.cf 21 (.cons (.var 0) (.cons (.var 1) (.cons (.var 3) (.cons (.var 4) .nil))))) .nil)))) .nil)))))
def cLaw : CB := (.cons (.asg 1 (.cf 8 (.cons (.var 0) .nil))) (.cons (.for_ (.one 2) (.rng (.cons (.lit (.int 8)) .nil)) (.cons (.asg 3 (.cf 10 (.cons (.var 1) (.cons (.bin .Add (.lit (.int 1)) (.cf 9 (.cons (.var 1) (.cons (.lit (.int 4)) .nil)))) .nil)))) (.cons (.asg 4 (.cf 11 (.cons (.var 1) (.cons (.bin .Add (.lit (.int 1)) (.cf 9 (.cons (.var 1) (.cons (.lit (.int 6)) .nil)))) .nil)))) (.cons (.asgT [5, 6, 7] (.cf 17 (.cons (.var 1) (.cons (.var 3) (.cons (.var 4) .nil))))) (.cons (.asg 8 (.cf 6 (.cons (.var 5) (.cons (.var 6) .nil)))) (.cons (.ite (.or (.cons (.cmp .Is (.var 8) (.lit .non)) (.cons (.not (.cf 21 (.cons (.var 5) (.cons (.var 6) (.cons (.var 8) (.cons (.var 7) .nil)))))) .nil))) (.cons (.ret (.lit (.bl false))) .nil) .nil) (.cons (.ite (.or (.cons (.not (.cf 22 (.cons (.var 5) (.cons (.var 6) .nil)))) (.cons (.not (.cf 22 (.cons (.var 6) (.cons (.var 5) .nil)))) .nil))) (.cons (.ret (.lit (.bl false))) .nil) .nil) (.cons (.asg 9 (.bin .Add (.lit (.int 1)) (.cf 9 (.cons (.var 1) (.cons (.lit (.int 4)) .nil))))) (.cons (.asg 5 (.cf 12 (.cons (.var 1) (.cons (.var 3) (.cons (.var 4) (.cons (.var 9) (.cons (.lst (.cons (.bin .Add (.lit (.int 1)) (.cf 9 (.cons (.var 1) (.cons (.lit (.int 12)) .nil)))) .nil)) .nil))))))) (.cons (.asg 6 (.cf 12 (.cons (.var 1) (.cons (.var 3) (.cons (.var 4) (.cons (.var 9) (.cons (.lst (.cons (.bin .Add (.lit (.int 1)) (.cf 9 (.cons (.var 1) (.cons (.lit (.int 12)) .nil)))) .nil)) .nil))))))) (.cons (.asg 10 (.lst (.cons (.tup (.cons (.var 5) (.cons (.var 6) .nil))) (.cons (.tup (.cons (.var 6) (.cons (.var 5) .nil))) (.cons (.tup (.cons (.var 5) (.cons (.var 5) .nil))) (.cons (.tup (.cons (.var 5) (.cons (.sub (.var 4) (.lit (.int 0))) .nil))) .nil)))))) (.cons (.asg 10 (.bin .Add (.var 10) (.lst (.cons (.tup (.cons (.sub (.var 4) (.neg (.lit (.int 1)))) (.cons (.var 6) .nil))) (.cons (.tup (.cons (.sub (.var 4) (.lit (.int 0))) (.cons (.sub (.var 4) (.neg (.lit (.int 1)))) .nil))) .nil))))) (.cons (.for_ (.many [11, 12]) (.it (.var 10)) (.cons (.ite (.not (.cf 22 (.cons (.var 11) (.cons (.var 12) .nil)))) (.cons (.ret (.lit (.bl false))) .nil) .nil) .nil)) .nil))))))))))))) (.cons (.ret (.lit (.bl true))) .nil)))
def tab : Tab where
  fns := [(("put_for" : PySem.Str), Df.code ⟨2, 3, [0, 1], cPutFor⟩),
    (("stands_for" : PySem.Str), Df.code ⟨2, 2, [1], cStandsFor⟩),
    (("stands_in" : PySem.Str), Df.code ⟨3, 4, [0, 2], cStandsIn⟩),
    (("open_is" : PySem.Str), Df.code ⟨3, 3, [0, 1, 2], cOpenIs⟩),
    (("join_into" : PySem.Str), Df.code ⟨3, 5, [2], cJoinInto⟩),
    (("whole_of" : PySem.Str), Df.code ⟨2, 3, [1], cWholeOf⟩),
    (("joined" : PySem.Str), Df.code ⟨2, 4, [0, 1], cJoined⟩),
    (("_law_mixed" : PySem.Str), Df.code ⟨2, 3, [0, 1], cLawMixed⟩),
    (("_law_deck" : PySem.Str), Df.prim 1 deckA),
    (("_law_take" : PySem.Str), Df.prim 2 takeA),
    (("_law_words" : PySem.Str), Df.code ⟨2, 9, [0, 1], cLawWords⟩),
    (("_law_opens" : PySem.Str), Df.code ⟨2, 8, [0, 1], cLawOpens⟩),
    (("_law_term" : PySem.Str), Df.code ⟨5, 9, [0, 1, 2, 3, 4], cLawTerm⟩),
    (("_law_made" : PySem.Str), Df.code ⟨2, 3, [0, 1], cLawMade⟩),
    (("_law_opens_in" : PySem.Str), Df.code ⟨1, 3, [0], cLawOpensIn⟩),
    (("_law_inner" : PySem.Str), Df.code ⟨1, 3, [0], cLawInner⟩),
    (("_law_opened" : PySem.Str), Df.code ⟨3, 7, [0, 1, 2], cLawOpened⟩),
    (("_law_from_one" : PySem.Str), Df.code ⟨3, 8, [0, 1, 2], cLawFromOne⟩),
    (("_law_known" : PySem.Str), Df.code ⟨2, 7, [0, 1], cLawKnown⟩),
    (("_law_unlike" : PySem.Str), Df.code ⟨3, 7, [0, 1, 2], cLawUnlike⟩),
    (("_law_is_term" : PySem.Str), Df.code ⟨1, 2, [0], cLawIsTerm⟩),
    (("_law_fits" : PySem.Str), Df.code ⟨4, 11, [0, 1, 2, 3], cLawFits⟩),
    (("_law_right" : PySem.Str), Df.code ⟨2, 5, [0, 1], cLawRight⟩),
    (("law" : PySem.Str), Df.code ⟨1, 13, [0], cLaw⟩)]
  consts := []
  blts := ["tuple", "isinstance", "str", "any", "zip", "len", "sorted", "range", "int", "list", "dict", "reversed", "sum"]
abbrev lvl0 : Nat := 99
abbrev lvl : Nat := 100
end K07
namespace K07
open PySem L2 Mn
/-! ### the program's: what a term is, and whether an open part stands in it -/
section
variable {O N : List (List Nat)} {ps : Kn} {r : List Nat → Nat} {σ : List Nat → Tm} (K : Knw O N ps r σ)
include K
def ForP (ps : Kn) (O : List (List Nat)) (r : List Nat → Nat) (t : Tm) (m : Nat) (env : Mn.Env) : Prop :=
  ∃ u, env = [some (.d u.d), some (.dc (kvD ps))] ∧ Ind O u ∧ (∀ θ, Sat ps θ → sb θ u = sb θ t) ∧ m = (match u with
    | .op s => r s + 1
    | .nd _ _ => 0)
theorem stands_wp {t : Tm} (ht : Ind O t) {k : Nat} : wp (Mn.call tab (k + 1) 1 [.d t.d, .dc (kvD ps)]) fun a us => ∃ t' : Tm, a = .d t'.d ∧ us = [.d t.d, .dc (kvD ps)] ∧ Ind O t' ∧ Std ps t' ∧ ∀ θ, Sat ps θ → sb θ t' = sb θ t := by
  rw [call_run (x := "stands_for") rfl rfl]
  simp [cStandsFor]
  refine whl_wp (ForP ps O r t) ?_ ⟨t, rfl, ht, fun _ _ => rfl, rfl⟩
  rintro m env ⟨u, rfl, hu, hs, rfl⟩
  cases u with
  | nd w ts =>
    simp [tnS_nd]
    exact ⟨_, rfl, hu, (fun _ z => nomatch z), hs⟩
  | op s =>
    cases e : look ps s with
    | none =>
      have e1 := in_kv ps s
      rw [e] at e1
      simp [Tm.d, tnS, e1]
      exact ⟨.op s, rfl, hu, fun z hz => by cases hz; exact e, hs⟩
    | some v =>
      have e1 := in_kv ps s
      rw [e] at e1
      have hv := K.vals _ (look_mem e)
      simp [Tm.d, tnS, e1, item_kvS e]
      refine ⟨_, ?_, v, rfl, hv, fun θ hθ => (hθ s v e).symm.trans (hs θ hθ), rfl⟩
      cases v with
      | op y =>
        have := K.tri.rk s _ e y (by simp [Tm.opens])
        simp only
        omega
      | nd w ts => simp only; omega
theorem anyId {α : Type} (f : α → Bool) (l : List α) : ((l.map f).any id) = l.any f := by simp [List.any_map]
theorem within_eq {x : List Nat} (hx : Op x) : ∀ (k : Nat) (t : Tm), Ind O t → (sb σ t).lev + 1 ≤ k → Mn.call tab k 2 [.d (.str x), .d t.d, .dc (kvD ps)] = some (.d (.bl (decide (x ∈ (sb σ t).opens))), [.d (.str x), .d t.d, .dc (kvD ps)])
  | 0, t, _, h => by omega
  | k + 1, t, ht, h => by
    have hk1 : 1 ≤ k := by have := (sb σ t).lev_pos; omega
    obtain ⟨k', rfl⟩ : ∃ k', k = k' + 1 := ⟨k - 1, by omega⟩
    obtain ⟨a, us, e, t', rfl, rfl, ht', hs, hθ⟩ := stands_wp K ht (k := k')
    have hσ := hθ σ K.tri.sat
    rw [call_run (x := "stands_in") rfl rfl]
    cases t' with
    | op s =>
      have h1 : σ s = .op s := K.tri.nn s (hs s rfl)
      have h2 : sb σ t = .op s := by rw [← hσ]; exact h1
      have e3 := eq_ss (a := s) (b := x) ht'.ok.1.1 hx.1.1
      have e4 : decide (x ∈ (sb σ t).opens) = decide (s = x) := by
        rw [h2]
        simp [Tm.opens, eq_comm]
      simp [Tm.d] at e
      simp [cStandsIn, e, Tm.d, tnS, e3, e4]
    | nd w ts =>
      have h6 := ht'.ok.2.1
      have hsub : sb σ t = .nd w (ts.map (sb σ)) := by rw [← hσ, sb_nd]
      have ih : ∀ c ∈ ts, Mn.call tab (k' + 1) 2 [.d (.str x), .d c.d, .dc (kvD ps)] = some (.d (.bl (decide (x ∈ (sb σ c).opens))), [.d (.str x), .d c.d, .dc (kvD ps)]) := fun c hc => by
        refine within_eq hx (k' + 1) c (ht'.sub hc) ?_
        have := levT_mem (List.mem_map.mpr ⟨c, hc, rfl⟩ : sb σ c ∈ ts.map (sb σ))
        rw [hsub] at h
        simp only [Tm.lev] at h
        omega
      have hc : compL (turnS (Mn.call tab (k' + 1)) tab.con (.one 3) .nil (.cf 2 (.cons (.var 0) (.cons (.var 3) (.cons (.var 2) .nil))))) [3] (dsT ts) [some (.d (.str x)), some (.d (.tup (.str w :: dsT ts))), some (.dc (kvD ps)), none] [] = some ((ts.map fun c => decide (x ∈ (sb σ c).opens)).map D.bl, [some (.d (.str x)), some (.d (.tup (.str w :: dsT ts))), some (.dc (kvD ps)), none]) := by
        rw [dsT_map]
        refine (compL_map (g := fun c => D.bl (decide (x ∈ (sb σ c).opens))) (fun c hc => ?_) (by rw [sz]; simp; omega)).trans (by simp)
        have i := ih c hc
        exact ⟨[some (.d (.str x)), some (.d (.tup (.str w :: ts.map Tm.d))), some (.dc (kvD ps)), some (.d c.d)], by simp [turnS, i], by simp [wipeS]⟩
      have hb := blsOf_map (id : Bool → Bool) (ts.map fun c => decide (x ∈ (sb σ c).opens))
      simp only [id_eq, List.map_id'] at hb
      have e4 : decide (x ∈ (sb σ t).opens) = ts.any fun c => decide (x ∈ (sb σ c).opens) := by
        rw [hsub]
        simp only [Tm.opens]
        rw [Bool.eq_iff_iff]
        simp only [decide_eq_true_eq, List.any_eq_true, opensT_mem]
        constructor
        · rintro ⟨u, hu, hx⟩
          obtain ⟨c, hc, rfl⟩ := List.mem_map.mp hu
          exact ⟨c, hc, hx⟩
        · rintro ⟨c, hc, hx⟩
          exact ⟨_, List.mem_map.mpr ⟨c, hc, rfl⟩, hx⟩
      simp [Tm.d] at e
      simp only [List.map_map, Function.comp_def] at hb hc
      simp [cStandsIn, e, tnS, cut_tail, hc, wipeS, hb, e4]
def JQ (O N : List (List Nat)) (ps : Kn) (x y : Va) (a b : Tm) (r : Va) (us : List Va) : Prop := ∃ bb qs, r = .d (.bl bb) ∧ us = [x, y, .dc (kvD qs)] ∧ Jn O N ps a b bb qs
theorem open_wp {x : List Nat} {t : Tm} (hx : look ps x = none) (hxO : x ∈ O) (ht : Ind O t) (hs : Std ps t) {k : Nat} (hk : 30 ≤ k) : wp (Mn.call tab (k + 1) 3 [.d (.str x), .d t.d, .dc (kvD ps)]) (JQ O N ps (.d (.str x)) (.d t.d) (.op x) t) := by
  have hop := K.ops x hxO
  have e := within_eq K hop k t ht (by have := K.levI ht; omega)
  have hlen := K.len
  have hkl : (kvD ps).length = ps.length := by simp [kvD]
  have hxn := look_none.mp hx
  rw [call_run (x := "open_is") rfl rfl]
  by_cases hin : x ∈ (sb σ t).opens
  · cases t with
    | op s =>
      have h1 : σ s = .op s := K.tri.nn s (hs s rfl)
      have h2 : x = s := by
        rw [sb_op, h1] at hin
        simpa [Tm.opens] using hin
      subst h2
      have e3 := eq_ss (a := x) (b := x) hop.1.1 hop.1.1
      simp [hin, Tm.d] at e
      simp [cOpenIs, e, Tm.d, e3]
      exact ⟨true, ps, rfl, rfl, fun _ => ⟨⟨r, σ, K⟩, Ups.refl _, fun θ => ⟨fun h => ⟨h, rfl⟩, fun h => h.1⟩⟩, fun z => nomatch z⟩
    | nd w ts =>
      have e3 := eq_tms ht.ok (by have := ht.lev; omega) (u := .op x) hop (by simp [Tm.lev])
      simp [hin, Tm.d] at e e3
      simp [cOpenIs, e, Tm.d, e3]
      exact ⟨false, ps, rfl, rfl, (fun z => nomatch z), fun _ θ hθ => K.occurs hin hθ⟩
  · have hn := K.add hxn hxO ht hin
    simp [hin] at e
    have pn := put_new hxn t
    simp [cOpenIs, e, pn, sz, hkl, show ps.length < 16777216 by omega]
    exact ⟨true, ps ++ [(x, t)], rfl, rfl, fun _ => ⟨hn, fun s u h => look_up hxn h, fun θ => sat_add hxn θ⟩, fun z => nomatch z⟩
end
def LoopP (O N : List (List Nat)) (ps : Kn) (ts us : List Tm) (x y : Va) (i : Nat) (env : Mn.Env) : Prop :=
  ∃ (qs : Kn) (o3 o4 : Option Va), env = [some x, some y, some (.dc (kvD qs)), o3, o4] ∧ (∃ r σ, Knw O N qs r σ) ∧ Ups ps qs ∧ ∀ θ, Sat qs θ ↔ Sat ps θ ∧ (ts.take i).map (sb θ) = (us.take i).map (sb θ)
theorem join_wp {O N : List (List Nat)} : ∀ (k : Nat) (a b : Tm) (ps : Kn) (r : List Nat → Nat) (σ : List Nat → Tm), Knw O N ps r σ → Ind O a → Ind O b → (∀ qs r' σ', Knw O N qs r' σ' → Ups ps qs → (sb σ' a).lev + 31 ≤ k) →
    wp (Mn.call tab k 4 [.d a.d, .d b.d, .dc (kvD ps)]) (JQ O N ps (.d a.d) (.d b.d) a b)
  | 0, a, b, ps, r, σ, K, _, _, h => by have := h ps r σ K (Ups.refl _); omega
  | k + 1, a, b, ps, r, σ, K, ha, hb, h => by
    have hk := h ps r σ K (Ups.refl _)
    have hk1 := (sb σ a).lev_pos
    obtain ⟨k', rfl⟩ : ∃ k', k = k' + 1 := ⟨k - 1, by omega⟩
    obtain ⟨v1, us1, e1, a', rfl, rfl, ha', hsa, hθa⟩ := stands_wp K ha (k := k')
    obtain ⟨v2, us2, e2, b', rfl, rfl, hb', hsb, hθb⟩ := stands_wp K hb (k := k')
    have jn : ∀ {bb : Bool} {qs : Kn}, Jn O N ps a' b' bb qs → Jn O N ps a b bb qs := fun {bb qs} j => ⟨fun z => by
      obtain ⟨y1, y2, y3⟩ := j.yes z
      refine ⟨y1, y2, fun θ => (y3 θ).trans ⟨fun h => ⟨h.1, ?_⟩, fun h => ⟨h.1, ?_⟩⟩⟩
      · rw [← hθa θ h.1, ← hθb θ h.1]; exact h.2
      · rw [hθa θ h.1, hθb θ h.1]; exact h.2, fun z θ hθ => by
      have := j.no z θ hθ
      rwa [hθa θ hθ, hθb θ hθ] at this⟩
    rw [call_run (x := "join_into") rfl rfl]
    cases a' with
    | op s =>
      simp [cJoinInto, e1, e2, tnS_op]
      refine wp_imp (open_wp K (hsa s rfl) (ha'.opens s (by simp [Tm.opens])) hb' hsb (k := k') (by omega)) fun v us ⟨bb, qs, q1, q2, j⟩ => ?_
      subst q1 q2
      simp [Tm.d]
      exact ⟨bb, qs, rfl, rfl, jn j⟩
    | nd w ts =>
      cases b' with
      | op s =>
        simp [cJoinInto, e1, e2, tnS_op, tnS_nd]
        refine wp_imp (open_wp K (hsb s rfl) (hb'.opens s (by simp [Tm.opens])) ha' hsa (k := k') (by omega)) fun v us ⟨bb, qs, q1, q2, j⟩ => ?_
        subst q1 q2
        simp [Tm.d]
        exact ⟨bb, qs, rfl, rfl, jn ⟨fun z => ⟨(j.yes z).1, (j.yes z).2.1, fun θ => ((j.yes z).2.2 θ).trans ⟨fun h => ⟨h.1, h.2.symm⟩, fun h => ⟨h.1, h.2.symm⟩⟩⟩, fun z θ hθ q => j.no z θ hθ q.symm⟩⟩
      | nd v us =>
        have eqw := eq_ss ha'.ok.1.1.1 hb'.ok.1.1.1
        have hlt : (dsT ts).length = ts.length := dsT_len ts
        have hlu : (dsT us).length = us.length := dsT_len us
        have h6 := ha'.ok.2.1
        have ng : ¬ (w = v ∧ ts.length = us.length) → Jn O N ps (.nd w ts) (.nd v us) false ps := fun z => ⟨(fun q => nomatch q), fun _ θ _ q => z (by
          rw [sb_nd, sb_nd, Tm.nd.injEq] at q
          refine ⟨q.1, ?_⟩
          have h2 := congrArg List.length q.2
          rwa [List.length_map, List.length_map] at h2)⟩
        simp only [Tm.d] at e1 e2
        by_cases hw : w = v
        · by_cases hn : ts.length = us.length
          · subst hw
            have hz : zipT [.d (.tup (dsT ts)), .d (.tup (dsT us))] = some ((ts.zip us).map fun p => D.tup [p.1.d, p.2.d]) := by rw [zip_t (by omega), zip_tmsU]
            simp [cJoinInto, e1, e2, tnS, eqw, hlt, hlu, at_0, hn, cut_tail, hz]
            refine forL_wp (LoopP O N ps ts us (.d (.tup (.str w :: dsT ts))) (.d (.tup (.str w :: dsT us)))) ?_ ⟨ps, none, none, rfl, ⟨r, σ, K⟩, Ups.refl _, fun θ => by simp⟩ ?_
            · rintro i x env hx ⟨qs, o3, o4, rfl, ⟨r', σ', K'⟩, hup, hq⟩
              obtain ⟨t, u, h1, h2, rfl⟩ : ∃ t u, ts[i]? = some t ∧ us[i]? = some u ∧ x = .tup [t.d, u.d] := by
                rw [List.getElem?_map] at hx
                simp only [Option.map_eq_some_iff] at hx
                obtain ⟨⟨t, u⟩, e1, e2⟩ := hx
                rw [List.getElem?_zip_eq_some] at e1
                exact ⟨t, u, e1.1, e1.2, e2.symm⟩
              have mt := List.mem_of_getElem? h1
              have mu := List.mem_of_getElem? h2
              simp [forS]
              refine wp_imp (join_wp (k' + 1) t u qs r' σ' K' (ha'.sub mt) (hb'.sub mu) fun qs2 r2 σ2 K2 u2 => ?_) fun v us' ⟨bb, qs2, q1, q2, j⟩ => ?_
              · have g1 := h qs2 r2 σ2 K2 (hup.trans u2)
                rw [← hθa σ2 ((hup.trans u2).sat K2.tri.sat), sb_nd] at g1
                have := levT_mem (List.mem_map.mpr ⟨t, mt, rfl⟩ : sb σ2 t ∈ ts.map (sb σ2))
                simp only [Tm.lev] at g1
                omega
              · subst q1 q2
                cases bb with
                | true =>
                  obtain ⟨y1, y2, y3⟩ := j.yes rfl
                  simp
                  refine ⟨qs2, _, _, rfl, y1, hup.trans y2, fun θ => ?_⟩
                  rw [y3, hq, two_take h1 h2, and_assoc]
                | false =>
                  simp
                  refine ⟨false, qs2, rfl, rfl, jn ⟨(fun z => nomatch z), fun _ θ hθ q => ?_⟩⟩
                  rw [sb_nd, sb_nd, Tm.nd.injEq] at q
                  have q2 : (ts.take (i + 1)).map (sb θ) = (us.take (i + 1)).map (sb θ) := by
                    rw [List.map_take, List.map_take, q.2]
                  rw [two_take h1 h2] at q2
                  exact j.no rfl θ ((hq θ).mpr ⟨hθ, q2.1⟩) q2.2
            · rintro env ⟨qs, o3, o4, rfl, hk2, hup, hq⟩
              have hzl : ((ts.zip us).map fun p => D.tup [p.1.d, p.2.d]).length = ts.length := by simp [hn]
              rw [hzl] at hq
              rw [List.take_length] at hq
              rw [hn, List.take_length] at hq
              simp
              refine ⟨true, qs, rfl, rfl, jn ⟨fun _ => ⟨hk2, hup, fun θ => ?_⟩, fun z => nomatch z⟩⟩
              rw [hq, sb_nd, sb_nd, Tm.nd.injEq]
              simp
          · subst hw
            simp [cJoinInto, e1, e2, tnS, eqw, hlt, hlu, at_0, show ¬ ((ts.length : Int) = us.length) by omega]
            exact ⟨false, ps, rfl, rfl, jn (ng fun z => hn z.2)⟩
        · simp [cJoinInto, e1, e2, tnS, eqw, hw, at_0]
          exact ⟨false, ps, rfl, rfl, jn (ng fun z => hw z.1)⟩
end K07
namespace K07
open PySem L2 Mn
/-! ### what is known put in, again and again -/
theorem dget_kv (ps : Kn) (s : List Nat) : dgetS (.dc (kvD ps)) [.d (.str s), .d (.str s)] = some (.d (fitOf ps s).d) := by
  show some (Va.d ((keyOf (kvD ps) s).getD (.str s))) = _
  rw [key_look]
  unfold fitOf
  cases look ps s <;> rfl
theorem put_eq {ps : Kn} : ∀ (k : Nat) (t : Tm), t.lev ≤ k → TmOk t → Mn.call tab k 0 [.d t.d, .dc (kvD ps)] = some (.d (sb (fitOf ps) t).d, [.d t.d, .dc (kvD ps)])
  | 0, t, h, _ => by have := t.lev_pos; omega
  | k + 1, t, h, ht => by
    rw [call_run (x := "put_for") rfl rfl]
    cases t with
    | op s => simp [cPutFor, Tm.d, tnS, dget_kv, sb]
    | nd w ts =>
      have hl : levT ts ≤ k := by simp only [Tm.lev] at h; omega
      have h6 := ht.2.1
      have hc : compL (turnS (Mn.call tab k) tab.con (.one 2) .nil (.cf 0 (.cons (.var 2) (.cons (.var 1) .nil)))) [2] (dsT ts) [some (.d (.tup (.str w :: dsT ts))), some (.dc (kvD ps)), none] [] = some (dsT (sbs (fitOf ps) ts), [some (.d (.tup (.str w :: dsT ts))), some (.dc (kvD ps)), none]) := by
        rw [sbs_map, dsT_map (ts.map (sb (fitOf ps))), List.map_map]
        rw [dsT_map]
        refine (compL_map (g := Tm.d ∘ sb (fitOf ps)) (fun t ht' => ?_) (by rw [sz]; simp; omega)).trans (by simp)
        have ih := put_eq (ps := ps) k t (Nat.le_trans (levT_mem ht') hl) (okTs_mem ht.2.2 ht')
        exact ⟨[some (.d (.tup (.str w :: ts.map Tm.d))), some (.dc (kvD ps)), some (.d t.d)], by simp [turnS, ih, putArgs], by simp [wipeS]⟩
      have hlen : (dsT (sbs (fitOf ps) ts)).length ≤ 6 := by rw [dsT_map, List.length_map, sbs_map, List.length_map]; exact h6
      have hcut : Mn.cut (D.str w :: dsT ts) none (some 1) = [D.str w] := by
        rw [cut_pre _ (by decide)]
        rfl
      simp [cPutFor, Tm.d, tnS, cut_tail, hc, wipeS, hcut, sz, sb, show 1 + (dsT (sbs (fitOf ps) ts)).length ≤ 16777216 by omega, show (dsT (sbs (fitOf ps) ts)).length + 1 ≤ 16777216 by omega]
section
variable {O N : List (List Nat)} {ps : Kn} {r : List Nat → Nat} {σ : List Nat → Tm} (K : Knw O N ps r σ)
include K
theorem fit_go (t : Tm) : sb σ (sb (fitOf ps) t) = sb σ t := by
  rw [sb_comp]
  refine sb_ext t fun y _ => ?_
  unfold fitOf
  cases e : look ps y with
  | none => rfl
  | some u => exact (K.tri.ss y u e).symm
theorem fit_ok {t : Tm} (ht : TmOk t) (ho : ∀ y ∈ t.opens, y ∈ O) : TmOk (sb (fitOf ps) t) ∧ ∀ y ∈ (sb (fitOf ps) t).opens, y ∈ O := by
  have hy : ∀ y ∈ O, TmOk (fitOf ps y) ∧ ∀ z ∈ (fitOf ps y).opens, z ∈ O := fun y hy => by
    unfold fitOf
    cases e : look ps y with
    | none => exact ⟨K.ops y hy, fun z hz => by simp [Tm.opens] at hz; rw [hz]; exact hy⟩
    | some u =>
      have := K.vals _ (look_mem e)
      exact ⟨this.ok, this.opens⟩
  refine ⟨sb_okG t ht fun y h => (hy y (ho y h)).1, fun z hz => ?_⟩
  obtain ⟨y, h1, h2⟩ := (sb_opens t).mp hz
  exact (hy y (ho y h1)).2 z h2
def WholeP (ps : Kn) (O : List (List Nat)) (r : List Nat → Nat) (g : Tm) (σ : List Nat → Tm) (m : Nat) (env : Mn.Env) : Prop :=
  ∃ t : Tm, env = [some (.d t.d), some (.dc (kvD ps)), some (.d (sb (fitOf ps) t).d)] ∧ TmOk t ∧ (∀ y ∈ t.opens, y ∈ O) ∧ sb σ t = g ∧ ∀ y ∈ t.opens, look ps y ≠ none → r y < m
theorem whole_wp {t : Tm} (ht : TmOk t) (ho : ∀ y ∈ t.opens, y ∈ O) (hl : (sb σ t).lev ≤ 29) {k : Nat} (hk : 29 ≤ k) : wp (Mn.call tab (k + 1) 5 [.d t.d, .dc (kvD ps)]) fun a us => a = .d (sb σ t).d ∧ us = [.d t.d, .dc (kvD ps)] := by
  rw [call_run (x := "whole_of") rfl rfl]
  have low : ∀ {u : Tm}, sb σ u = sb σ t → u.lev ≤ 29 := fun {u} e => Nat.le_trans (lev_sb_ge (σ := σ) u) (by rw [e]; exact hl)
  have p0 := put_eq (ps := ps) k t (Nat.le_trans (low rfl) hk) ht
  have hm : ∃ m, ∀ y ∈ t.opens, look ps y ≠ none → r y < m := by
    have : ∀ l : List (List Nat), ∃ m, ∀ y ∈ l, r y < m := fun l => by
      induction l with
      | nil => exact ⟨0, fun _ h => nomatch h⟩
      | cons a l ih =>
        obtain ⟨m, hm⟩ := ih
        refine ⟨m + r a + 1, fun y hy => ?_⟩
        rcases List.mem_cons.mp hy with rfl | hy
        · omega
        · have := hm y hy; omega
    obtain ⟨m, hm⟩ := this t.opens
    exact ⟨m, fun y hy _ => hm y hy⟩
  obtain ⟨m, hm⟩ := hm
  simp [cWholeOf, p0]
  refine whl_wp (WholeP ps O r (sb σ t) σ) ?_ (m := m) ⟨t, rfl, ht, ho, rfl, hm⟩
  rintro m env ⟨u, rfl, hu, hou, hg, hr⟩
  obtain ⟨f1, f2⟩ := fit_ok K hu hou
  have fg := fit_go K u
  have l1 := low hg
  have l2 := low (fg.trans hg)
  have e := eq_tms f1 (by omega : (sb (fitOf ps) u).lev ≤ 60) hu (by omega)
  by_cases hq : sb (fitOf ps) u = u
  · have hend : u = sb σ t := by
      rw [← hg]
      refine (sb_same u fun y hy => ?_).symm
      have h1 := sb_same_iff u hq y hy
      cases el : look ps y with
      | none => exact K.tri.nn y el
      | some v =>
        have : fitOf ps y = v := by simp [fitOf, el]
        rw [this] at h1
        subst h1
        have := K.tri.rk y _ el y (by simp [Tm.opens])
        omega
    rw [hq] at e
    simp [hq, e]
    rw [hend]
  · simp [e, hq]
    have p1 := put_eq (ps := ps) k _ (Nat.le_trans l2 hk) f1
    simp [p1]
    have hm0 : ∃ y ∈ u.opens, look ps y ≠ none := Classical.byContradiction fun z => hq (sb_same u fun y hy => by
      have : look ps y = none := Classical.byContradiction fun z' => z ⟨y, hy, z'⟩
      simp [fitOf, this])
    obtain ⟨y0, hy0, hl0⟩ := hm0
    have := hr y0 hy0 hl0
    refine ⟨m - 1, by omega, _, rfl, f1, f2, fg.trans hg, fun y hy hly => ?_⟩
    obtain ⟨z, hz, hyz⟩ := (sb_opens u).mp hy
    cases el : look ps z with
    | none =>
      rw [show fitOf ps z = .op z by simp [fitOf, el]] at hyz
      simp [Tm.opens] at hyz
      subst hyz
      exact absurd el hly
    | some v =>
      rw [show fitOf ps z = v by simp [fitOf, el]] at hyz
      have h1 := K.tri.rk z v el y hyz
      have h2 := hr z hz (by rw [el]; simp)
      omega
end
def resU (ps : Kn) (σ : List Nat → Tm) : List D := (sortT (ps.map (·.1))).map fun s => D.tup [.str s, (σ s).d]
/-- what joined gives back -/
def JA (O N : List (List Nat)) (a b : Tm) (v : Va) : Prop := (v = .d .non ∧ ∀ θ, sb θ a ≠ sb θ b) ∨
  ∃ ps r σ, Knw O N ps r σ ∧ v = .d (.tup (resU ps σ)) ∧ ∀ θ, Sat ps θ ↔ sb θ a = sb θ b
theorem joined_wp {O N : List (List Nat)} (sub : ∀ x ∈ O, x ∈ N) (few : N.length ≤ 6) (ops : ∀ x ∈ O, Op x) {a b : Tm} (ha : Ind O a) (hb : Ind O b) {k : Nat} (hk : 60 ≤ k) :
    wp (Mn.call tab (k + 1) 6 [.d a.d, .d b.d]) fun v us => us = [.d a.d, .d b.d] ∧ JA O N a b v := by
  rw [call_run (x := "joined") rfl rfl]
  simp [cJoined]
  refine wp_imp (join_wp (N := N) k a b [] _ _ (knw_nil sub few ops) ha hb fun qs r' σ' K' _ => by have := K'.levI ha; omega) fun v us ⟨bb, qs, e1, e2, j⟩ => ?_
  subst e1 e2
  cases bb with
  | false =>
    simp
    exact .inl ⟨rfl, fun θ => j.no rfl θ (sat_nil θ)⟩
  | true =>
    obtain ⟨⟨r, σ, K⟩, _, hs⟩ := j.yes rfl
    have hlen := K.len
    have hkk : (sortT (qs.map (·.1))).length ≤ 12 := by
      rw [(sortT_perm _).length_eq, List.length_map]
      omega
    obtain ⟨k', rfl⟩ : ∃ k', k = k' + 1 := ⟨k - 1, by omega⟩
    have comp : compL (turnS (Mn.call tab (k' + 1)) tab.con (.one 3) .nil (.tup (.cons (.var 3) (.cons (.cf 5 (.cons (.sub (.var 2) (.var 3)) (.cons (.var 2) .nil))) .nil)))) [3] ((sortT (qs.map (·.1))).map D.str) [some (.d a.d), some (.d b.d), some (.dc (kvD qs)), none] [] = some (resU qs σ, [some (.d a.d), some (.d b.d), some (.dc (kvD qs)), none]) := by
      refine (compL_map (f := D.str) (g := fun s => D.tup [.str s, (σ s).d]) (fun s hs => ?_) (by rw [sz]; simp; omega)).trans (by simp [resU])
      have hs' : s ∈ qs.map (·.1) := (sortT_perm _).mem_iff.mp hs
      cases el : look qs s with
      | none => exact absurd hs' (look_none.mp el)
      | some u =>
        have hu := K.vals _ (look_mem el)
        obtain ⟨v, us, e, rfl, rfl⟩ := whole_wp K hu.ok hu.opens (K.levI hu) (k := k') (by omega)
        rw [← K.tri.ss s u el] at e
        exact ⟨[some (.d a.d), some (.d b.d), some (.dc (kvD qs)), some (.d (.str s))], by simp [turnS, item_kvS el, e, sz], by simp [wipeS]⟩
    simp [sorted_kvU (show qs.length ≤ 12 by omega), wipeS, comp]
    exact .inr ⟨qs, r, σ, K, rfl, fun θ => (hs θ).trans ⟨fun h => h.2, fun h => ⟨sat_nil θ, h⟩⟩⟩
/-! ### the law's own: made, the open parts told -/
/-- a dict, its own or laid -/
def Kd (w : Va) (ps : Kn) : Prop := w = .dc (kvD ps) ∨ w = .d (.dct (ps.map (·.1)) (ps.map fun q => q.2.d))
theorem zip_kv (ps : Kn) : (ps.map (·.1)).zip (ps.map fun q => q.2.d) = kvD ps := by
  unfold kvD
  induction ps with
  | nil => rfl
  | cons q ps ih => simp [ih]
theorem made_eq {ps : Kn} {x : Va} (hx : Kd x ps) : ∀ (k : Nat) (t : Tm), t.lev ≤ k → TmOk t → Mn.call tab k 13 [.d t.d, x] = some (.d (sb (fitOf ps) t).d, [.d t.d, x])
  | 0, t, h, _ => by have := t.lev_pos; omega
  | k + 1, t, h, ht => by
    rw [call_run (x := "_law_made") rfl rfl]
    cases t with
    | op s =>
      have e : ∀ (y0 y2 : Option Va), dictAt [y0, some x, y2] 1 = some (kvD ps) := fun y0 y2 => by
        rcases hx with rfl | rfl
        · rfl
        · show some _ = _
          rw [zip_kv]
      have e2 : ∀ (y0 y2 : Option Va), dg2S [y0, some x, y2] 1 (.str s) (.str s) = some (.d (fitOf ps s).d, [y0, some x, y2]) := fun y0 y2 => by
        unfold dg2S
        rw [e]
        show some (Va.d ((keyOf (kvD ps) s).getD (.str s)), _) = _
        rw [key_look]
        unfold fitOf
        cases look ps s <;> rfl
      rcases hx with rfl | rfl
      · simp [cLawMade, Tm.d, tnS, e, e2, sb]
      · simp [cLawMade, Tm.d, tnS, e, e2, sb]
    | nd w ts =>
      have hl : levT ts ≤ k := by simp only [Tm.lev] at h; omega
      have h6 := ht.2.1
      have hc : compL (turnS (Mn.call tab k) tab.con (.one 2) .nil (.cf 13 (.cons (.var 2) (.cons (.var 1) .nil)))) [2] (dsT ts) [some (.d (.tup (.str w :: dsT ts))), some x, none] [] = some (dsT (sbs (fitOf ps) ts), [some (.d (.tup (.str w :: dsT ts))), some x, none]) := by
        rw [sbs_map, dsT_map (ts.map (sb (fitOf ps))), List.map_map]
        rw [dsT_map]
        refine (compL_map (g := Tm.d ∘ sb (fitOf ps)) (fun t ht' => ?_) (by rw [sz]; simp; omega)).trans (by simp)
        have ih := made_eq hx k t (Nat.le_trans (levT_mem ht') hl) (okTs_mem ht.2.2 ht')
        rcases hx with rfl | rfl
        · exact ⟨[some (.d (.tup (.str w :: ts.map Tm.d))), some (.dc (kvD ps)), some (.d t.d)], by simp [turnS, ih, putArgs], by simp [wipeS]⟩
        · exact ⟨[some (.d (.tup (.str w :: ts.map Tm.d))), some (.d (.dct (ps.map (·.1)) (ps.map fun q => q.2.d))), some (.d t.d)], by simp [turnS, ih, putArgs], by simp [wipeS]⟩
      have hlen : (dsT (sbs (fitOf ps) ts)).length ≤ 6 := by rw [dsT_map, List.length_map, sbs_map, List.length_map]; exact h6
      have hcut : Mn.cut (D.str w :: dsT ts) none (some 1) = [D.str w] := by
        rw [cut_pre _ (by decide)]
        rfl
      rcases hx with rfl | rfl
      · simp [cLawMade, Tm.d, tnS, cut_tail, hc, wipeS, hcut, sz, sb, show 1 + (dsT (sbs (fitOf ps) ts)).length ≤ 16777216 by omega, show (dsT (sbs (fitOf ps) ts)).length + 1 ≤ 16777216 by omega]
      · simp [cLawMade, Tm.d, tnS, cut_tail, hc, wipeS, hcut, sz, sb, show 1 + (dsT (sbs (fitOf ps) ts)).length ≤ 16777216 by omega, show (dsT (sbs (fitOf ps) ts)).length + 1 ≤ 16777216 by omega]
def InP (t : Tm) (ts : List Tm) (i : Nat) (env : Mn.Env) : Prop := ∃ o2, env = [some (.d t.d), some (.ls ((opensT (ts.take i)).map D.str)), o2]
theorem in_eq : ∀ (k : Nat) (t : Tm), t.lev ≤ k → t.opens.length ≤ 16777216 → Mn.call tab k 14 [.d t.d] = some (.ls (t.opens.map D.str), [.d t.d])
  | 0, t, h, _ => by have := t.lev_pos; omega
  | k + 1, t, h, ho => by
    rw [call_run (x := "_law_opens_in") rfl rfl]
    cases t with
    | op s => simp [cLawOpensIn, Tm.d, tnS, sz, Tm.opens]
    | nd w ts =>
      have hl : levT ts ≤ k := by simp only [Tm.lev] at h; omega
      suffices hh : wp (bnd (exB (Mn.call tab k) tab.con cLawOpensIn [some (.d (Tm.nd w ts).d), none, none]) fun f e => retF [0] [.d (Tm.nd w ts).d] f e) fun a b => a = .ls ((Tm.nd w ts).opens.map D.str) ∧ b = [.d (Tm.nd w ts).d] by
        obtain ⟨a, b, e, rfl, rfl⟩ := hh
        exact e
      simp [cLawOpensIn, tnS_nd, sz]
      have hs : (.d (Tm.nd w ts).d : Va) = .d (.tup (.str w :: dsT ts)) := rfl
      rw [hs]
      simp [cut_tail]
      refine forL_wp (InP (.nd w ts) ts) ?_ ⟨none, by simp [opensT]; rfl⟩ ?_
      · rintro i x env hx ⟨o2, rfl⟩
        obtain ⟨t, h1, rfl⟩ : ∃ t, ts[i]? = some t ∧ x = t.d := by
          rw [dsT_map, List.getElem?_map] at hx
          simp only [Option.map_eq_some_iff] at hx
          obtain ⟨t, e1, e2⟩ := hx
          exact ⟨t, e1, e2.symm⟩
        have mt := List.mem_of_getElem? h1
        have hot : opensT (ts.take (i + 1)) = opensT (ts.take i) ++ t.opens := by
          rw [List.take_succ, h1, opensT_app]
          simp [opensT]
        have hle : (opensT (ts.take (i + 1))).length ≤ (opensT ts).length := by
          conv => rhs; rw [← List.take_append_drop (i + 1) ts, opensT_app]
          rw [List.length_append]
          omega
        have hle2 : (opensT (ts.take (i + 1))).length = (opensT (ts.take i)).length + t.opens.length := by rw [hot, List.length_append]
        simp only [Tm.opens] at ho
        have ih := in_eq k t (Nat.le_trans (levT_mem mt) hl) (by omega)
        simp [forS, ih, sz, show (opensT (ts.take i)).length + t.opens.length ≤ 16777216 by omega]
        exact ⟨_, by rw [hot, List.map_append]⟩
      · rintro env ⟨o2, rfl⟩
        have hlt : (dsT ts).length = ts.length := dsT_len ts
        rw [hlt, List.take_length]
        simp [Tm.opens]
end K07
namespace K07
open PySem L2 Mn
/-! ### the law's own: equation by equation -/
def clf (ps : Kn) (g : List Nat → Tm) : Kn := ps.map fun q => (q.1, g q.1)
theorem clf_keys (ps : Kn) (g : List Nat → Tm) : (clf ps g).map (·.1) = ps.map (·.1) := by
  unfold clf
  rw [List.map_map]
  rfl
theorem look_clf (ps : Kn) (g : List Nat → Tm) (s : List Nat) : look (clf ps g) s = (look ps s).map fun _ => g s := by
  induction ps with
  | nil => rfl
  | cons q ps ih =>
    obtain ⟨a, u⟩ := q
    show look ((a, g a) :: clf ps g) s = _
    by_cases h : a = s
    · subst h
      simp [look]
    · simp [look, h, ih]
theorem fit_cl {O N : List (List Nat)} {ps : Kn} {r : List Nat → Nat} {σ : List Nat → Tm} (K : Knw O N ps r σ) : fitOf (clf ps σ) = σ := by
  funext s
  unfold fitOf
  rw [look_clf]
  cases e : look ps s with
  | none => exact (K.tri.nn s e).symm
  | some u => rfl
theorem put_clf {ps : Kn} {g : List Nat → Tm} {y : List Nat} (h : y ∈ ps.map (·.1)) (u : Tm) : putKey (kvD (clf ps g)) y u.d = kvD (clf ps fun z => if z = y then u else g z) := by
  have hk : ((kvD (clf ps g)).any fun p => decide (p.1 = y)) = true := by
    obtain ⟨p, hp, e⟩ := List.mem_map.mp h
    refine List.any_eq_true.mpr ⟨(p.1, (g p.1).d), ?_, by simp [e]⟩
    unfold kvD clf
    rw [List.map_map]
    exact List.mem_map.mpr ⟨p, hp, rfl⟩
  rw [putKey, if_pos hk]
  unfold kvD clf
  rw [List.map_map, List.map_map, List.map_map]
  refine List.map_congr_left fun p hp => ?_
  simp only [Function.comp]
  split <;> rfl
/-- two terms that are to be the same, with what they come of -/
structure Pr where
  x : Tm
  y : Tm
  a : Tm
  b : Tm
  d : Nat
def prU (p : Pr) : D := .tup [p.x.d, p.y.d]
structure Ent (O : List (List Nat)) (ps : Kn) (a0 : Tm) (p : Pr) : Prop where
  okx : TmOk p.x
  oky : TmOk p.y
  ia : Ind O p.a
  ib : Ind O p.b
  ex : ∀ θ, Sat ps θ → sb θ p.x = sb θ p.a
  ey : ∀ θ, Sat ps θ → sb θ p.y = sb θ p.b
  dp : ∀ θ, Sat ps θ → p.d + (sb θ p.x).lev ≤ (sb θ a0).lev
theorem Ent.up {O : List (List Nat)} {ps qs : Kn} {a0 : Tm} {p : Pr} (e : Ent O ps a0 p) (u : Ups ps qs) : Ent O qs a0 p :=
  ⟨e.okx, e.oky, e.ia, e.ib, fun θ h => e.ex θ (u.sat h), fun θ h => e.ey θ (u.sat h), fun θ h => e.dp θ (u.sat h)⟩
def meas (σ : List Nat → Tm) (stk : List Pr) : Nat := (stk.map fun p => (sb σ p.x).parts).sum
theorem meas_app (σ : List Nat → Tm) (a b : List Pr) : meas σ (a ++ b) = meas σ a + meas σ b := by simp [meas]
def big : Nat := 12549703400
def KnP (O N : List (List Nat)) (a0 b0 : Tm) (m : Nat) (env : Mn.Env) : Prop :=
  ∃ (ps : Kn) (r : List Nat → Nat) (σ : List Nat → Tm) (stk : List Pr) (o4 o5 o6 : Option Va), env = [some (.d a0.d), some (.d b0.d), some (.dc (kvD (clf ps σ))), some (.ls (stk.map prU)), o4, o5, o6] ∧ Knw O N ps r σ ∧
    (∀ p ∈ stk, Ent O ps a0 p) ∧ (∀ i p, stk[i]? = some p → i ≤ 6 * p.d) ∧ (∀ θ, sb θ a0 = sb θ b0 ↔ Sat ps θ ∧ ∀ p ∈ stk, sb θ p.x = sb θ p.y) ∧ m = (6 - ps.length) * big + meas σ stk
section
variable {O N : List (List Nat)} {ps : Kn} {r : List Nat → Nat} {σ : List Nat → Tm} (K : Knw O N ps r σ)
include K
theorem meas_le {a0 : Tm} : ∀ {stk : List Pr}, (∀ p ∈ stk, Ent O ps a0 p) → meas σ stk ≤ stk.length * 62748517
  | [], _ => by simp [meas]
  | p :: stk, h => by
    have h1 := meas_le (stk := stk) fun q hq => h q (List.mem_cons_of_mem _ hq)
    have hp := h p List.mem_cons_self
    have h2 := K.partsI hp.ia
    rw [← hp.ex σ K.tri.sat] at h2
    simp only [meas, List.map_cons, List.sum_cons, List.length_cons] at h1 ⊢
    omega
theorem stk_len {a0 : Tm} (h0 : Ind O a0) {stk : List Pr} (he : ∀ p ∈ stk, Ent O ps a0 p) (hp : ∀ i p, stk[i]? = some p → i ≤ 6 * p.d) : stk.length ≤ 175 := by
  rcases List.eq_nil_or_concat stk with rfl | ⟨st, p, rfl⟩
  · simp
  · have h1 := hp st.length p (by simp)
    have h2 := (he p (by simp)).dp σ K.tri.sat
    have h3 := K.levI h0
    have := (sb σ p.x).lev_pos
    simp only [List.concat_eq_append, List.length_append, List.length_cons, List.length_nil]
    omega
end
def knRest : CS := (.ite (.and (.cons (.isi (.var 4) [.str]) (.cons (.cmp .NotEq (.var 4) (.var 5)) .nil))) (.cons (.ite (.cmp .In (.var 4) (.cf 14 (.cons (.var 5) .nil))) (.cons (.ret (.lit .non)) .nil) .nil) (.cons (.for_ (.one 6) (.it (.keysL 2)) (.cons (.setI 2 (.var 6) (.cf 13 (.cons (.sub (.var 2) (.var 6)) (.cons (.dl1 (.var 4) (.var 5)) .nil)))) .nil)) (.cons (.setI 2 (.var 4) (.var 5)) .nil))) (.cons (.ite (.cmp .NotEq (.var 4) (.var 5)) (.cons (.ite (.or (.cons (.cmp .NotEq (.sub (.var 4) (.lit (.int 0))) (.sub (.var 5) (.lit (.int 0)))) (.cons (.cmp .NotEq (.cb .len (.cons (.var 4) .nil)) (.cb .len (.cons (.var 5) .nil))) .nil))) (.cons (.ret (.lit .non)) .nil) .nil) (.cons (.ext 3 (.lzip (.cons (.slc (.var 4) (.some (.lit (.int 1))) .none) (.cons (.slc (.var 5) (.some (.lit (.int 1))) .none) .nil)))) .nil)) .nil) .nil))
theorem known_split : cLawKnown = (.cons (.asg 2 .dnew) (.cons (.asg 3 (.lst (.cons (.tup (.cons (.var 0) (.cons (.var 1) .nil))) .nil))) (.cons (.whl (.cmp .NotEq (.var 3) (.lst .nil)) (.cons (.asgT [4, 5] (.popV 3)) (.cons (.asg 4 (.cf 13 (.cons (.var 4) (.cons (.var 2) .nil)))) (.cons (.asg 5 (.cf 13 (.cons (.var 5) (.cons (.var 2) .nil)))) (.cons (.ite (.and (.cons (.isi (.var 5) [.str]) (.cons (.not (.isi (.var 4) [.str])) .nil))) (.cons (.par 4 5 (.var 5) (.var 4)) .nil) .nil) (.cons knRest .nil)))))) (.cons (.ret (.var 2)) .nil)))) := rfl
def UpP (ps : Kn) (σ τ : List Nat → Tm) (v0 v1 v3 v4 v5 : Option Va) (i : Nat) (env : Mn.Env) : Prop :=
  ∃ (g : List Nat → Tm) (o6 : Option Va), env = [v0, v1, some (.dc (kvD (clf ps g))), v3, v4, v5, o6] ∧ ∀ j q, ps[j]? = some q → g q.1 = if j < i then τ q.1 else σ q.1
theorem zip_prU : ∀ (ts us : List Tm) (A B : List Tm) (d : Nat), ts.length = us.length → ts.length = A.length → us.length = B.length → zipD (dsT ts) (dsT us) = ((((ts.zip us).zip (A.zip B)).map fun q => (⟨q.1.1, q.1.2, q.2.1, q.2.2, d⟩ : Pr))).map prU
  | [], [], [], [], d, _, _, _ => rfl
  | t :: ts, u :: us, a :: A, b :: B, d, h1, h2, h3 => by
    simp only [dsT, zipD, List.zip_cons_cons, List.map_cons]
    rw [zip_prU ts us A B d (by simpa using h1) (by simpa using h2) (by simpa using h3)]
    rfl
  | [], _ :: _, _, _, _, h, _, _ => by simp at h
  | _ :: _, [], _, _, _, h, _, _ => by simp at h
  | _ :: _, _, [], _, _, _, h, _ => by simp at h
  | [], _, _ :: _, _, _, _, h, _ => by simp at h
  | _, _ :: _, _, [], _, _, _, h => by simp at h
  | _, [], _, _ :: _, _, _, _, h => by simp at h
section
variable {O N : List (List Nat)} {ps : Kn} {r : List Nat → Nat} {σ : List Nat → Tm} (K : Knw O N ps r σ)
include K
theorem one_more {s : List Nat} {fa sa : Tm} (hF : sb σ fa = .op s) (ifa : Ind O fa) (isa : Ind O sa) (hn : s ∉ (sb σ sa).opens) : s ∉ ps.map (·.1) ∧ s ∈ O ∧ ∃ r' σ', Knw O N (ps ++ [(s, sa)]) r' σ' ∧ σ' s = sb σ sa ∧ ∀ y, look ps y ≠ none → σ' y = sb (fitOf [(s, sb σ sa)]) (σ y) := by
  have hso : s ∈ (sb σ fa).opens := by rw [hF]; simp [Tm.opens]
  have hl := K.tri.frt hso
  have hsO := (K.okt ifa).2 s hso
  have hk := look_none.mp hl
  obtain ⟨r', σ', K'⟩ := K.add hk hsO isa hn
  have up : Ups ps (ps ++ [(s, sa)]) := fun y u h => look_up hk h
  have hs : σ' s = sb σ sa := by
    have h1 := K'.tri.ss s sa (by rw [look_app hk, if_pos rfl])
    rw [h1, ← up.sb K.tri K'.tri]
    refine sb_same _ fun y hy => K'.tri.nn y ?_
    rw [look_app hk, if_neg (show ¬ s = y from fun z => hn (z ▸ hy))]
    exact K.tri.frt hy
  refine ⟨hk, hsO, r', σ', K', hs, fun y hy => ?_⟩
  have h1 := up.sb K.tri K'.tri (.op y)
  rw [sb_op, sb_op] at h1
  rw [← h1]
  refine sb_ext _ fun z hz => ?_
  have hzl := K.tri.fr hz
  by_cases e : s = z
  · subst e
    rw [hs]
    simp [fitOf, look]
  · rw [K'.tri.nn z (by rw [look_app hk, if_neg e]; exact hzl)]
    simp [fitOf, look, e]
theorem rest_wp {a0 b0 F S fa sa : Tm} {st : List Pr} {d pp m k : Nat} {o6 : Option Va} (hk : 31 ≤ k) (h0 : Ind O a0) (hst : ∀ p ∈ st, Ent O ps a0 p) (hpos : ∀ i p, st[i]? = some p → i ≤ 6 * p.d) (hsl : st.length ≤ 6 * d)
    (hm : m = (6 - ps.length) * big + (meas σ st + pp)) (hpp : 1 ≤ pp) (ifa : Ind O fa) (sfa : Std ps fa) (isa : Ind O sa) (ssa : Std ps sa) (hF : sb σ fa = F) (hS : sb σ sa = S)
    (heq : ∀ θ, sb θ a0 = sb θ b0 ↔ Sat ps θ ∧ (∀ p ∈ st, sb θ p.x = sb θ p.y) ∧ sb θ F = sb θ S) (hso : ∀ z, S = .op z → ∃ z', F = .op z')
    (hd : ∀ w ts, F = .nd w ts → F.parts ≤ pp ∧ ∀ θ, Sat ps θ → d + (sb θ F).lev ≤ (sb θ a0).lev) :
    wp (exS (Mn.call tab k) tab.con knRest [some (.d a0.d), some (.d b0.d), some (.dc (kvD (clf ps σ))), some (.ls (st.map prU)), some (.d F.d), some (.d S.d), o6]) fun f e => (f = .nx ∧ ∃ m', m' < m ∧ KnP O N a0 b0 m' e) ∨ (f = .rt (.d .non) ∧ ∀ θ, sb θ a0 ≠ sb θ b0) := by
  have okF : TmOk F := hF ▸ (K.okt ifa).1
  have okS : TmOk S := hS ▸ (K.okt isa).1
  have lF : F.lev ≤ 29 := hF ▸ K.levI ifa
  have lS : S.lev ≤ 29 := hS ▸ K.levI isa
  have lop : S.opens.length ≤ 4826809 := hS ▸ K.few_opens isa
  have eFS := eq_tms okF (by omega : F.lev ≤ 60) okS (by omega)
  have eSlen := stk_len K h0 hst hpos
  by_cases hq : F = S
  · subst hq
    have done : wp (some ((Fl.nx, [some (.d a0.d), some (.d b0.d), some (.dc (kvD (clf ps σ))), some (.ls (st.map prU)), some (.d F.d), some (.d F.d), o6]) : Fl × Mn.Env)) fun f e => (f = .nx ∧ ∃ m', m' < m ∧ KnP O N a0 b0 m' e) ∨ (f = .rt (.d .non) ∧ ∀ θ, sb θ a0 ≠ sb θ b0) := by
      rw [wp_some]
      refine .inl ⟨rfl, _, ?_, ps, r, σ, st, _, _, _, rfl, K, hst, hpos, fun θ => (heq θ).trans ⟨fun h => ⟨h.1, h.2.1⟩, fun h => ⟨h.1, h.2, rfl⟩⟩, rfl⟩
      omega
    simp at done eFS
    cases F with
    | op z =>
      simp [knRest, tnS_op, eFS]
      exact done
    | nd w ts =>
      simp [knRest, tnS_nd, eFS]
      exact done
  · simp [hq] at eFS
    cases F with
    | op s =>
      have hin := in_eq k S (by omega) (by omega)
      have hopF : Op s := okF
      have hins := in_strs s S.opens hopF.1.1 (opens_asc S okS)
      by_cases hsS : s ∈ S.opens
      · simp [hsS] at hins
        simp [knRest, tnS_op, eFS, hin]
        simp only [Tm.d]
        simp [hins]
        refine fun θ h => ?_
        obtain ⟨g1, _, g3⟩ := (heq θ).mp h
        cases S with
        | op z =>
          simp [Tm.opens] at hsS
          exact hq (by rw [hsS])
        | nd w us =>
          cases sa with
          | op z =>
            have := K.tri.nn z (ssa z rfl)
            rw [sb_op, this] at hS
            cases hS
          | nd w' us' =>
            have := K.occurs (by rw [hS]; exact hsS) g1
            rw [K.tri.via g1 (.nd w' us') |>.symm, hS] at this
            exact this g3
      · obtain ⟨hk1, hsO, r', σ', K', hs', hτ⟩ := one_more K hF ifa isa (by rw [hS]; exact hsS)
        rw [hS] at hs' hτ
        have hlen := K.len
        have hlen' := K'.len
        simp only [List.length_append, List.length_cons, List.length_nil] at hlen'
        have hkl : ∀ g, (kvD (clf ps g)).length = ps.length := fun g => by simp [kvD, clf]
        simp [hsS] at hins
        have hks : ((kvD (clf ps σ)).map fun p => D.str p.1) = (ps.map (·.1)).map D.str := by
          unfold kvD clf
          simp
        simp [knRest, tnS_op, eFS, hin]
        simp only [Tm.d]
        simp [hins, keysLS]
        rw [show List.map ((fun p : List Nat × D => D.str p.1)) (kvD (clf ps σ)) = (ps.map (·.1)).map D.str from hks]
        refine forL_wp (UpP ps σ σ' (some (.d a0.d)) (some (.d b0.d)) (some (.ls (st.map prU))) (some (.d (.str s))) (some (.d S.d))) ?_ ⟨σ, _, rfl, fun j q hj => by simp⟩ ?_
        · rintro i x env hx ⟨g, o6', rfl, hg⟩
          obtain ⟨q, h1, rfl⟩ : ∃ q, ps[i]? = some q ∧ x = .str q.1 := by
            rw [List.getElem?_map, List.getElem?_map] at hx
            simp only [Option.map_eq_some_iff] at hx
            obtain ⟨a, ⟨b, e0, rfl⟩, e2⟩ := hx
            exact ⟨b, e0, e2.symm⟩
          have hqm := List.mem_of_getElem? h1
          have hqk : q.1 ∈ ps.map (·.1) := List.mem_map.mpr ⟨q, hqm, rfl⟩
          have hgq : g q.1 = σ q.1 := by
            have := hg i q h1
            simpa using this
          have hlq : look ps q.1 ≠ none := fun z => look_none.mp z hqk
          have hit : itemS (.dc (kvD (clf ps g))) (.d (.str q.1)) = some (.d (σ q.1).d) := by
            refine item_kvS ?_
            rw [look_clf, hgq]
            cases el : look ps q.1 with
            | none => exact absurd el hlq
            | some u => rfl
          have hok := (K.ok _ q.1 (Nat.lt_succ_self _) (K.keys q hqm)).1
          have hmd := made_eq (ps := [(s, S)]) (x := .dc [(s, S.d)]) (.inl rfl) k (σ q.1) (by have := K.lev q.1; omega) hok
          rw [← hτ q.1 hlq] at hmd
          simp [forS, hit, hmd, put_clf hqk, setV, sz, hkl, show ps.length < 16777216 by omega]
          refine ⟨_, _, rfl, fun j p hj => ?_⟩
          by_cases e : p.1 = q.1
          · have hij : j = i := by
              have a1 : (ps.map (·.1))[j]? = some p.1 := by rw [List.getElem?_map, hj]; rfl
              have a2 : (ps.map (·.1))[i]? = some q.1 := by rw [List.getElem?_map, h1]; rfl
              have l1 := (List.getElem?_eq_some_iff.mp a1).1
              exact (List.getElem?_inj l1 K.nodup).mp (by rw [a1, a2, e])
            rw [if_pos e, if_pos (by omega), e]
          · have hij : j ≠ i := fun z => e (by subst z; rw [h1] at hj; cases hj; rfl)
            rw [if_neg e, hg j p hj]
            by_cases c : j < i
            · rw [if_pos c, if_pos (by omega)]
            · rw [if_neg c, if_neg (by omega)]
        · rintro env ⟨g, o6', rfl, hg⟩
          have hlp : ((ps.map (·.1)).map D.str).length = ps.length := by simp
          rw [hlp] at hg
          have hgc : clf ps g = clf ps σ' := by
            unfold clf
            refine List.map_congr_left fun q hq' => ?_
            obtain ⟨j, hj, e⟩ := List.getElem_of_mem hq'
            have := hg j q (by rw [List.getElem?_eq_getElem hj, e])
            rw [if_pos hj] at this
            rw [this]
          have hkn : s ∉ (clf ps σ').map (·.1) := by rw [clf_keys]; exact hk1
          have hpn : putKey (kvD (clf ps σ')) s S.d = kvD (clf (ps ++ [(s, sa)]) σ') := by
            rw [put_new hkn S]
            unfold clf
            rw [List.map_append, List.map_singleton, hs']
          rw [hgc]
          simp [hpn, setV, sz, hkl, show ps.length < 16777216 by omega]
          have up : Ups ps (ps ++ [(s, sa)]) := fun y u h => look_up hk1 h
          have hst' : ∀ p ∈ st, Ent O (ps ++ [(s, sa)]) a0 p := fun p hp => (hst p hp).up up
          refine ⟨(6 - (ps ++ [(s, sa)]).length) * big + meas σ' st, ?_, ps ++ [(s, sa)], r', σ', st, _, _, _, rfl, K', hst', hpos, fun θ => ?_, rfl⟩
          · have h9 := meas_le K' hst'
            have h8 : st.length * 62748517 ≤ 175 * 62748517 := Nat.mul_le_mul_right _ eSlen
            obtain ⟨c, hc⟩ : ∃ c, 6 - ps.length = c + 1 := ⟨5 - ps.length, by omega⟩
            have hc' : 6 - (ps ++ [(s, sa)]).length = c := by
              simp only [List.length_append, List.length_cons, List.length_nil]
              omega
            rw [hm, hc, hc', Nat.succ_mul]
            have hb : big = 12549703400 := rfl
            omega
          · rw [heq, sat_add hk1]
            have e2 : ∀ {θ}, Sat ps θ → sb θ S = sb θ sa := fun {θ} h => by rw [← hS]; exact K.tri.via h sa
            constructor
            · rintro ⟨h1, h2, h3⟩
              exact ⟨⟨h1, h3.trans (e2 h1)⟩, h2⟩
            · rintro ⟨⟨h1, h3⟩, h2⟩
              exact ⟨h1, h2, h3.trans (e2 h1).symm⟩
    | nd w ts =>
      cases S with
      | op z =>
        obtain ⟨z', h⟩ := hso z rfl
        cases h
      | nd v us =>
        have eqw := eq_ss okF.1.1.1 okS.1.1.1
        have hlt : (dsT ts).length = ts.length := dsT_len ts
        have hlu : (dsT us).length = us.length := dsT_len us
        have h6 := okF.2.1
        have hbad : ¬ (w = v ∧ ts.length = us.length) → ∀ θ, sb θ a0 ≠ sb θ b0 := fun z θ h => z (by
          have h' := ((heq θ).mp h).2.2
          rw [sb_nd, sb_nd, Tm.nd.injEq] at h'
          refine ⟨h'.1, ?_⟩
          have h2 := congrArg List.length h'.2
          rwa [List.length_map, List.length_map] at h2)
        simp only [Tm.d] at eFS
        by_cases hw : w = v
        · by_cases hn : ts.length = us.length
          · subst hw
            obtain ⟨A, hA⟩ : ∃ A, fa = .nd w A ∧ A.map (sb σ) = ts := by
              cases fa with
              | op z =>
                have := K.tri.nn z (sfa z rfl)
                rw [sb_op, this] at hF
                cases hF
              | nd w' A =>
                rw [sb_nd] at hF
                cases hF
                exact ⟨A, rfl, rfl⟩
            obtain ⟨B, hB⟩ : ∃ B, sa = .nd w B ∧ B.map (sb σ) = us := by
              cases sa with
              | op z =>
                have := K.tri.nn z (ssa z rfl)
                rw [sb_op, this] at hS
                cases hS
              | nd w' B =>
                rw [sb_nd] at hS
                cases hS
                exact ⟨B, rfl, rfl⟩
            obtain ⟨rfl, hA⟩ := hA
            obtain ⟨rfl, hB⟩ := hB
            have lA : ts.length = A.length := by rw [← hA, List.length_map]
            have lB : us.length = B.length := by rw [← hB, List.length_map]
            obtain ⟨nw, hnw⟩ : ∃ nw : List Pr, nw = ((ts.zip us).zip (A.zip B)).map fun q => (⟨q.1.1, q.1.2, q.2.1, q.2.2, d + 1⟩ : Pr) := ⟨_, rfl⟩
            have hz : zipN [.d (.tup (dsT ts)), .d (.tup (dsT us))] = some (.ls (nw.map prU)) := by
              rw [zipn_t (by omega), zip_prU ts us A B (d + 1) hn lA lB, hnw]
            have hnl : nw.length = ts.length := by
              rw [hnw]
              simp
              omega
            have hget : ∀ {p}, p ∈ nw → ∃ i u1 u2, A[i]? = some u1 ∧ B[i]? = some u2 ∧ p = ⟨sb σ u1, sb σ u2, u1, u2, d + 1⟩ := fun {p} hp => by
              rw [hnw] at hp
              obtain ⟨⟨⟨c1, c2⟩, u1, u2⟩, hq', rfl⟩ := List.mem_map.mp hp
              obtain ⟨i, hi⟩ := List.getElem?_of_mem hq'
              rw [List.getElem?_zip_eq_some, List.getElem?_zip_eq_some, List.getElem?_zip_eq_some, ← hA, ← hB, List.getElem?_map, List.getElem?_map] at hi
              obtain ⟨⟨g1, g2⟩, g3, g4⟩ := hi
              simp only at g1 g2 g3 g4
              rw [g3] at g1
              rw [g4] at g2
              cases g1
              cases g2
              exact ⟨i, u1, u2, g3, g4, rfl⟩
            have hall : ∀ θ, Sat ps θ → ((∀ p ∈ nw, sb θ p.x = sb θ p.y) ↔ sb θ (.nd w ts) = sb θ (.nd w us)) := fun θ hθ => by
              rw [sb_nd, sb_nd, Tm.nd.injEq]
              constructor
              · intro h
                refine ⟨rfl, List.ext_getElem (by simp [hn]) fun i hi1 hi2 => ?_⟩
                rw [List.length_map] at hi1 hi2
                rw [List.getElem_map, List.getElem_map]
                have hiA : i < A.length := by rw [← lA]; exact hi1
                have hiB : i < B.length := by rw [← lB]; exact hi2
                have hin : (⟨ts[i], us[i], A[i], B[i], d + 1⟩ : Pr) ∈ nw := by
                  rw [hnw]
                  refine List.mem_map.mpr ⟨((ts[i], us[i]), (A[i], B[i])), ?_, rfl⟩
                  refine List.mem_of_getElem? (i := i) ?_
                  rw [List.getElem?_zip_eq_some, List.getElem?_zip_eq_some, List.getElem?_zip_eq_some]
                  simp only
                  exact ⟨⟨List.getElem?_eq_getElem _, List.getElem?_eq_getElem _⟩, List.getElem?_eq_getElem _, List.getElem?_eq_getElem _⟩
                exact h _ hin
              · rintro ⟨_, h⟩ p hp
                obtain ⟨i, u1, u2, g1, g2, rfl⟩ := hget hp
                have e1 : ts[i]? = some (sb σ u1) := by rw [← hA, List.getElem?_map, g1]; rfl
                have e2 : us[i]? = some (sb σ u2) := by rw [← hB, List.getElem?_map, g2]; rfl
                have e3 : (ts.map (sb θ))[i]? = (us.map (sb θ))[i]? := by rw [h]
                rw [List.getElem?_map, List.getElem?_map, e1, e2] at e3
                simpa using e3
            obtain ⟨hpt, hdp⟩ := hd w ts rfl
            have hmn : meas σ nw = partsT ts := by
              have : nw.map (fun p => (sb σ p.x).parts) = ts.map Tm.parts := by
                rw [hnw, List.map_map]
                refine List.ext_getElem (by simp; omega) fun i hi1 hi2 => ?_
                rw [List.getElem_map, List.getElem_map]
                simp only [Function.comp, List.getElem_zip]
                have hit : i < ts.length := by simpa using hi2
                have hiA : i < A.length := by rw [← lA]; exact hit
                have g : (A.map (sb σ))[i]? = some (sb σ (A[i]'hiA)) := by rw [List.getElem?_map, List.getElem?_eq_getElem hiA]; rfl
                rw [hA, List.getElem?_eq_getElem hit] at g
                have g' := Option.some.inj g
                have : sb σ ts[i] = ts[i] := by rw [g', K.tri.idem]
                rw [this]
              unfold meas
              rw [this]
              clear this
              clear hnw hz hnl hget hall hpt hdp lA hA hn h6 hlt hq okF lF eFS hd hso heq hbad hF
              induction ts with
              | nil => rfl
              | cons t ts ih => simp [partsT, ih]
            simp [knRest, Tm.d, tnS, eFS, eqw, hlt, hlu, at_0, hn, cut_tail, hz, sz, extV, show st.length + nw.length ≤ 16777216 by omega]
            refine ⟨_, ?_, ps, r, σ, st ++ nw, _, _, _, by rw [List.map_append], K, fun p hp => ?_, fun i p hi => ?_, fun θ => ?_, rfl⟩
            · rw [hm, meas_app, hmn]
              simp only [Tm.parts] at hpt
              omega
            · rcases List.mem_append.mp hp with z | z
              · exact hst p z
              · obtain ⟨i, u1, u2, g1, g2, rfl⟩ := hget z
                have m1 := List.mem_of_getElem? g1
                have m2 := List.mem_of_getElem? g2
                have j1 := ifa.sub m1
                have j2 := isa.sub m2
                refine ⟨(K.okt j1).1, (K.okt j2).1, j1, j2, fun θ hθ => K.tri.via hθ u1, fun θ hθ => K.tri.via hθ u2, fun θ hθ => ?_⟩
                have h1 := hdp θ hθ
                rw [sb_nd] at h1
                have h2 := levT_mem (List.mem_map.mpr ⟨sb σ u1, by rw [← hA]; exact List.mem_map.mpr ⟨u1, m1, rfl⟩, rfl⟩ : sb θ (sb σ u1) ∈ ts.map (sb θ))
                simp only [Tm.lev] at h1
                simp only
                omega
            · rcases Nat.lt_or_ge i st.length with c | c
              · rw [List.getElem?_append_left c] at hi
                exact hpos i p hi
              · rw [List.getElem?_append_right c] at hi
                have hlt2 := (List.getElem?_eq_some_iff.mp hi).1
                obtain ⟨_, u1, u2, _, _, rfl⟩ := hget (List.mem_of_getElem? hi)
                simp only
                omega
            · rw [heq]
              constructor
              · rintro ⟨h1, h2, h3⟩
                refine ⟨h1, fun p hp => ?_⟩
                rcases List.mem_append.mp hp with z | z
                · exact h2 p z
                · exact (hall θ h1).mpr h3 p z
              · rintro ⟨h1, h2⟩
                exact ⟨h1, fun p hp => h2 p (List.mem_append_left _ hp), (hall θ h1).mp fun p hp => h2 p (List.mem_append_right _ hp)⟩
          · subst hw
            simp [knRest, Tm.d, tnS, eFS, eqw, hlt, hlu, at_0, show ¬ ((ts.length : Int) = us.length) by omega]
            exact hbad fun z => hn z.2
        · simp [knRest, Tm.d, tnS, eFS, eqw, hw, at_0]
          exact hbad fun z => hw z.1
end
end K07
namespace K07
open PySem L2 Mn
/-- what the law's own gives back -/
def LA (O N : List (List Nat)) (a b : Tm) (v : Va) : Prop := (v = .d .non ∧ ∀ θ, sb θ a ≠ sb θ b) ∨
  ∃ ps r σ, Knw O N ps r σ ∧ v = .dc (kvD (clf ps σ)) ∧ ∀ θ, Sat ps θ ↔ sb θ a = sb θ b
theorem known_wp {O N : List (List Nat)} (sub : ∀ x ∈ O, x ∈ N) (few : N.length ≤ 6) (ops : ∀ x ∈ O, Op x) {a b : Tm} (ha : Ind O a) (hb : Ind O b) {k : Nat} (hk : 31 ≤ k) :
    wp (Mn.call tab (k + 1) 18 [.d a.d, .d b.d]) fun v us => us = [.d a.d, .d b.d] ∧ LA O N a b v := by
  rw [call_run (x := "_law_known") rfl rfl, known_split]
  simp [sz]
  refine whl_wp (KnP O N a b) ?_ (m := (6 - ([] : Kn).length) * big + meas Tm.op [⟨a, b, a, b, 0⟩]) ⟨[], _, _, [⟨a, b, a, b, 0⟩], none, none, none, rfl, knw_nil sub few ops, ?_, ?_, ?_, rfl⟩
  · rintro m env ⟨ps, r, σ, stk, o4, o5, o6, rfl, K, hent, hpos, heq, rfl⟩
    rcases List.eq_nil_or_concat stk with rfl | ⟨st, p, rfl⟩
    · simp
      exact .inr ⟨ps, r, σ, K, rfl, fun θ => by rw [heq]; simp⟩
    · simp only [List.concat_eq_append] at *
      have hp := hent p (by simp)
      have sat := K.tri.sat
      obtain ⟨fa, ifa, sfa, tfa⟩ := K.std hp.ia
      obtain ⟨fb, ifb, sfb, tfb⟩ := K.std hp.ib
      have hX : sb σ fa = sb σ p.x := (tfa σ sat).trans (hp.ex σ sat).symm
      have hY : sb σ fb = sb σ p.y := (tfb σ sat).trans (hp.ey σ sat).symm
      have lx : p.x.lev ≤ 29 := Nat.le_trans (lev_sb_ge (σ := σ) p.x) (by rw [← hX]; exact K.levI ifa)
      have ly : p.y.lev ≤ 29 := Nat.le_trans (lev_sb_ge (σ := σ) p.y) (by rw [← hY]; exact K.levI ifb)
      have m1 := made_eq (ps := clf ps σ) (.inl rfl) k p.x (by omega) hp.okx
      have m2 := made_eq (ps := clf ps σ) (.inl rfl) k p.y (by omega) hp.oky
      rw [fit_cl K] at m1 m2
      have hst : ∀ q ∈ st, Ent O ps a q := fun q hq => hent q (List.mem_append_left _ hq)
      have hpos' : ∀ i q, st[i]? = some q → i ≤ 6 * q.d := fun i q hi => hpos i q (by rw [List.getElem?_append_left (List.getElem?_eq_some_iff.mp hi).1]; exact hi)
      have hsl : st.length ≤ 6 * p.d := hpos st.length p (by simp)
      have hvx : ∀ θ, Sat ps θ → sb θ (sb σ p.x) = sb θ p.x := fun θ hθ => K.tri.via hθ p.x
      have hvy : ∀ θ, Sat ps θ → sb θ (sb σ p.y) = sb θ p.y := fun θ hθ => K.tri.via hθ p.y
      have hmm : (6 - ps.length) * big + meas σ (st ++ [p]) = (6 - ps.length) * big + (meas σ st + (sb σ p.x).parts) := by
        rw [meas_app]
        simp [meas]
      have heq' : ∀ θ, sb θ a = sb θ b ↔ Sat ps θ ∧ (∀ q ∈ st, sb θ q.x = sb θ q.y) ∧ sb θ (sb σ p.x) = sb θ (sb σ p.y) := fun θ => by
        rw [heq θ]
        constructor
        · rintro ⟨h1, h2⟩
          exact ⟨h1, fun q hq => h2 q (List.mem_append_left _ hq), by rw [hvx θ h1, hvy θ h1]; exact h2 p (by simp)⟩
        · rintro ⟨h1, h2, h3⟩
          refine ⟨h1, fun q hq => ?_⟩
          rcases List.mem_append.mp hq with z | z
          · exact h2 q z
          · rw [List.mem_singleton.mp z, ← hvx θ h1, ← hvy θ h1]
            exact h3
      have hdp : ∀ θ, Sat ps θ → p.d + (sb θ (sb σ p.x)).lev ≤ (sb θ a).lev := fun θ hθ => by
        rw [hvx θ hθ]
        exact hp.dp θ hθ
      have hpp := (sb σ p.x).parts_pos
      rw [hmm]
      clear hmm hvx hvy
      generalize hm : (6 - ps.length) * big + (meas σ st + (sb σ p.x).parts) = m at *
      generalize sb σ p.x = X at *
      generalize sb σ p.y = Y at *
      cases X with
      | op s =>
        have R := rest_wp K (F := .op s) (S := Y) (o6 := o6) hk ha hst hpos' hsl hm.symm hpp ifa sfa ifb sfb hX hY heq' (fun z h => ⟨s, rfl⟩) (fun w ts h => nomatch h)
        cases Y with
        | op s' =>
          simp [prU, m1, m2, tnS_op]
          refine wp_imp R ?_
          rintro f e (⟨rfl, m', hm', hP⟩ | ⟨rfl, hno⟩)
          · simp
            exact ⟨m', hm', hP⟩
          · simp
            exact .inl ⟨rfl, hno⟩
        | nd w us =>
          simp [prU, m1, m2, tnS_op, tnS_nd]
          refine wp_imp R ?_
          rintro f e (⟨rfl, m', hm', hP⟩ | ⟨rfl, hno⟩)
          · simp
            exact ⟨m', hm', hP⟩
          · simp
            exact .inl ⟨rfl, hno⟩
      | nd w ts =>
        cases Y with
        | op s' =>
          have R := rest_wp K (F := .op s') (S := .nd w ts) (o6 := o6) hk ha hst hpos' hsl hm.symm hpp ifb sfb ifa sfa hY hX (fun θ => (heq' θ).trans ⟨fun h => ⟨h.1, h.2.1, h.2.2.symm⟩, fun h => ⟨h.1, h.2.1, h.2.2.symm⟩⟩) (fun z h => ⟨s', rfl⟩) (fun w ts h => nomatch h)
          simp [prU, m1, m2, tnS_op, tnS_nd]
          refine wp_imp R ?_
          rintro f e (⟨rfl, m', hm', hP⟩ | ⟨rfl, hno⟩)
          · simp
            exact ⟨m', hm', hP⟩
          · simp
            exact .inl ⟨rfl, hno⟩
        | nd v us =>
          have R := rest_wp K (F := .nd w ts) (S := .nd v us) (o6 := o6) hk ha hst hpos' hsl hm.symm hpp ifa sfa ifb sfb hX hY heq' (fun z h => nomatch h) (fun w' ts' h => by cases h; exact ⟨Nat.le_refl _, hdp⟩)
          simp [prU, m1, m2, tnS_nd]
          refine wp_imp R ?_
          rintro f e (⟨rfl, m', hm', hP⟩ | ⟨rfl, hno⟩)
          · simp
            exact ⟨m', hm', hP⟩
          · simp
            exact .inl ⟨rfl, hno⟩
  · intro p hp
    rw [List.mem_singleton.mp hp]
    exact ⟨ha.ok, hb.ok, ha, hb, fun _ _ => rfl, fun _ _ => rfl, fun θ _ => by simp⟩
  · intro i p hi
    have := (List.getElem?_eq_some_iff.mp hi).1
    simp at this
    omega
  · intro θ
    simp [sat_nil]
end K07
namespace K07
open PySem L2 Mn
theorem look_put {qs : Kn} {s : List Nat} {u : Tm} (z : List Nat) : look (qs.map fun p => if p.1 = s then (p.1, u) else p) z = if s = z ∧ s ∈ qs.map (·.1) then some u else look qs z := by
  induction qs with
  | nil => simp [look]
  | cons q qs ih =>
    obtain ⟨a, v⟩ := q
    rw [List.map_cons]
    by_cases h : a = s
    · subst h
      rw [if_pos rfl]
      by_cases hz : a = z
      · subst hz
        simp [look]
      · have e1 : look ((a, u) :: qs.map fun p => if p.1 = a then (p.1, u) else p) z = look (qs.map fun p => if p.1 = a then (p.1, u) else p) z := by simp [look, hz]
        have e2 : look ((a, v) :: qs) z = look qs z := by simp [look, hz]
        rw [e1, ih, e2]
        simp [hz]
    · rw [if_neg h]
      by_cases hz : a = z
      · subst hz
        have : ¬ s = a := fun x => h x.symm
        simp [look, this]
      · have e1 : look ((a, v) :: qs.map fun p => if p.1 = s then (p.1, u) else p) z = look (qs.map fun p => if p.1 = s then (p.1, u) else p) z := by simp [look, hz]
        have e2 : look ((a, v) :: qs) z = look qs z := by simp [look, hz]
        rw [e1, ih, e2]
        have : s ∈ ((a, v) :: qs).map (·.1) ↔ s ∈ qs.map (·.1) := by
          rw [List.map_cons, List.mem_cons]
          exact ⟨fun x => x.elim (fun x => absurd x.symm h) id, .inr⟩
        simp only [this]
theorem put_look (qs : Kn) (s : List Nat) (u : Tm) : ∃ qs', putKey (kvD qs) s u.d = kvD qs' ∧ ((qs.map (·.1)).Nodup → (qs'.map (·.1)).Nodup) ∧ ∀ z, look qs' z = if s = z then some u else look qs z := by
  by_cases h : s ∈ qs.map (·.1)
  · refine ⟨qs.map fun p => if p.1 = s then (p.1, u) else p, ?_, fun hn => ?_, fun z => ?_⟩
    · have hk : ((kvD qs).any fun p => decide (p.1 = s)) = true := by
        rw [← kv_keys] at h
        obtain ⟨p, hp, e⟩ := List.mem_map.mp h
        exact List.any_eq_true.mpr ⟨p, hp, by simp [e]⟩
      rw [putKey, if_pos hk]
      unfold kvD
      rw [List.map_map, List.map_map]
      refine List.map_congr_left fun p hp => ?_
      simp only [Function.comp]
      split <;> rfl
    · have : (qs.map fun p => if p.1 = s then (p.1, u) else p).map (·.1) = qs.map (·.1) := by
        rw [List.map_map]
        refine List.map_congr_left fun p hp => ?_
        simp only [Function.comp]
        split <;> rfl
      rw [this]
      exact hn
    · rw [look_put]
      simp [h]
  · refine ⟨qs ++ [(s, u)], put_new h u, fun hn => ?_, fun z => look_app h z⟩
    rw [List.map_append]
    refine List.nodup_append.mpr ⟨hn, by simp, fun a ha b hb => ?_⟩
    simp at hb
    rw [hb]
    exact fun e => h (e ▸ ha)
theorem there_eq {a b : Tm} {k : Nat} (ha : a.lev ≤ 5) (hb : b.lev ≤ 5) (pa : a.parts ≤ 13) (pb : b.parts ≤ 13) (hk : 6 ≤ k) : Mn.call tab k 14 [.d (.tup [.str [97], a.d, b.d])] = some (.ls ((a.opens ++ b.opens).map D.str), [.d (.tup [.str [97], a.d, b.d])]) := by
  have h1 := opens_parts a
  have h2 := opens_parts b
  have e := in_eq k (.nd [97] [a, b]) (by simp only [Tm.lev, levT]; omega) (by simp only [Tm.opens, opensT, List.length_append, List.length_nil]; omega)
  have e1 : (Tm.nd [97] [a, b]).d = .tup [.str [97], a.d, b.d] := rfl
  have e2 : (Tm.nd [97] [a, b]).opens = a.opens ++ b.opens := by simp [Tm.opens, opensT]
  rw [e1, e2] at e
  exact e
structure Cl (O : List (List Nat)) (qs : Kn) : Prop where
  nodup : (qs.map (·.1)).Nodup
  vals : ∀ z u, look qs z = some u → z ∈ O ∧ TmOk u ∧ u.lev ≤ 30
  all : ∀ z ∈ O, look qs z ≠ none
theorem few_keys {O N : List (List Nat)} (sub : ∀ x ∈ O, x ∈ N) (few : N.length ≤ 6) {qs : Kn} (hn : (qs.map (·.1)).Nodup) (h : ∀ z u, look qs z = some u → z ∈ O) : qs.length ≤ 6 := by
  have := nodup_le hn (b := N) fun x hx => by
    cases e : look qs x with
    | none => exact absurd hx (look_none.mp e)
    | some u => exact sub _ (h x u e)
  rw [List.length_map] at this
  omega
theorem qword : ∀ c ∈ letters, isWord [113, c] = true := by decide +kernel
theorem letter_asc : ∀ c ∈ letters, c < 128 := by decide +kernel
theorem qw {c : Nat} (h : c ∈ letters) : Wo [113, c] := ⟨⟨fun x hx => by
  have := letter_asc c h
  simp at hx
  omega, by simp⟩, qword c h⟩
theorem in_kvC (ps : Kn) (g : List Nat → Tm) (s : List Nat) : inS (.d (.str s)) (.dc (kvD (clf ps g))) = some (.d (.bl (look ps s).isSome)) := by
  rw [in_kv, look_clf]
  cases look ps s <;> rfl
def AddP (a b : Tm) (O : List (List Nat)) (ps : Kn) (σ : List Nat → Tm) (L : List (List Nat)) (v4 : Option Va) (i : Nat) (env : Mn.Env) : Prop :=
  ∃ (qs : Kn) (o6 : Option Va), env = [some (.d a.d), some (.d b.d), some (.dc (kvD (clf ps σ))), some (.dc (kvD qs)), v4, some (.d (.lst (L.map D.str))), o6] ∧ (qs.map (·.1)).Nodup ∧ (∀ z u, look qs z = some u → z ∈ O) ∧
    (∀ z, look ps z ≠ none → look qs z = some (σ z)) ∧ (∀ z u, look ps z = none → look qs z = some u → TmOk u ∧ u.lev ≤ 1) ∧ ∀ j z, j < i → L[j]? = some z → look qs z ≠ none
def FilP (a b : Tm) (O : List (List Nat)) (ps : Kn) (σ : List Nat → Tm) (q0 : Kn) (v4 v5 : Option Va) (i : Nat) (env : Mn.Env) : Prop :=
  ∃ (qs : Kn) (o6 : Option Va), env = [some (.d a.d), some (.d b.d), some (.d (.dct ((kvD (clf ps σ)).map (·.1)) ((kvD (clf ps σ)).map (·.2)))), some (.dc (kvD qs)), v4, v5, o6] ∧ (qs.map (·.1)).Nodup ∧ (∀ z u, look qs z = some u → z ∈ O) ∧
    (∀ z, look ps z = none → look qs z = look q0 z) ∧ ∀ j q, ps[j]? = some q → look qs q.1 = some (if j < i then sb (fitOf q0) (σ q.1) else σ q.1)
theorem unlike_wp {N : List (List Nat)} {ps : Kn} {r : List Nat → Nat} {σ : List Nat → Tm} {a b : Tm} (K : Knw (a.opens ++ b.opens) N ps r σ) (ha : Ind (a.opens ++ b.opens) a) (hb : Ind (a.opens ++ b.opens) b) {k : Nat} (hk : 31 ≤ k) :
    wp (Mn.call tab (k + 1) 19 [.d a.d, .d b.d, .dc (kvD (clf ps σ))]) fun v us => ∃ qs y, v = .dc (kvD qs) ∧ us = [.d a.d, .d b.d, y] ∧ Cl (a.opens ++ b.opens) qs ∧ ∀ s, fitOf qs s = sb (fitOf qs) (σ s) := by
  have e1 := there_eq (k := k) ha.lev hb.lev ha.parts hb.parts (by omega)
  have g1 := opens_parts a
  have g2 := opens_parts b
  have g3 := ha.parts
  have g4 := hb.parts
  obtain ⟨O, hO⟩ : ∃ O, O = a.opens ++ b.opens := ⟨_, rfl⟩
  have hOl : O.length ≤ 26 := by rw [hO, List.length_append]; omega
  rw [← hO] at K ha hb e1 ⊢
  have hlen := K.len
  have asc : ∀ x ∈ O, Asc x := fun x hx => (K.ops x hx).1.1
  obtain ⟨L, hL⟩ : ∃ L, L = sortT (O.filter fun x => (look ps x).isNone) := ⟨_, rfl⟩
  have hLl : L.length ≤ 26 := by
    rw [hL, (sortT_perm _).length_eq]
    exact Nat.le_trans (List.length_filter_le _ _) hOl
  have hLm : ∀ x, x ∈ L ↔ x ∈ O ∧ look ps x = none := fun x => by
    rw [hL, (sortT_perm _).mem_iff, List.mem_filter]
    cases look ps x <;> simp
  have comp : ∀ (v0 v1 v3 v4 v5 : Option Va), compL (turnS (Mn.call tab k) tab.con (.one 6) (.cons (.cmp .NotIn (.var 6) (.var 2)) .nil) (.var 6)) [6] (O.map D.str) [v0, v1, some (.dc (kvD (clf ps σ))), v3, v4, v5, none] [] = some ((O.filter fun x => (look ps x).isNone).map D.str, [v0, v1, some (.dc (kvD (clf ps σ))), v3, v4, v5, none]) := fun v0 v1 v3 v4 v5 => by
    refine (compL_filter (f := D.str) (g := D.str) (p := fun x => (look ps x).isNone) (fun x hx => ?_) (by rw [sz]; simp; omega)).trans (by simp)
    refine ⟨[v0, v1, some (.dc (kvD (clf ps σ))), v3, v4, v5, some (.d (.str x))], ?_, by simp [wipeS]⟩
    have e := in_kvC ps σ x
    cases h : look ps x with
    | none =>
      rw [h] at e
      simp [turnS, e]
    | some u =>
      rw [h] at e
      simp [turnS, e]
  have srt : sortedS (.ls ((O.filter fun x => (look ps x).isNone).map D.str)) = some (.ls (L.map D.str)) := by
    show ((asLl (.ls ((O.filter fun x => (look ps x).isNone).map D.str))).bind fun xs => (strsOf xs).bind fun ss => if ss.length < 64 then some (Va.ls ((sortT ss).map .str)) else none) = _
    simp only [asLl_l, Option.bind_some, strsOf_map]
    rw [if_pos (by have := List.length_filter_le (fun x => (look ps x).isNone) O; omega), hL]
  have hd0 : dictS (.dc (kvD (clf ps σ))) = some (.dc (kvD (clf ps σ))) := rfl
  have hkl : ∀ qs : Kn, (kvD qs).length = qs.length := fun qs => by simp [kvD]
  rw [call_run (x := "_law_unlike") rfl rfl]
  simp [cLawUnlike, hd0, sz, e1, wipeS, comp, srt]
  refine forL_wp (AddP a b O ps σ L (some (.d (.lst (O.map D.str))))) ?_ ⟨clf ps σ, none, rfl, by rw [clf_keys]; exact K.nodup, fun z u h => ?_, fun z h => ?_, fun z u h1 h2 => ?_, fun j z h => absurd h (Nat.not_lt_zero _)⟩ ?_
  · rintro i x env hx ⟨qs, o6, rfl, hn, hO', hps, hun, hdone⟩
    obtain ⟨z, hz, rfl⟩ : ∃ z, L[i]? = some z ∧ x = .str z := by
      rw [List.getElem?_map] at hx
      simp only [Option.map_eq_some_iff] at hx
      obtain ⟨q, e1, e2⟩ := hx
      exact ⟨q, e1, e2.symm⟩
    have hzm := List.mem_of_getElem? hz
    obtain ⟨hzO, hzn⟩ := (hLm z).mp hzm
    have hix : lixS (.d (.lst (L.map D.str))) [.d (.str z)] = some (.d (.int (L.idxOf z : Nat))) := by
      show ((asLl (.d (.lst (L.map D.str)))).bind fun xs => (strsOf xs).bind fun ss => if z ∈ ss then some (Va.d (.int (ss.idxOf z : Nat))) else none) = _
      simp only [asLl_dl, Option.bind_some, strsOf_map]
      rw [if_pos hzm]
    have hil : L.idxOf z < L.length := List.idxOf_lt_length_iff.mpr hzm
    obtain ⟨c, hc, hcm⟩ := letter (L.idxOf z : Nat) (by omega) (by omega)
    have hc' : Mn.atI [97, 98, 99, 100, 101, 102, 103, 104, 105, 106, 107, 108, 109, 110, 111, 112, 113, 114, 115, 116, 117, 118, 119, 120, 121, 122] ((L.idxOf z : Nat) : Int) = some c := hc
    obtain ⟨qs', p1, p2, p3⟩ := put_look qs z (.nd [113, c] [])
    have hd : (Tm.nd [113, c] []).d = .tup [.str [113, c]] := rfl
    rw [hd] at p1
    have hql := few_keys K.sub K.few hn hO'
    simp [forS, hix, hc', sz, setV, p1, hkl, show qs.length < 16777216 by omega]
    refine ⟨qs', _, rfl, p2 hn, fun y u h => ?_, fun y h => ?_, fun y u h1 h2 => ?_, fun j y hj h => ?_⟩
    · rw [p3] at h
      split at h
      · rename_i e; rw [← e]; exact hzO
      · exact hO' y u h
    · rw [p3, if_neg (fun e => h (by rw [← e]; exact hzn))]
      exact hps y h
    · rw [p3] at h2
      split at h2
      · cases h2
        exact ⟨⟨qw hcm, by simp, trivial⟩, by simp [Tm.lev, levT]⟩
      · exact hun y u h1 h2
    · rw [p3]
      split
      · simp
      · rename_i hne
        have : j ≠ i := fun e => by
          subst e
          rw [hz] at h
          exact hne (by cases h; rfl)
        exact hdone j y (by omega) h
  · rw [look_clf] at h
    cases e : look ps z with
    | none => rw [e] at h; cases h
    | some v => exact K.keys _ (look_mem e)
  · rw [look_clf]
    cases e : look ps z with
    | none => exact absurd e h
    | some v => rfl
  · rw [look_clf, h1] at h2
    cases h2
  · rintro env ⟨q0, o6, rfl, hn, hO', hps, hun, hdone⟩
    rw [List.length_map] at hdone
    have hall0 : ∀ z ∈ O, look q0 z ≠ none := fun z hz => by
      by_cases e : look ps z = none
      · obtain ⟨j, hj⟩ := List.getElem?_of_mem ((hLm z).mpr ⟨hz, e⟩)
        exact hdone j z (List.getElem?_eq_some_iff.mp hj).1 hj
      · rw [hps z e]
        simp
    have hf0 : ∀ y ∈ O, look ps y = none → TmOk (fitOf q0 y) ∧ (fitOf q0 y).lev ≤ 1 := fun y hy e => by
      cases e2 : look q0 y with
      | none => exact absurd e2 (hall0 y hy)
      | some u =>
        rw [show fitOf q0 y = u by simp [fitOf, e2]]
        exact hun y u e e2
    have hks : ((kvD (clf ps σ)).map (·.1)).map D.str = (ps.map (·.1)).map D.str := by
      rw [kv_keys, clf_keys]
    simp [fzV, sz]
    rw [show List.map (D.str ∘ fun x : List Nat × D => x.fst) (kvD (clf ps σ)) = (ps.map (·.1)).map D.str by rw [← hks, List.map_map]]
    refine forL_wp (FilP a b O ps σ q0 (some (.d (.lst (O.map D.str)))) (some (.d (.lst (L.map D.str))))) ?_ ⟨q0, _, rfl, hn, hO', fun z _ => rfl, fun j q hj => ?_⟩ ?_
    · rintro i x env hx ⟨qs, o6', rfl, hn', hO2, hun', hg⟩
      obtain ⟨q, h1, rfl⟩ : ∃ q, ps[i]? = some q ∧ x = .str q.1 := by
        rw [List.getElem?_map, List.getElem?_map] at hx
        simp only [Option.map_eq_some_iff] at hx
        obtain ⟨a, ⟨b, e0, rfl⟩, e2⟩ := hx
        exact ⟨b, e0, e2.symm⟩
      have hqm := List.mem_of_getElem? h1
      have hqk : q.1 ∈ ps.map (·.1) := List.mem_map.mpr ⟨q, hqm, rfl⟩
      have hlq : look ps q.1 ≠ none := fun z => look_none.mp z hqk
      have hit : (keyOf (((kvD (clf ps σ)).map (·.1)).zip ((kvD (clf ps σ)).map (·.2))) q.1) = some (σ q.1).d := by
        rw [show ((kvD (clf ps σ)).map (·.1)).zip ((kvD (clf ps σ)).map (·.2)) = kvD (clf ps σ) from by
          generalize kvD (clf ps σ) = l
          induction l with
          | nil => rfl
          | cons x l ih => simp [ih], key_look, look_clf]
        cases e : look ps q.1 with
        | none => exact absurd e hlq
        | some v => rfl
      have hok := (K.ok _ q.1 (Nat.lt_succ_self _) (K.keys q hqm)).1
      have hmd := made_eq (ps := qs) (.inl rfl) k (σ q.1) (by have := K.lev q.1; omega) hok
      have hse : sb (fitOf qs) (σ q.1) = sb (fitOf q0) (σ q.1) := sb_ext _ fun y hy => by
        unfold fitOf
        rw [hun' y (K.tri.fr hy)]
      rw [hse] at hmd
      obtain ⟨qs', p1, p2, p3⟩ := put_look qs q.1 (sb (fitOf q0) (σ q.1))
      have hql := few_keys K.sub K.few hn' hO2
      simp [forS, hit, hmd, setV, sz, p1, hkl, show qs.length < 16777216 by omega]
      refine ⟨qs', _, rfl, p2 hn', fun y u h => ?_, fun y h => ?_, fun j p hj => ?_⟩
      · rw [p3] at h
        split at h
        · rename_i e; rw [← e]; exact K.keys q hqm
        · exact hO2 y u h
      · rw [p3, if_neg (fun e => hlq (by rw [e]; exact h))]
        exact hun' y h
      · rw [p3]
        by_cases e : q.1 = p.1
        · have hij : j = i := by
            have a1 : (ps.map (·.1))[j]? = some p.1 := by rw [List.getElem?_map, hj]; rfl
            have a2 : (ps.map (·.1))[i]? = some q.1 := by rw [List.getElem?_map, h1]; rfl
            have l1 := (List.getElem?_eq_some_iff.mp a1).1
            exact (List.getElem?_inj l1 K.nodup).mp (by rw [a1, a2, e])
          rw [if_pos e, if_pos (by omega), e]
        · have hij : j ≠ i := fun z => e (by subst z; rw [h1] at hj; cases hj; rfl)
          rw [if_neg e, hg j p hj]
          by_cases c : j < i
          · rw [if_pos c, if_pos (by omega)]
          · rw [if_neg c, if_neg (by omega)]
    · rw [if_neg (Nat.not_lt_zero _)]
      refine hps q.1 fun z => look_none.mp z (List.mem_map.mpr ⟨q, List.mem_of_getElem? hj, rfl⟩)
    · rintro env ⟨qs, o6', rfl, hn', hO2, hun', hg⟩
      simp
      have hval : ∀ z, look ps z ≠ none → look qs z = some (sb (fitOf q0) (σ z)) := fun z hz => by
        cases e : look ps z with
        | none => exact absurd e hz
        | some u =>
          obtain ⟨j, hj⟩ := List.getElem?_of_mem (look_mem e)
          have := hg j _ hj
          rw [if_pos (by simpa using (List.getElem?_eq_some_iff.mp hj).1)] at this
          exact this
      have hfe : ∀ t : List Nat, sb (fitOf qs) (σ t) = sb (fitOf q0) (σ t) := fun t => sb_ext _ fun y hy => by
        unfold fitOf
        rw [hun' y (K.tri.fr hy)]
      refine ⟨qs, rfl, ⟨hn', fun z u h => ?_, fun z hz => ?_⟩, fun s => ?_⟩
      · refine ⟨hO2 z u h, ?_⟩
        by_cases e : look ps z = none
        · rw [hun' z e] at h
          have := hun z u e h
          exact ⟨this.1, by omega⟩
        · rw [hval z e] at h
          cases h
          have hzO := hO2 z _ (hval z e)
          obtain ⟨k1, k2⟩ := K.ok _ z (Nat.lt_succ_self _) hzO
          have hv : ∀ y ∈ (σ z).opens, TmOk (fitOf q0 y) ∧ (fitOf q0 y).lev ≤ 1 := fun y hy => hf0 y (k2 y hy) (K.tri.fr hy)
          refine ⟨sb_okG _ k1 fun y hy => (hv y hy).1, ?_⟩
          have := sb_lev (K := 1) (Nat.le_refl _) (σ z) fun y hy => (hv y hy).2
          have := K.lev z
          omega
      · by_cases e : look ps z = none
        · rw [hun' z e]
          exact hall0 z hz
        · rw [hval z e]
          simp
      · by_cases e : look ps s = none
        · rw [K.tri.nn s e]
          rfl
        · rw [hfe]
          unfold fitOf
          rw [hval s e]
          rfl
end K07
namespace K07
open PySem L2 Mn
theorem eq_te7 (xs : List D) : eqS (.d (.tup xs)) (.d (.tup [])) = some (.d (.bl xs.isEmpty)) := by
  have e : eqN (.d (.tup xs)) (.d (.tup [])) = none := rfl
  have e2 : eqE (.d (.tup xs)) (.d (.tup [])) = some (.d (.bl xs.isEmpty)) := rfl
  unfold eqS
  rw [e, e2]
  simp only [asD, Option.bind_some]
  by_cases h : okD (.tup xs) = true ∧ okD (.tup []) = true
  · rw [if_pos h]
    have : eqD (.tup xs) (.tup []) = xs.isEmpty := by
      cases xs with
      | nil => simp [eqD, D.py, D.pys, PyData.eqv, PyData.eqvAll]
      | cons a r => simp [eqD, D.py, D.pys, PyData.eqv, PyData.eqvAll]
    rw [this]
    rfl
  · rw [if_neg h]
    rfl
theorem eq_rows7 {l : List (List Nat)} (h : ∀ s ∈ l, Asc s) : eqS (.ls (l.map D.str)) (.ls (l.map D.str)) = some (.d (.bl true)) := by
  cases l with
  | nil => rfl
  | cons a r =>
    have ok := okD_strs h
    have e : eqN (.ls ((a :: r).map D.str)) (.ls ((a :: r).map D.str)) = none := rfl
    simp only [eqS, e, Option.or, asD, Option.bind_some, ok, and_self, if_true]
    congr 3
    have := eqv_strs (a :: r)
    simpa [eqD, D.py, PyData.eqv] using this
theorem is_term : ∀ (k : Nat) (t : Tm), t.lev ≤ k → TmOk t → Mn.call tab k 20 [.d t.d] = some (.d (.bl true), [.d t.d])
  | 0, t, h, _ => by have := t.lev_pos; omega
  | k + 1, t, h, ht => by
    rw [call_run (x := "_law_is_term") rfl rfl]
    cases t with
    | op s => simp [cLawIsTerm, Tm.d, tnS]
    | nd w ts =>
      have hl : levT ts ≤ k := by simp only [Tm.lev] at h; omega
      have h6 := ht.2.1
      have hc : compL (turnS (Mn.call tab k) tab.con (.one 1) (.cons (.not (.cf 20 (.cons (.var 1) .nil))) .nil) (.var 1)) [1] (dsT ts) [some (.d (.tup (.str w :: dsT ts))), none] [] = some ([], [some (.d (.tup (.str w :: dsT ts))), none]) := by
        rw [dsT_map]
        refine (compL_filter (f := Tm.d) (g := Tm.d) (p := fun _ => false) (fun t ht' => ?_) (by rw [sz]; simp; omega)).trans (by simp)
        have ih := is_term k t (Nat.le_trans (levT_mem ht') hl) (okTs_mem ht.2.2 ht')
        exact ⟨[some (.d (.tup (.str w :: ts.map Tm.d))), some (.d t.d)], by simp [turnS, ih, putArgs], by simp [wipeS]⟩
      have e0 := eq_te7 (.str w :: dsT ts)
      have e1 : eqS (.ls []) (.ls []) = some (.d (.bl true)) := rfl
      simp [cLawIsTerm, Tm.d, tnS, e0, at_0, cut_tail, hc, wipeS, e1, sz]
theorem item_kd {w : Va} {qs : Kn} (hw : Kd w qs) {s : List Nat} {u : Tm} (h : look qs s = some u) : itemS w (.d (.str s)) = some (.d u.d) := by
  rcases hw with rfl | rfl
  · exact item_kvS h
  · rw [item_dct, zip_kv, key_look, h]
    rfl
theorem prs_kv : ∀ fs : Kn, prsOf (fs.map fun q => D.tup [.str q.1, q.2.d]) = some (kvD fs)
  | [] => rfl
  | q :: fs => by
    show prsOf (.tup [.str q.1, q.2.d] :: fs.map fun q => D.tup [.str q.1, q.2.d]) = _
    simp only [prsOf, prs_kv fs, Option.map_some]
    rfl
theorem into_kv : ∀ (l acc : List (List Nat × D)), ((acc ++ l).map (·.1)).Nodup → intoKeys acc l = acc ++ l
  | [], acc, _ => by simp [intoKeys]
  | (k, v) :: l, acc, h => by
    have e : acc ++ (k, v) :: l = (acc ++ [(k, v)]) ++ l := by simp
    have hk : (acc.any fun p => decide (p.1 = k)) = false := by
      rw [List.any_eq_false]
      intro p hp
      simp only [decide_eq_true_eq]
      intro z
      rw [List.map_append, List.nodup_append] at h
      exact h.2.2 p.1 (List.mem_map.mpr ⟨p, hp, rfl⟩) k (by simp) z
    rw [intoKeys, show putKey acc k v = acc ++ [(k, v)] by simp [putKey, hk], e]
    exact into_kv l _ (by rw [← e]; exact h)
def fitsEnd : CB := (.cons (.for_ (.one 7) (.it (.var 4)) (.cons (.ite (.cmp .NotEq (.cf 13 (.cons (.cf 13 (.cons (.var 7) (.cons (.var 10) .nil))) (.cons (.var 3) .nil))) (.sub (.var 3) (.var 7))) (.cons (.ret (.lit (.bl false))) .nil) .nil) .nil)) (.cons (.ret (.lit (.bl true))) .nil))
def fitsMid : CB := (.cons (.for_ (.many [7, 8]) (.it (.var 2)) (.cons (.for_ (.one 9) (.it (.cf 14 (.cons (.var 8) .nil))) (.cons (.ite (.or (.cons (.cmp .In (.var 9) (.var 6)) (.cons (.cmp .NotIn (.var 9) (.var 4)) .nil))) (.cons (.ret (.lit (.bl false))) .nil) .nil) .nil)) .nil)) (.cons (.asg 10 (.cb .dict (.cons (.var 2) .nil))) (.cons (.ite (.cmp .NotEq (.cf 13 (.cons (.var 0) (.cons (.var 10) .nil))) (.cf 13 (.cons (.var 1) (.cons (.var 10) .nil)))) (.cons (.ret (.lit (.bl false))) .nil) .nil) fitsEnd)))
theorem fits_split : cLawFits = (.cons (.asg 4 (.cf 14 (.cons (.tup (.cons (.lit (.str [97])) (.cons (.var 0) (.cons (.var 1) .nil)))) .nil))) (.cons (.ite (.not (.isi (.var 2) [.tup])) (.cons (.ret (.lit (.bl false))) .nil) .nil) (.cons (.for_ (.one 5) (.it (.var 2)) (.cons (.ite (.or (.cons (.not (.isi (.var 5) [.tup])) (.cons (.cmp .NotEq (.cb .len (.cons (.var 5) .nil)) (.lit (.int 2))) (.cons (.cmp .NotIn (.sub (.var 5) (.lit (.int 0))) (.var 4)) .nil)))) (.cons (.ret (.lit (.bl false))) .nil) .nil) (.cons (.ite (.not (.cf 20 (.cons (.sub (.var 5) (.lit (.int 1))) .nil))) (.cons (.ret (.lit (.bl false))) .nil) .nil) .nil))) (.cons (.asg 6 (.comp [("_law_pair", 5)] (.one 5) (.it (.var 2)) .nil (.sub (.var 5) (.lit (.int 0))))) (.cons (.ite (.or (.cons (.cmp .NotEq (.var 6) (.cb .sorted (.cons (.var 6) .nil))) (.cons (.cmp .NotEq (.cb .len (.cons (.cb .dict (.cons (.var 2) .nil)) .nil)) (.cb .len (.cons (.var 6) .nil))) .nil))) (.cons (.ret (.lit (.bl false))) .nil) .nil) fitsMid))))) := rfl
def E1P (v0 v1 v2 v3 v4 v6 v7 v8 v9 v10 : Option Va) (i : Nat) (env : Mn.Env) : Prop := ∃ o5, env = [v0, v1, v2, v3, v4, o5, v6, v7, v8, v9, v10]
def E2P (v0 v1 v2 v3 v4 v5 v6 v10 : Option Va) (i : Nat) (env : Mn.Env) : Prop := ∃ o7 o8 o9, env = [v0, v1, v2, v3, v4, v5, v6, o7, o8, o9, v10]
def E3P (v0 v1 v2 v3 v4 v5 v6 v7 v8 v10 : Option Va) (i : Nat) (env : Mn.Env) : Prop := ∃ o9, env = [v0, v1, v2, v3, v4, v5, v6, v7, v8, o9, v10]
def E4P (v0 v1 v2 v3 v4 v5 v6 v8 v9 v10 : Option Va) (i : Nat) (env : Mn.Env) : Prop := ∃ o7, env = [v0, v1, v2, v3, v4, v5, v6, o7, v8, v9, v10]
section
variable {N : List (List Nat)} {ps : Kn} {r : List Nat → Nat} {σ : List Nat → Tm} {O : List (List Nat)} (K : Knw O N ps r σ)
include K
theorem lev_op (s : List Nat) : (σ s).lev ≤ 25 := K.lev s
theorem ind_op {s : List Nat} (h : s ∈ O) : Ind O (.op s) := ⟨K.ops s h, by simp [Tm.lev], by simp [Tm.parts], fun y hy => by simp [Tm.opens] at hy; rw [hy]; exact h⟩
def fsU (ps : Kn) (σ : List Nat → Tm) : Kn := (sortT (ps.map (·.1))).map fun s => (s, σ s)
omit K in
theorem fsU_keys : (fsU ps σ).map (·.1) = sortT (ps.map (·.1)) := by
  unfold fsU
  rw [List.map_map]
  exact List.map_id _
theorem fit_fsU : fitOf (fsU ps σ) = σ := by
  funext s
  unfold fitOf
  cases e : look (fsU ps σ) s with
  | none =>
    have h := look_none.mp e
    rw [fsU_keys, (sortT_perm _).mem_iff] at h
    exact (K.tri.nn s (look_none.mpr h)).symm
  | some u =>
    have h := look_mem e
    unfold fsU at h
    obtain ⟨z, _, hz⟩ := List.mem_map.mp h
    cases hz
    rfl
omit K in
theorem resU_fs : resU ps σ = (fsU ps σ).map fun q => D.tup [.str q.1, q.2.d] := by
  unfold resU fsU
  rw [List.map_map]
  rfl
theorem dict_res : dictS (.d (.tup (resU ps σ))) = some (.dc (kvD (fsU ps σ))) := by
  rw [dict_t, resU_fs, prs_kv]
  simp only [Option.map_some]
  rw [into_kv _ _ (by rw [List.nil_append, kv_keys, fsU_keys]; exact (sortT_perm _).nodup_iff.mpr K.nodup), List.nil_append]
theorem fits_end {a b : Tm} {w : Va} {qs : Kn} (hw : Kd w qs) (hv : ∀ z u, look qs z = some u → TmOk u ∧ u.lev ≤ 30) (hall : ∀ z ∈ O, look qs z ≠ none) (hsat : Sat ps (fitOf qs)) {k : Nat} (hk : 35 ≤ k) {o2 o5 o6 o7 o8 o9 : Option Va} {Q : Fl → Mn.Env → Prop} (q : ∀ e : Mn.Env, getS e 3 = some w → Q (.rt (.d (.bl true))) e) :
    wp (exB (Mn.call tab k) tab.con fitsEnd [some (.d a.d), some (.d b.d), o2, some w, some (.ls (O.map D.str)), o5, o6, o7, o8, o9, some (.dc (kvD (fsU ps σ)))]) Q := by
  have asc : ∀ x ∈ O, Op x := K.ops
  simp [fitsEnd]
  refine forL_wp (E4P (some (.d a.d)) (some (.d b.d)) o2 (some w) (some (.d (.lst (O.map D.str)))) o5 o6 o8 o9 (some (.dc (kvD (fsU ps σ))))) ?_ ⟨_, rfl⟩ ?_
  · rintro i x env hx ⟨o7, rfl⟩
    obtain ⟨s, hs, rfl⟩ : ∃ s, O[i]? = some s ∧ x = .str s := by
      rw [List.getElem?_map] at hx
      simp only [Option.map_eq_some_iff] at hx
      obtain ⟨q, e1, e2⟩ := hx
      exact ⟨q, e1, e2.symm⟩
    have hsO := List.mem_of_getElem? hs
    have m1 := made_eq (ps := fsU ps σ) (.inl rfl) k (.op s) (by simp only [Tm.lev]; omega) (asc s hsO)
    rw [fit_fsU K, sb_op] at m1
    have hok := (K.ok _ s (Nat.lt_succ_self _) hsO).1
    have m2 := made_eq hw k (σ s) (by have := K.lev s; omega) hok
    cases e : look qs s with
    | none => exact absurd e (hall s hsO)
    | some u =>
      have hvu := hv s u e
      have m3 := item_kd hw e
      have hu : sb (fitOf qs) (σ s) = u := by
        have := K.tri.via hsat (.op s)
        rw [sb_op, sb_op] at this
        rw [this]
        simp [fitOf, e]
      rw [hu] at m2
      have m4 := eq_tms hvu.1 (by omega : u.lev ≤ 60) hvu.1 (by omega)
      simp at m4
      have hd : (Tm.op s).d = .str s := rfl
      rw [hd] at m1
      rcases hw with rfl | rfl
      · simp [forS, m1, m2, m3, m4]
        exact ⟨_, rfl⟩
      · simp only [item_dct] at m3
        simp [forS, m1, m2, m3, m4]
        exact ⟨_, rfl⟩
  · rintro env ⟨o7, rfl⟩
    simp
    exact q _ rfl
theorem fits_wp {a b : Tm} (hOe : O = a.opens ++ b.opens) (ha : Ind O a) (hb : Ind O b) (hs : ∀ θ, Sat ps θ ↔ sb θ a = sb θ b) {w : Va} {qs : Kn} (hw : Kd w qs) (hv : ∀ z u, look qs z = some u → TmOk u ∧ u.lev ≤ 30) (hall : ∀ z ∈ O, look qs z ≠ none) (he : sb (fitOf qs) a = sb (fitOf qs) b) {k : Nat} (hk : 35 ≤ k) :
    wp (Mn.call tab (k + 1) 21 [.d a.d, .d b.d, .d (.tup (resU ps σ)), w]) fun v us => v = .d (.bl true) ∧ ∃ y, us = [.d a.d, .d b.d, .d (.tup (resU ps σ)), y] := by
  have e1 := there_eq (k := k) ha.lev hb.lev ha.parts hb.parts (by omega)
  rw [← hOe] at e1
  have asc : ∀ x ∈ O, Asc x := fun x hx => (K.ops x hx).1.1
  have hlen := K.len
  obtain ⟨nm, hnm⟩ : ∃ nm, nm = sortT (ps.map (·.1)) := ⟨_, rfl⟩
  have hml : nm.length ≤ 6 := by rw [hnm, (sortT_perm _).length_eq, List.length_map]; omega
  have hmm : ∀ x, x ∈ nm ↔ look ps x ≠ none := fun x => by
    rw [hnm, (sortT_perm _).mem_iff]
    exact ⟨fun h z => look_none.mp z h, fun h => Classical.byContradiction fun z => h (look_none.mpr z)⟩
  have hmO : ∀ x ∈ nm, x ∈ O := fun x hx => by
    cases e : look ps x with
    | none => exact absurd e ((hmm x).mp hx)
    | some u => exact K.keys _ (look_mem e)
  have hRs : resU ps σ = nm.map fun s => D.tup [.str s, (σ s).d] := by rw [hnm]; rfl
  have hget : ∀ {i : Nat} {x : D}, (resU ps σ)[i]? = some x → ∃ s, s ∈ nm ∧ x = D.tup [.str s, (σ s).d] := fun {i x} hx => by
    rw [hRs, List.getElem?_map] at hx
    simp only [Option.map_eq_some_iff] at hx
    obtain ⟨q, e1, e2⟩ := hx
    exact ⟨q, List.mem_of_getElem? e1, e2.symm⟩
  have dres := dict_res K
  have hdl : (kvD (fsU ps σ)).length = nm.length := by simp [kvD, fsU, hnm]
  have srt : sortedS (.ls (nm.map D.str)) = some (.ls (nm.map D.str)) := by
    show ((asLl (.ls (nm.map D.str))).bind fun xs => (strsOf xs).bind fun ss => if ss.length < 64 then some (Va.ls ((sortT ss).map .str)) else none) = _
    simp only [asLl_l, Option.bind_some, strsOf_map]
    rw [if_pos (by omega)]
    have : sortT nm = nm := by
      rw [hnm]
      exact sortT_sw (sortT_perm _)
    rw [this]
  have eqn := eq_rows7 (l := nm) fun x hx => asc x (hmO x hx)
  have comp : ∀ (v0 v1 v3 v4 v6 v7 v8 v9 v10 : Option Va), compL (turnS (Mn.call tab k) tab.con (.one 5) .nil (.sub (.var 5) (.lit (.int 0)))) [5] (resU ps σ) [v0, v1, some (.d (.tup (resU ps σ))), v3, v4, none, v6, v7, v8, v9, v10] [] = some (nm.map D.str, [v0, v1, some (.d (.tup (resU ps σ))), v3, v4, none, v6, v7, v8, v9, v10]) := fun v0 v1 v3 v4 v6 v7 v8 v9 v10 => by
    generalize hR : resU ps σ = R
    rw [hR] at hRs
    rw [hRs]
    refine (compL_map (f := fun s => D.tup [.str s, (σ s).d]) (g := D.str) (fun s hs => ?_) (by rw [sz]; simp; omega)).trans (by simp)
    exact ⟨[v0, v1, some (.d (.tup (nm.map fun s => D.tup [.str s, (σ s).d]))), v3, v4, some (.d (.tup [.str s, (σ s).d])), v6, v7, v8, v9, v10], by simp [turnS, at_0], by simp [wipeS]⟩
  have hsat : Sat ps (fitOf qs) := (hs _).mpr he
  have hsab := (hs σ).mp K.tri.sat
  have ma := made_eq (ps := fsU ps σ) (.inl rfl) k a (by have := ha.lev; omega) ha.ok
  have mb := made_eq (ps := fsU ps σ) (.inl rfl) k b (by have := hb.lev; omega) hb.ok
  rw [fit_fsU K] at ma mb
  rw [← hsab] at mb
  have oka := (K.okt ha).1
  have eab := eq_tms oka (by have := K.levI ha; omega : (sb σ a).lev ≤ 60) oka (by have := K.levI ha; omega)
  simp at eab
  generalize hR : resU ps σ = R at *
  rw [call_run (x := "_law_fits") rfl rfl, fits_split]
  simp [e1, sz, tnS]
  refine forL_wp (E1P (some (.d a.d)) (some (.d b.d)) (some (.d (.tup R))) (some w) (some (.ls (O.map D.str))) none none none none none) ?_ ⟨_, rfl⟩ ?_
  · rintro i x env hx ⟨o5, rfl⟩
    obtain ⟨s, hsn, rfl⟩ := hget hx
    have hsO := hmO s hsn
    have hin := in_strs s O (asc s hsO) asc
    simp [hsO] at hin
    have it := is_term k (σ s) (by have := K.lev s; omega) (K.ok _ s (Nat.lt_succ_self _) hsO).1
    simp [forS, tnS, at_0, at_1, hin, it]
    exact ⟨_, rfl⟩
  · rintro env ⟨o5, rfl⟩
    simp [wipeS, comp, srt, eqn, dres, hdl]
    rw [fitsMid]
    simp
    refine forL_wp (E2P (some (.d a.d)) (some (.d b.d)) (some (.d (.tup R))) (some w) (some (.ls (O.map D.str))) none (some (.ls (nm.map D.str))) none) ?_ ⟨_, _, _, rfl⟩ ?_
    · rintro i x env hx ⟨o7, o8, o9, rfl⟩
      obtain ⟨s, hsn, rfl⟩ := hget hx
      have hsO := hmO s hsn
      have hfo := K.few_opens (ind_op K hsO)
      rw [sb_op] at hfo
      have hie := in_eq k (σ s) (by have := K.lev s; omega) (by omega)
      simp [forS, hie]
      refine forL_wp (E3P (some (.d a.d)) (some (.d b.d)) (some (.d (.tup R))) (some w) (some (.ls (O.map D.str))) none (some (.ls (nm.map D.str))) (some (.d (.str s))) (some (.d (σ s).d)) none) ?_ ⟨_, rfl⟩ ?_
      · rintro j y env hy ⟨o9, rfl⟩
        obtain ⟨z, hz, rfl⟩ : ∃ z, (σ s).opens[j]? = some z ∧ y = .str z := by
          rw [List.getElem?_map] at hy
          simp only [Option.map_eq_some_iff] at hy
          obtain ⟨q, e1, e2⟩ := hy
          exact ⟨q, e1, e2.symm⟩
        have hzm := List.mem_of_getElem? hz
        have hzO := (K.ok _ s (Nat.lt_succ_self _) hsO).2 z hzm
        have hzn : z ∉ nm := fun h => (hmm z).mp h (K.tri.fr hzm)
        have h1 := in_strs z nm (asc z hzO) (fun x hx => asc x (hmO x hx))
        have h2 := in_strs z O (asc z hzO) asc
        simp [hzn] at h1
        simp [hzO] at h2
        simp [forS, h1, h2]
        exact ⟨_, rfl⟩
      · rintro env ⟨o9, rfl⟩
        simp
        exact ⟨_, _, _, rfl⟩
    · rintro env ⟨o7, o8, o9, rfl⟩
      simp [dres, ma, mb, eab]
      refine fits_end K hw hv hall hsat hk fun e he' => ?_
      rcases hw with rfl | rfl
      · simp [he']
      · simp [he']
end
end K07
namespace K07
open PySem L2 Mn
theorem is_non {x : D} : isS (.d x) (.d .non) = some (.d (.bl (isNone x))) := by cases x <;> rfl
theorem right_eq {N : List (List Nat)} (few : N.length ≤ 6) (ops : ∀ x ∈ N, Op x) {a b : Tm} (ha : Ind N a) (hb : Ind N b) {k : Nat} (hk : 62 ≤ k) :
    Mn.call tab (k + 1) 22 [.d a.d, .d b.d] = some (.d (.bl true), [.d a.d, .d b.d]) := by
  have sub : ∀ x ∈ a.opens ++ b.opens, x ∈ N := fun x hx => (List.mem_append.mp hx).elim (ha.opens x) (hb.opens x)
  have opsO : ∀ x ∈ a.opens ++ b.opens, Op x := fun x hx => ops x (sub x hx)
  have ha' : Ind (a.opens ++ b.opens) a := ⟨ha.ok, ha.lev, ha.parts, fun y hy => List.mem_append_left _ hy⟩
  have hb' : Ind (a.opens ++ b.opens) b := ⟨hb.ok, hb.lev, hb.parts, fun y hy => List.mem_append_right _ hy⟩
  obtain ⟨k', rfl⟩ : ∃ k', k = k' + 1 := ⟨k - 1, by omega⟩
  obtain ⟨v1, us1, e1, rfl, h1⟩ := known_wp sub few opsO ha' hb' (k := k') (by omega)
  obtain ⟨v2, us2, e2, rfl, h2⟩ := joined_wp sub few opsO ha' hb' (k := k') (by omega)
  rw [call_run (x := "_law_right") rfl rfl]
  rcases h1 with ⟨rfl, h1⟩ | ⟨ps, r, σ, K, rfl, hs⟩
  · rcases h2 with ⟨rfl, h2⟩ | ⟨ps, r, σ, K, rfl, hs⟩
    · simp [cLawRight, e1, e2, is_non, isNone]
    · exact absurd ((hs σ).mp K.tri.sat) (h1 σ)
  · rcases h2 with ⟨rfl, h2⟩ | ⟨ps2, r2, σ2, K2, rfl, hs2⟩
    · exact absurd ((hs σ).mp K.tri.sat) (h2 σ)
    · obtain ⟨v3, us3, e3, qs, y, rfl, rfl, hc, hq⟩ := unlike_wp K ha' hb' (k := k') (by omega)
      have he : sb (fitOf qs) a = sb (fitOf qs) b := (hs _).mp (K.tri.back hq)
      obtain ⟨v4, us4, e4, rfl, y4, rfl⟩ := fits_wp K2 rfl ha' hb' hs2 (.inl rfl : Kd (.dc (kvD qs)) qs) (fun z u h => (hc.vals z u h).2) hc.all he (k := k') (by omega)
      have i1 : isS (.dc (kvD (clf ps σ))) (.d .non) = some (.d (.bl false)) := rfl
      simp [cLawRight, e1, e2, e3, e4, is_non, isNone, i1]
/-! ### made of one closed term -/
def InnP (t : Tm) (ts : List Tm) (i : Nat) (env : Mn.Env) : Prop := ∃ (l : List Tm) (o2 : Option Va), env = [some (.d t.d), some (.ls (l.map Tm.d)), o2] ∧ l.length = 1 + partsT (ts.take i) ∧ ∀ u ∈ l, Ind [] u
theorem closed_nd {t : Tm} (h : Ind [] t) : ∃ w ts, t = .nd w ts := by
  cases t with
  | op s => have := h.opens s (by simp [Tm.opens]); simp at this
  | nd w ts => exact ⟨w, ts, rfl⟩
theorem inner_wp : ∀ (k : Nat) (t : Tm), Ind [] t → t.lev ≤ k → wp (Mn.call tab k 15 [.d t.d]) fun v us => us = [.d t.d] ∧ ∃ l : List Tm, v = .ls (l.map Tm.d) ∧ l.length = t.parts ∧ ∀ u ∈ l, Ind [] u
  | 0, t, _, h => by have := t.lev_pos; omega
  | k + 1, t, ht, h => by
    obtain ⟨w, ts, rfl⟩ := closed_nd ht
    have hl : levT ts ≤ k := by simp only [Tm.lev] at h; omega
    have hpt := ht.parts
    simp only [Tm.parts] at hpt
    rw [call_run (x := "_law_inner") rfl rfl]
    have hs : (.d (Tm.nd w ts).d : Va) = .d (.tup (.str w :: dsT ts)) := rfl
    simp [cLawInner, sz]
    rw [hs]
    simp [cut_tail]
    refine forL_wp (InnP (.nd w ts) ts) ?_ ⟨[.nd w ts], none, by simp; rfl, by simp [partsT], fun u hu => by rw [List.mem_singleton.mp hu]; exact ht⟩ ?_
    · rintro i x env hx ⟨l, o2, rfl, hll, hlu⟩
      obtain ⟨t, h1, rfl⟩ : ∃ t, ts[i]? = some t ∧ x = t.d := by
        rw [dsT_map, List.getElem?_map] at hx
        simp only [Option.map_eq_some_iff] at hx
        obtain ⟨t, e1, e2⟩ := hx
        exact ⟨t, e1, e2.symm⟩
      have mt := List.mem_of_getElem? h1
      have hpp : partsT (ts.take (i + 1)) = partsT (ts.take i) + t.parts := by
        rw [List.take_succ, h1, partsT_app]
        simp [partsT]
      have hle : partsT (ts.take (i + 1)) ≤ partsT ts := by
        conv => rhs; rw [← List.take_append_drop (i + 1) ts, partsT_app]
        omega
      simp [forS]
      refine wp_imp (inner_wp k t (ht.sub mt) (Nat.le_trans (levT_mem mt) hl)) fun v us ⟨e1, l2, e2, h2, h3⟩ => ?_
      subst e1 e2
      simp [sz, show l.length + l2.length ≤ 16777216 by omega]
      refine ⟨l ++ l2, _, by rw [List.map_append], by rw [List.length_append, hpp]; omega, fun u hu => ?_⟩
      rcases List.mem_append.mp hu with z | z
      · exact hlu u z
      · exact h3 u z
    · rintro env ⟨l, o2, rfl, hll, hlu⟩
      have hlt : (dsT ts).length = ts.length := dsT_len ts
      rw [hlt, List.take_length] at hll
      simp
      exact ⟨l, rfl, by simp only [Tm.parts]; exact hll, hlu⟩
theorem take9 {k : Nat} (hk : 9 ≤ k) {cs : List Int} {s n m : Int} {Q : Va → List Va → Prop} (hm : 0 < m) (hm2 : m < 1073741824) (hc : cs.length ≤ 63)
    (q : ∀ r cs', 0 ≤ r → r < m → cs'.length ≤ 63 → Q (.d (.int r)) [.dk cs' s (n + 1), .d (.int m)]) : wp (Mn.call tab k 9 [.dk cs s n, .d (.int m)]) Q := take_wp (x := "_law_take") rfl hk hm hm2 hc q
/-- a dict of closed terms -/
structure Kc (qs : Kn) : Prop where
  nodup : (qs.map (·.1)).Nodup
  few : qs.length ≤ 6
  ops : ∀ x ∈ qs.map (·.1), Op x
  vals : ∀ q ∈ qs, Ind [] q.2
theorem Kc.fit {qs : Kn} (K : Kc qs) {s : List Nat} (h : s ∈ qs.map (·.1)) : look qs s = some (fitOf qs s) ∧ Ind [] (fitOf qs s) := by
  cases e : look qs s with
  | none => exact absurd h (look_none.mp e)
  | some u =>
    have : fitOf qs s = u := by simp [fitOf, e]
    rw [this]
    exact ⟨rfl, K.vals _ (look_mem e)⟩
def openRest : CB := (.cons (.asg 5 (.slc (.var 1) .none (.some (.lit (.int 1))))) (.cons (.for_ (.one 6) (.it (.slc (.var 1) (.some (.lit (.int 1))) .none)) (.cons (.asg 5 (.bin .Add (.var 5) (.tup (.cons (.cf 16 (.cons (.var 0) (.cons (.var 6) (.cons (.var 2) .nil)))) .nil)))) .nil)) (.cons (.ret (.var 5)) .nil)))
theorem opened_split : cLawOpened = (.cons (.asg 3 (.comp [("_law_name", 4)] (.one 4) (.it (.cb .sorted (.cons (.var 2) .nil))) (.cons (.cmp .Eq (.sub (.var 2) (.var 4)) (.var 1)) .nil) (.var 4))) (.cons (.ite (.and (.cons (.cmp .NotEq (.var 3) (.lst .nil)) (.cons (.cmp .Eq (.cf 9 (.cons (.var 0) (.cons (.lit (.int 2)) .nil))) (.lit (.int 1))) .nil))) (.cons (.ret (.sub (.var 3) (.cf 9 (.cons (.var 0) (.cons (.cb .len (.cons (.var 3) .nil)) .nil))))) .nil) .nil) openRest)) := rfl
def OpnP (s : Int) (t : Tm) (w : List Nat) (ts : List Tm) (qs : Kn) (v3 v4 : Option Va) (i : Nat) (env : Mn.Env) : Prop :=
  ∃ (cs : List Int) (n : Int) (us : List Tm) (o6 : Option Va), env = [some (.dk cs s n), some (.d t.d), some (.dc (kvD qs)), v3, v4, some (.d (.tup (.str w :: dsT us))), o6] ∧ cs.length ≤ 63 ∧ us.map (sb (fitOf qs)) = ts.take i ∧ partsT us ≤ partsT (ts.take i) ∧ ∀ u ∈ us, Ind (qs.map (·.1)) u
theorem opened_wp {qs : Kn} (K : Kc qs) {s : Int} : ∀ (j : Nat) (t : Tm) (k : Nat), t.lev ≤ j → Ind [] t → j + 9 ≤ k → ∀ (cs : List Int) (n : Int) (Q : Va → List Va → Prop), cs.length ≤ 63 →
    (∀ u cs' n', Ind (qs.map (·.1)) u → u.parts ≤ t.parts → sb (fitOf qs) u = t → cs'.length ≤ 63 → Q (.d u.d) [.dk cs' s n', .d t.d, .dc (kvD qs)]) →
    wp (Mn.call tab (k + 1) 16 [.dk cs s n, .d t.d, .dc (kvD qs)]) Q
  | 0, t, k, h, _ => by have := t.lev_pos; omega
  | j + 1, t, k, h, ht => fun hk cs n Q hc q => by
    have hfew := K.few
    obtain ⟨w, ts, rfl⟩ := closed_nd ht
    have hl : levT ts ≤ j := by simp only [Tm.lev] at h; omega
    obtain ⟨kq, rfl⟩ : ∃ kq, k = kq + 1 := ⟨k - 1, by omega⟩
    rw [call_run (x := "_law_opened") rfl rfl, opened_split]
    have hn1 : (sortT (qs.map (·.1))).length ≤ 6 := by rw [(sortT_perm _).length_eq, List.length_map]; exact hfew
    obtain ⟨F, hF⟩ : ∃ F, F = (sortT (qs.map (·.1))).filter fun x => decide (fitOf qs x = .nd w ts) := ⟨_, rfl⟩
    have hFm : ∀ x ∈ F, x ∈ qs.map (·.1) ∧ fitOf qs x = .nd w ts := fun x hx => by
      rw [hF, List.mem_filter, (sortT_perm _).mem_iff] at hx
      exact ⟨hx.1, of_decide_eq_true hx.2⟩
    have hFl : F.length ≤ 6 := by rw [hF]; exact Nat.le_trans (List.length_filter_le _ _) hn1
    have comp : ∀ (v0 v3 v5 v6 : Option Va), compL (turnS (Mn.call tab (kq + 1)) tab.con (.one 4) (.cons (.cmp .Eq (.sub (.var 2) (.var 4)) (.var 1)) .nil) (.var 4)) [4] ((sortT (qs.map (·.1))).map D.str) [v0, some (.d (Tm.nd w ts).d), some (.dc (kvD qs)), v3, none, v5, v6] [] = some (F.map D.str, [v0, some (.d (Tm.nd w ts).d), some (.dc (kvD qs)), v3, none, v5, v6]) := fun v0 v3 v5 v6 => by
      rw [hF]
      refine (compL_filter (f := D.str) (g := D.str) (p := fun x => decide (fitOf qs x = .nd w ts)) (fun x hx => ?_) (by rw [sz]; simp; omega)).trans (by simp)
      refine ⟨[v0, some (.d (Tm.nd w ts).d), some (.dc (kvD qs)), v3, some (.d (.str x)), v5, v6], ?_, by simp [wipeS]⟩
      have hx' : x ∈ qs.map (·.1) := (sortT_perm _).mem_iff.mp hx
      obtain ⟨f1, f2⟩ := K.fit hx'
      have e1 := item_kvS f1
      have e2 := eq_tms f2.ok (by have := f2.lev; omega) ht.ok (by have := ht.lev; omega)
      by_cases c : fitOf qs x = .nd w ts
      · simp [c] at e1 e2
        simp [turnS, e1, e2, c]
      · simp [c] at e2
        simp [turnS, e1, e2, c]
    have srt := sorted_kvU (ps := qs) (by omega)
    have rest : ∀ {cs1 : List Int} {n1 : Int} {v3 : Option Va}, cs1.length ≤ 63 → wp (exB (Mn.call tab (kq + 1)) tab.con openRest [some (.dk cs1 s n1), some (.d (Tm.nd w ts).d), some (.dc (kvD qs)), v3, none, none, none]) fun f e => wp (retF [0, 1, 2] [.dk cs s n, .d (Tm.nd w ts).d, .dc (kvD qs)] f e) Q := fun {cs1 n1 v3} hc1 => by
      have hs : (.d (Tm.nd w ts).d : Va) = .d (.tup (.str w :: dsT ts)) := rfl
      have hcut : Mn.cut (D.str w :: dsT ts) none (some 1) = [D.str w] := by
        rw [cut_pre _ (by decide)]
        rfl
      have h6 := ht.ok.2.1
      rw [hs]
      simp [openRest, cut_tail, hcut]
      refine forL_wp (OpnP s (.nd w ts) w ts qs v3 none) ?_ ⟨cs1, n1, [], none, by simp [dsT]; rfl, hc1, by simp, by simp [partsT], fun _ h => nomatch h⟩ ?_
      · rintro i x env hx ⟨cs2, n2, us, o6, rfl, hc2, hus, hup, hui⟩
        obtain ⟨t, h1, rfl⟩ : ∃ t, ts[i]? = some t ∧ x = t.d := by
          rw [dsT_map, List.getElem?_map] at hx
          simp only [Option.map_eq_some_iff] at hx
          obtain ⟨t, e1, e2⟩ := hx
          exact ⟨t, e1, e2.symm⟩
        have mt := List.mem_of_getElem? h1
        have hi := (List.getElem?_eq_some_iff.mp h1).1
        have hul : us.length = i := by
          have := congrArg List.length hus
          rw [List.length_map, List.length_take] at this
          omega
        simp [forS]
        refine opened_wp K j t kq (Nat.le_trans (levT_mem mt) hl) (ht.sub mt) (by omega) _ _ _ hc2 fun u cs3 n3 hu hpu hsu hc3 => ?_
        have hz : (D.str w :: dsT us).length + [u.d].length ≤ szL := by
          rw [sz, List.length_cons, dsT_map, List.length_map]
          simp
          omega
        simp [sz]
        rw [add_t hz]
        simp
        refine ⟨cs3, n3, us ++ [u], some (.d t.d), by simp [dsT_app, dsT], hc3, ?_, ?_, fun v hv => ?_⟩
        · rw [List.map_append, hus, List.take_succ, h1]
          simp [hsu]
        · rw [partsT_app, List.take_succ, h1, partsT_app]
          simp [partsT]
          omega
        · rcases List.mem_append.mp hv with z | z
          · exact hui v z
          · rw [List.mem_singleton.mp z]; exact hu
      · rintro env ⟨cs2, n2, us, o6, rfl, hc2, hus, hup, hui⟩
        have hlt : (dsT ts).length = ts.length := dsT_len ts
        rw [hlt, List.take_length] at hus hup
        have hq := q (.nd w us) cs2 n2 ⟨⟨ht.ok.1, ?_, ?_⟩, ?_, ?_, fun y hy => ?_⟩ ?_ ?_ hc2
        · simpa [Tm.d] using hq
        · have := congrArg List.length hus
          rw [List.length_map] at this
          omega
        · exact okTs_mem'.mpr fun u hu => (hui u hu).ok
        · have h1 := ht.lev
          have h2 : levT us ≤ levT ts := by
            rw [← hus, ← sbs_map]
            exact levs_sb_ge us
          simp only [Tm.lev] at h1 ⊢
          omega
        · have h1 := ht.parts
          simp only [Tm.parts] at h1 ⊢
          omega
        · simp only [Tm.opens] at hy
          obtain ⟨u, hu, hy⟩ := opensT_mem.mp hy
          exact (hui u hu).opens y hy
        · simp only [Tm.parts]
          omega
        · rw [sb_nd, hus]
    have s0 : ∀ (Φ : Nat → List Va → Option (Va × List Va)) (Γ : Nat → Option D) (e : Mn.Env) (x : CS) (r : CB), exB Φ Γ (.cons x r) e = bnd (exS Φ Γ x e) fun f e => seqF f e (exB Φ Γ r) := fun Φ Γ e x r => b_cons' x r e
    rw [s0]
    simp [srt, wipeS, comp, ne_nil_strs]
    by_cases hF0 : F = []
    · simp [hF0]
      exact rest hc
    · simp [hF0]
      refine take9 (by omega) (by decide) (by decide) hc fun r1 cs1 h0 h1 hc1 => ?_
      by_cases hr : r1 = 1
      · have hFp : 0 < F.length := List.length_pos_iff.mpr hF0
        simp [hr]
        refine take9 (by omega) (by omega) (by omega) hc1 fun r2 cs2 h2 h3 hc2 => ?_
        obtain ⟨z, hz, e1⟩ := at_strs (L := F) h2 h3
        obtain ⟨z1, z2⟩ := hFm z hz
        simp [e1]
        have hp := ht.parts
        have hp1 := (Tm.nd w ts).parts_pos
        exact q (.op z) cs2 _ ⟨K.ops z z1, by simp [Tm.lev], by simp [Tm.parts], fun y hy => by simp [Tm.opens] at hy; rw [hy]; exact z1⟩ (by simpa [Tm.parts] using hp1) z2 hc2
      · simp [hr]
        exact rest hc1
end K07
namespace K07
open PySem L2 Mn
def OneP (W O : List (List Nat)) (s : Int) (t : Tm) (l : List Tm) (i : Nat) (env : Mn.Env) : Prop :=
  ∃ (cs : List Int) (n : Int) (qs : Kn) (o6 : Option Va), env = [some (.dk cs s n), some (.ls (W.map D.str)), some (.d (.lst (O.map D.str))), some (.d t.d), some (.ls (l.map Tm.d)), some (.dc (kvD qs)), o6, none] ∧ cs.length ≤ 63 ∧ qs.map (·.1) = O.take i ∧ ∀ q ∈ qs, Ind [] q.2
theorem one_wp {W O : List (List Nat)} (hW : ∀ x ∈ W, Wo x) (hW1 : 1 ≤ W.length) (hW2 : W.length ≤ 1000) (hO : ∀ x ∈ O, Op x) (hnd : O.Nodup) (hO2 : O.length ≤ 6) {cs : List Int} {s n : Int} (hc : cs.length ≤ 63) {Q : Va → List Va → Prop}
    (q : ∀ u1 u2 qs cs' n', Kc qs → qs.map (·.1) = O → Ind O u1 → Ind O u2 → sb (fitOf qs) u1 = sb (fitOf qs) u2 → cs'.length ≤ 63 → Q (.d (.tup [u1.d, u2.d, .dct (qs.map (·.1)) (qs.map fun q => q.2.d)])) [.dk cs' s n', .ls (W.map D.str), .d (.lst (O.map D.str))]) :
    wp (Mn.call tab (98 + 1) 17 [.dk cs s n, .ls (W.map D.str), .ls (O.map D.str)]) Q := by
  rw [call_run (x := "_law_from_one") rfl rfl]
  simp [cLawFromOne]
  refine take9 (by decide) (by decide) (by decide) hc fun r1 cs1 h0 h1 hc1 => ?_
  simp
  refine take9 (by decide) (by decide) (by decide) hc1 fun r2 cs2 h2 h3 hc2 => ?_
  simp [sz]
  obtain ⟨dp, hdp⟩ : ∃ dp : Nat, 1 + r1 = dp := ⟨(1 + r1).toNat, by omega⟩
  rw [hdp]
  refine term_wpL (O := []) (tk := 9) (xt := "_law_take") (xf := "_law_term") rfl rfl dp 97 (by omega) hW (by omega) (by omega) (fun _ h => nomatch h) (by simp) hc2 (by omega) fun t cs3 n3 l3 ht hl3 hl30 hc3 => ?_
  have hti : Ind [] t := ⟨ht.ok, Nat.le_trans ht.lev (by omega), by omega, fun y hy => ht.opens y hy⟩
  simp
  refine wp_imp (inner_wp 98 t hti (by have := hti.lev; omega)) fun v us ⟨e1, l, e2, hl, hlu⟩ => ?_
  subst e1 e2
  have hlp : l.length ≤ 13 := by have := hti.parts; omega
  simp
  refine forL_wp (OneP W O s t l) ?_ ⟨cs3, _, [], _, rfl, hc3, by simp, fun _ h => nomatch h⟩ ?_
  · rintro i x env hx ⟨cs8, n8, qs, o6, rfl, hc8, hkeys, hcl⟩
    obtain ⟨z, hz, rfl⟩ : ∃ z, O[i]? = some z ∧ x = .str z := by
      rw [List.getElem?_map] at hx
      simp only [Option.map_eq_some_iff] at hx
      obtain ⟨a, e1, e2⟩ := hx
      exact ⟨a, e1, e2.symm⟩
    have hi := (List.getElem?_eq_some_iff.mp hz).1
    have hpl : qs.length ≤ 6 := by
      have := congrArg List.length hkeys
      rw [List.length_map, List.length_take] at this
      omega
    have hkl : (kvD qs).length = qs.length := by simp [kvD]
    have hn : z ∉ qs.map (·.1) := by
      rw [hkeys]
      intro hm
      have e : O = O.take i ++ z :: O.drop (i + 1) := by
        have ez : O[i] = z := (List.getElem?_eq_some_iff.mp hz).2
        have := List.take_append_drop i O
        rw [List.drop_eq_getElem_cons hi, ez] at this
        exact this.symm
      rw [e, List.nodup_append] at hnd
      exact hnd.2.2 z hm z List.mem_cons_self rfl
    obtain ⟨w0, hw0, e0⟩ := at_strs (L := W) (r := 0) (by omega) (by omega)
    have hadd : addS (.ls (l.map Tm.d)) (.ls [.tup [.str w0]]) = some (.ls ((l ++ [Tm.nd w0 []]).map Tm.d)) := by
      rw [add_l (by rw [sz]; simp; omega), List.map_append]
      rfl
    simp [forS, e0, sz, hadd, show l.length + 1 ≤ 16777216 by omega]
    refine take9 (by decide) (by omega) (by omega) hc8 fun r3 cs9 a0 a1 hc9 => ?_
    obtain ⟨u, e1, hu⟩ := atI_lt (xs := l ++ [Tm.nd w0 []]) (r := r3) a0 (by simp; omega)
    have e2 : Mn.atI ((l ++ [Tm.nd w0 []]).map Tm.d) r3 = some u.d := by
      unfold Mn.atI at e1 ⊢
      rw [List.length_map]
      simp only [Option.bind_eq_some_iff] at e1 ⊢
      obtain ⟨j, a1, a2⟩ := e1
      exact ⟨j, a1, by rw [List.getElem?_map, a2]; rfl⟩
    have hui : Ind [] u := by
      rcases List.mem_append.mp hu with z | z
      · exact hlu u z
      · rw [List.mem_singleton.mp z]
        exact ⟨⟨hW w0 hw0, by simp, trivial⟩, by simp [Tm.lev, levT], by simp [Tm.parts, partsT], fun y hy => by simp [Tm.opens, opensT] at hy⟩
    simp only [List.map_append, List.map_cons, List.map_nil] at e2
    simp [e2, setV, sz, hkl, put_new hn u, show qs.length < 16777216 by omega]
    refine ⟨cs9, _, qs ++ [(z, u)], _, rfl, hc9, ?_, fun q hq => ?_⟩
    · rw [List.map_append, hkeys, List.take_succ, hz]
      rfl
    · rcases List.mem_append.mp hq with hq | hq
      · exact hcl q hq
      · simp only [List.mem_singleton] at hq
        subst hq
        exact hui
  · rintro env ⟨cs8, n8, qs, o6, rfl, hc8, hkeys, hcl⟩
    rw [List.length_map, List.take_length] at hkeys
    have hpl : qs.length ≤ 6 := by
      have := congrArg List.length hkeys
      rw [List.length_map] at this
      omega
    have K : Kc qs := ⟨by rw [hkeys]; exact hnd, hpl, by rw [hkeys]; exact hO, hcl⟩
    simp
    refine opened_wp K 5 t 97 hti.lev hti (by omega) _ _ _ hc8 fun u1 cs9 n9 hu1 hp1 hs1 hc9 => ?_
    simp
    refine opened_wp K 5 t 97 hti.lev hti (by omega) _ _ _ hc9 fun u2 cs10 n10 hu2 hp2 hs2 hc10 => ?_
    have hk1 : (kvD qs).map (·.1) = qs.map (·.1) := kv_keys qs
    have hk2 : (kvD qs).map (·.2) = qs.map fun q => q.2.d := by
      unfold kvD
      rw [List.map_map]
      rfl
    simp [fzV, sz]
    rw [hk1, hk2]
    rw [hkeys] at hu1 hu2
    exact q u1 u2 qs cs10 n10 K hkeys hu1 hu2 (hs1.trans hs2.symm) hc10
theorem deck_eq (ns : List Int) (h : ns.length ≤ 63) : Mn.call tab 99 8 [.scr ns] = some (.dk ns.reverse (ns.sum + ns.length) 0, [.scr ns]) := by
  rw [call_prim (x := "_law_deck") (n := 1) (p := deckA) rfl rfl (by decide)]
  show (if ns.length ≤ 63 then _ else none) = _
  rw [if_pos h]
def LawP (ns : List Int) (i : Nat) (env : Mn.Env) : Prop := ∃ cs s n o2 o3 o4 o5 o6 o7 o8 o9 o10 o11 o12, env = [some (.scr ns), some (.dk cs s n), o2, o3, o4, o5, o6, o7, o8, o9, o10, o11, o12] ∧ cs.length ≤ 63
theorem main (ns : List Int) (h : ns.length ≤ 63) : ∃ us, Mn.call tab lvl 23 [.scr ns] = some (.d (.bl true), us) := by
  suffices hh : wp (Mn.call tab (99 + 1) 23 [.scr ns]) fun a b => a = .d (.bl true) by
    obtain ⟨a, b, e, rfl⟩ := hh
    exact ⟨b, e⟩
  rw [call_run (x := "law") rfl rfl]
  simp [cLaw, deck_eq ns h]
  refine forL_wp (LawP ns) ?_ ⟨ns.reverse, _, 0, none, none, none, none, none, none, none, none, none, none, none, rfl, by simpa using h⟩ ?_
  · rintro i x env hx ⟨cs, s, n, o2, o3, o4, o5, o6, o7, o8, o9, o10, o11, o12, rfl, hc⟩
    simp [forS]
    refine take9 (by decide) (by decide) (by decide) hc fun r1 cs1 h0 h1 hc1 => ?_
    simp
    refine words_wp (tk := 9) (xt := "_law_take") rfl (xf := "_law_words") rfl (k := 98) (by decide) (by omega) (by omega) hc1 fun W cs2 n2 hW hWl hc2 => ?_
    simp
    refine take9 (by decide) (by decide) (by decide) hc2 fun r2 cs3 h2 h3 hc3 => ?_
    simp
    refine opens_wpN (tk := 9) (xt := "_law_take") rfl (xf := "_law_opens") rfl (k := 98) (by decide) (by omega) hc3 fun O cs4 n4 hO hnd _ hO2 hO1 hc4 => ?_
    have hO6 : O.length ≤ 6 := by omega
    simp
    refine one_wp hW (by omega) (by omega) hO hnd hO6 hc4 fun u1 u2 qs cs5 n5 K hk hu1 hu2 hse hc5 => ?_
    have right : ∀ {a b : Tm}, Ind O a → Ind O b → Mn.call tab 99 22 [.d a.d, .d b.d] = some (.d (.bl true), [.d a.d, .d b.d]) := fun {a b} ha hb => right_eq hO6 hO ha hb (k := 98) (by omega)
    have sub : ∀ x ∈ u1.opens ++ u2.opens, x ∈ O := fun x hx => (List.mem_append.mp hx).elim (hu1.opens x) (hu2.opens x)
    have hu1' : Ind (u1.opens ++ u2.opens) u1 := ⟨hu1.ok, hu1.lev, hu1.parts, fun y hy => List.mem_append_left _ hy⟩
    have hu2' : Ind (u1.opens ++ u2.opens) u2 := ⟨hu2.ok, hu2.lev, hu2.parts, fun y hy => List.mem_append_right _ hy⟩
    obtain ⟨v, us, ej, rfl, hJ⟩ := joined_wp sub hO6 (fun x hx => hO x (sub x hx)) hu1' hu2' (k := 98) (by omega)
    rcases hJ with ⟨_, hno⟩ | ⟨ps, r, σ, KK, rfl, hs⟩
    · exact absurd hse (hno _)
    obtain ⟨v4, us4, ef, rfl, y4, rfl⟩ := fits_wp KK rfl hu1' hu2' hs (.inr rfl : Kd (.d (.dct (qs.map (·.1)) (qs.map fun q => q.2.d))) qs) (fun z u h => ⟨(K.vals _ (look_mem h)).ok, by have := (K.vals _ (look_mem h)).lev; simp only at this; omega⟩) (fun z hz e => look_none.mp e (by rw [hk]; exact sub z hz)) hse (k := 98) (by omega)
    have g1 := right hu1 hu2
    have g2 := right hu2 hu1
    simp [ej, ef, g1, g2, is_non, isNone]
    refine take9 (by decide) (by decide) (by decide) hc5 fun r3 cs6 h4 h5 hc6 => ?_
    simp
    refine take9 (by decide) (by decide) (by decide) hc6 fun r4 cs7 h6 h7 hc7 => ?_
    simp [sz]
    obtain ⟨dp, hdp⟩ : ∃ dp : Nat, 1 + r3 = dp := ⟨(1 + r3).toNat, by omega⟩
    rw [hdp]
    refine term_wpFL (tk := 9) (xt := "_law_take") (xf := "_law_term") rfl rfl dp 98 (by omega) hW (by omega) (by omega) hO (by omega) hc7 (by omega) fun t cs8 n8 l8 ht hl8 hl80 hc8 => ?_
    have hti : Ind O t := ⟨ht.ok, Nat.le_trans ht.lev (by omega), by omega, ht.opens⟩
    simp
    refine take9 (by decide) (by decide) (by decide) hc8 fun r5 cs9 a0 a1 hc9 => ?_
    simp [sz]
    refine term_wpFL (tk := 9) (xt := "_law_take") (xf := "_law_term") rfl rfl dp 98 (by omega) hW (by omega) (by omega) hO (by omega) hc9 (by omega) fun t2 cs10 n10 l10 ht2 hl10 hl100 hc10 => ?_
    have hti2 : Ind O t2 := ⟨ht2.ok, Nat.le_trans ht2.lev (by omega), by omega, ht2.opens⟩
    have hOl : 0 < O.length := hO1 (by omega)
    obtain ⟨z0, m0, e0⟩ := at_strs (L := O) (r := 0) (by omega) (by omega)
    obtain ⟨z1, m1, e1⟩ : ∃ z1 ∈ O, Mn.atI (O.map D.str) (-1) = some (.str z1) := by
      refine ⟨O[O.length - 1], List.getElem_mem _, ?_⟩
      unfold Mn.atI Mn.ixN
      rw [if_neg (by decide), if_pos (by simp; omega)]
      have e9 : ((-1 : Int) + (O.length : Int)).toNat = O.length - 1 := by omega
      have l9 : O.length - 1 < O.length := by omega
      simp [e9, List.getElem?_eq_getElem l9]
    have iop : ∀ {z}, z ∈ O → Ind O (.op z) := fun {z} hz => ⟨hO z hz, by simp [Tm.lev], by simp [Tm.parts], fun y hy => by simp [Tm.opens] at hy; rw [hy]; exact hz⟩
    have p1 := right hti hti2
    have p2 := right hti2 hti
    have p3 := right hti hti
    have p4 := right hti (iop m0)
    have p5 := right (iop m1) hti2
    have p6 := right (iop m0) (iop m1)
    have d0 : (Tm.op z0).d = .str z0 := rfl
    have d1 : (Tm.op z1).d = .str z1 := rfl
    rw [d0] at p4 p6
    rw [d1] at p5 p6
    simp [e0, e1, sz, forL, forS, p1, p2, p3, p4, p5, p6]
    exact ⟨_, _, _, _, _, _, _, _, _, _, _, _, _, _, rfl, hc10⟩
  · rintro env ⟨cs, s, n, o2, o3, o4, o5, o6, o7, o8, o9, o10, o11, o12, rfl, hc⟩
    simp
end K07
namespace K07
open PySem L2 Mn
abbrev sDeck : Stmt := top 11
abbrev sTake : Stmt := top 12
theorem scT : FnScope ["_law_deck_here", "_law_most", "_law_cells", "_law_cell"] ["_law_deck_here", "_law_most"] (defScope sTake) := ⟨rfl, rfl, rfl, by decide +kernel, rfl, by decide +kernel, by decide +kernel⟩
theorem scD : FnScope ["_law_script"] ["_law_script"] (defScope sDeck) := ⟨rfl, rfl, rfl, by decide +kernel, rfl, by decide +kernel, by decide +kernel⟩
section
variable {P : Program} {w : World} {K : PySem.W.Frag} {mg : Str → Option Value} {base : Heap} {f g : Addr} {fd gd : FuncData}
theorem ok_take {n : Nat} {ps : List Str} {F : List Va → Option (Va × List Va)} (hF : ∀ c k, F [.d (.int c), .d (.int k)] = some (.d (.int (mixA c k)), [.d (.int c), .d (.int k)])) (T : Fun K "_law_take" "_law_take" sTake f fd) (G : FnOk P w K mg base CX0 n g gd ps (spF K F 2)) (bG : Binds K gd ps []) (kG : PySem.W.keepIn K (.ref g) = true) (mG : mg "_law_mixed" = some (.ref g)) :
    FnOk P w K mg base CX0 (n + 1) f fd ["_law_deck_here", "_law_most"] (spF K takeA 2) := by
  refine T.ok scT (fun vs H Q E h => h.1) (fun cdv A outer s H vs Q E hr h => ?_)
  obtain ⟨hlen, ws, f0, r, us, ra, nd, hc, q⟩ := h
  have hu := room65 hr
  unfold takeA at hc
  split at hc
  · rename_i cs s0 n0 m
    split at hc
    · rename_i hm
      obtain ⟨hm1, hm2, hm3⟩ := hm
      simp only [Option.some.injEq, Prod.mk.injEq] at hc
      obtain ⟨rfl, rfl⟩ := hc
      obtain ⟨v1, t1, g1, g2, rfl, r1, ⟨v2, t2, g3, g4, rfl, r2, ⟨rfl, rfl⟩, p2⟩, p1⟩ := ra
      obtain ⟨a, c, rfl, rfl, hA, hC⟩ := r1
      obtain ⟨rfl, r2⟩ := r2
      simp only [RepD] at r2
      subst r2
      have e4 : g2 = [] := by simpa using p2
      subst e4
      have nd' : [a, c].Nodup := by simpa using p1.nodup_iff.mp nd
      have hac : a ≠ c := by simpa using nd'
      refine ⟨_, pss_cons (ps_set (i := 2) scT.nd rfl (Or.inl rfl) (pe_ix ix_list (pv 0) pe_int (fun _ _ => rfl)))
        (pss_cons (ps_asg (pe_op op_add (pe_ix ix_list (pv 0) pe_int (fun _ _ => rfl)) pe_int) (pg_sub (pv 0) pe_int set_list))
        (pss_cons (ps_if (pt_cmpR (op_cmp hu .Eq) (pv 2) (pe_lst pa_nil) (nomark _))
          (pss_one (ps_ret (pe_op op_mod (pe_call G hr rfl mG kG bG .nil pass0 (pa_cons (pe_ix ix_list (pv 0) pe_int (fun _ _ => rfl)) (pa_cons (pe_ix ix_list (pv 0) pe_int (fun _ _ => rfl)) pa_nil))) (pv 1)))) pss_nil)
        (pss_cons (ps_set (i := 3) scT.nd rfl (Or.inl rfl) (pe_bm0 PySem.F.plainAttrs_list PySem.F.slot_list_pop PySem.F.type_list_pop mt_pop (pv 2)))
        (pss_cons (ps_if (pt_cmpR op_lt (pv 3) (pe_op op_pow pe_int pe_int) (nomark _))
          (pss_one (ps_ret (pe_op op_mod (pe_call G hr rfl mG kG bG .nil pass0 (pa_cons (pv 3) (pa_cons (pe_ix ix_list (pv 0) pe_int (fun _ _ => rfl)) pa_nil))) (pv 1)))) pss_nil)
        (pss_cons (ps_if (pt_cmpR op_gt (pe_op op_fdiv (pv 3) (pv 1)) pe_int (nomark _))
          (pss_one (ps_expr (pe_bm PySem.F.plainAttrs_list PySem.F.slot_list_append PySem.F.type_list_append mt_append (pv 2) (pa_cons (pe_op op_fdiv (pv 3) (pv 1)) pa_nil)))) pss_nil)
        (pss_one (ps_ret (pe_op op_mod (pv 3) (pv 1))))))))), ?_⟩
      -- the ends
      have fin : ∀ (r : Int) (H' : Hp) (cs' : List Int), H' a = some (.lst [.ref c, .int s0, .int (n0 + 1)]) → H' c = some (.lst (cs'.map V.int)) → Stp H [a, c] H' [a, c] → drawA cs s0 n0 m = (r, cs') → Q (.int r) H' := fun r H' cs' h1 h2 st e => by
        rw [e] at q
        refine q (.int r) H' [] [a, c] (mk_int r) ⟨.ref a, _, [a, c], [], rfl, ⟨a, c, rfl, rfl, h1, h2⟩, ⟨.int m, [], [], [], rfl, mk_int m, ⟨rfl, rfl⟩, .refl _⟩, by simp⟩ (by simpa using nd') ?_
        refine ⟨st.1, fun b o hb hn => st.2.1 b o hb fun z => hn (p1.mem_iff.mpr (by simpa using z)), fun b hb => ?_⟩
        exact (st.2.2 b (by simpa using hb)).imp (fun z => p1.mem_iff.mpr (by simpa using z)) id
      refine ⟨_, rfl, a, _, 0, _, rfl, rfl, SqL.of hA, get0, ?_⟩
      refine ⟨_, rfl, a, _, 2, _, rfl, rfl, SqL.of hA, get2, n0, 1, rfl, rfl, _, rfl, a, _, 2, 2, rfl, rfl, hA, rfl, ?_⟩
      generalize hH1 : upd H a (.lst ([V.ref c, V.int s0, V.int n0].set 2 (V.int (n0 + 1)))) = H1
      have hA1 : H1 a = some (.lst [.ref c, .int s0, .int (n0 + 1)]) := by rw [← hH1]; exact upd_same
      have hC1 : H1 c = some (.lst (cs.map V.int)) := by rw [← hH1, upd_ne (Ne.symm hac)]; exact hC
      have st1 : Stp H [a, c] H1 [a, c] := by rw [← hH1]; exact stp_upd (by simp) hA (.inl ⟨_, rfl⟩)
      refine ⟨_, rfl, (by show 0 ≤ sizeLine; decide), fun p hp => ?_⟩
      have hap : a ≠ p := fun z => by rw [z, hp] at hA1; cases hA1
      have hcp : c ≠ p := fun z => by rw [z, hp] at hC1; cases hC1
      refine ⟨.ls (cs.map D.int), .ls [], [c], [p], _, ⟨c, _, rfl, rfl, by rw [upd_ne hcp]; exact hC1, rep_ints cs⟩, ⟨p, [], rfl, rfl, upd_same, RepDs.nil⟩, eq_nil cs, fun v H3 fr rv nw => ⟨_, rep_bl rv, ?_⟩⟩
      have hA3 : H3 a = some (.lst [.ref c, .int s0, .int (n0 + 1)]) := nw.1 _ _ (by rw [upd_ne hap]; exact hA1)
      have hC3 : H3 c = some (.lst (cs.map V.int)) := nw.1 _ _ (by rw [upd_ne hcp]; exact hC1)
      have st3 : Stp H [a, c] H3 [a, c] := by
        have tr : ∀ b ∈ [a, c], H1 b ≠ none := fun b hb => by
          simp only [List.mem_cons, List.not_mem_nil, or_false] at hb
          rcases hb with rfl | rfl
          · rw [hA1]; exact fun z => nomatch z
          · rw [hC1]; exact fun z => nomatch z
        have s2 := ((New.pure (o := .lst []) hp).stp tr nd').2
        have tr2 : ∀ b ∈ [a, c], (upd H1 p (.lst [])) b ≠ none := fun b hb => by
          rw [upd_ne (fun z => by
            subst z
            exact tr b hb hp)]
          exact tr b hb
        have s3 := (nw.stp tr2 nd').2
        exact (st1.trans (by simpa using s2)).trans (s3.sub fun b hb => List.mem_append_right _ hb)
      cases hcs : cs.getLast? with
      | none =>
        have hnil : cs = [] := List.getLast?_eq_none_iff.mp hcs
        subst hnil
        refine iteT ?_
        refine ⟨_, rfl, a, _, 1, _, rfl, rfl, SqL.of hA3, get1, _, rfl, a, _, 2, _, rfl, rfl, SqL.of hA3, get2, rfl, [.d (.int s0), .d (.int (n0 + 1))], [], _, _, ⟨_, _, [], [], rfl, mk_int s0, ⟨_, _, [], [], rfl, mk_int _, ⟨rfl, rfl⟩, .refl _⟩, .refl _⟩, List.nodup_nil, hF _ _, fun v H4 g4 f4 rv4 ra4 nd4 st4 => ?_⟩
        have ev := rv4.2
        simp only [RepD] at ev
        subst ev
        refine ⟨_, rfl, _, m, rfl, rfl, hm1, fin _ H4 [] (st4.2.1 _ _ hA3 (by simp)) (st4.2.1 _ _ hC3 (by simp)) ?_ rfl⟩
        refine ⟨st3.1.trans st4.1, fun b o hb hn => st4.2.1 b o (st3.2.1 b o hb hn) (by simp), fun b hb => .inl hb⟩
      | some cl =>
        have hsp : cs = cs.dropLast ++ [cl] := by
          obtain ⟨ys, hy⟩ := List.getLast?_eq_some_iff.mp hcs
          rw [hy]
          simp
        have hne : cs ≠ [] := fun z => by rw [z] at hcs; cases hcs
        have hemp : cs.isEmpty = false := by
          cases cs with
          | nil => exact absurd rfl hne
          | cons => rfl
        rw [hemp]
        refine iteF ?_
        have hlast : (cs.map V.int)[(cs.map V.int).length - 1]? = some (V.int cl) := by
          rw [← List.getLast?_eq_getElem?, List.getLast?_map, hcs]
          rfl
        have hdl : (cs.map V.int).dropLast = cs.dropLast.map V.int := by rw [List.map_dropLast]
        refine ⟨_, rfl, .inl ⟨rfl, _, SqL.of hC3⟩, c, _, _, rfl, rfl, hC3, hlast, ?_⟩
        rw [hdl]
        generalize hH4 : upd H3 c (.lst (cs.dropLast.map V.int)) = H4
        have hA4 : H4 a = some (.lst [.ref c, .int s0, .int (n0 + 1)]) := by rw [← hH4, upd_ne hac]; exact hA3
        have hC4 : H4 c = some (.lst (cs.dropLast.map V.int)) := by rw [← hH4]; exact upd_same
        have st4 : Stp H [a, c] H4 [a, c] := st3.trans (by rw [← hH4]; exact stp_upd (by simp) hC3 (.inl ⟨_, rfl⟩))
        refine ⟨_, rfl, 10, 18, rfl, rfl, (by unfold CPow; decide), cl, _, rfl, rfl, _, rfl, ?_⟩
        have h18 : (10 : Int) ^ (18 : Int).toNat = 1000000000000000000 := by decide
        rw [h18]
        refine ite2 (fun hlt => ?_) (fun hlt => ?_)
        · have hlt' : cl < 1000000000000000000 := of_decide_eq_true hlt
          refine ⟨_, rfl, _, rfl, a, _, 2, _, rfl, rfl, SqL.of hA4, get2, rfl, [.d (.int cl), .d (.int (n0 + 1))], [], _, _, ⟨_, _, [], [], rfl, mk_int cl, ⟨_, _, [], [], rfl, mk_int _, ⟨rfl, rfl⟩, .refl _⟩, .refl _⟩, List.nodup_nil, hF _ _, fun v H5 g5 f5 rv5 ra5 nd5 st5 => ?_⟩
          have ev := rv5.2
          simp only [RepD] at ev
          subst ev
          refine ⟨_, rfl, _, m, rfl, rfl, hm1, fin _ H5 cs.dropLast (st5.2.1 _ _ hA4 (by simp)) (st5.2.1 _ _ hC4 (by simp)) ?_ ?_⟩
          · exact ⟨st4.1.trans st5.1, fun b o hb hn => st5.2.1 b o (st4.2.1 b o hb hn) (by simp), fun b hb => .inl hb⟩
          · unfold drawA
            rw [hcs]
            simp only [hlt', if_true]
        · have hlt' : ¬ cl < 1000000000000000000 := of_decide_eq_false (Bool.eq_false_iff.mpr hlt)
          refine ⟨_, rfl, _, rfl, cl, m, rfl, rfl, ⟨hm1, hm2⟩, _, 0, rfl, rfl, _, rfl, ?_⟩
          refine ite2 (fun hpos => ?_) (fun hpos => ?_)
          · have hpos' : 0 < cl / m := of_decide_eq_true hpos
            refine ⟨_, rfl, .inl ⟨rfl, _, SqL.of hC4⟩, _, rfl, _, rfl, cl, m, rfl, rfl, ⟨hm1, hm2⟩, c, _, _, rfl, rfl, hC4, ?_, ?_⟩
            · rw [List.length_map, List.length_dropLast]
              have : cs.length ≤ 1000 := hm3
              exact small1000 (by omega)
            refine ⟨_, rfl, _, rfl, cl, m, rfl, rfl, hm1, fin _ _ (cs.dropLast ++ [cl / m]) ?_ ?_ (st4.trans (stp_upd (by simp) hC4 (.inl ⟨_, rfl⟩))) ?_⟩
            · rw [upd_ne hac]; exact hA4
            · rw [upd_same, List.map_append]
              rfl
            · unfold drawA
              rw [hcs]
              simp only [hlt', hpos', if_true, if_false]
          · have hpos' : ¬ 0 < cl / m := of_decide_eq_false (Bool.eq_false_iff.mpr hpos)
            refine ⟨_, rfl, _, rfl, cl, m, rfl, rfl, hm1, fin _ _ cs.dropLast hA4 hC4 st4 ?_⟩
            unfold drawA
            rw [hcs]
            simp only [hlt', hpos', if_false]
    · cases hc
  · cases hc
theorem ok_deck {n : Nat} (T : Fun K "_law_deck" "_law_deck" sDeck f fd) (ml : mg "list" = none) (mr : mg "reversed" = none) (ms : mg "sum" = none) (mn : mg "len" = none) :
    FnOk P w K mg base CX0 (n + 1) f fd ["_law_script"] (spF K deckA 1) := by
  refine T.ok scD (fun vs H Q E h => h.1) (fun cdv A outer s H vs Q E hr h => ?_)
  obtain ⟨hlen, ws, f0, r, us, ra, nd, hc, q⟩ := h
  unfold deckA at hc
  split at hc
  · rename_i ns
    split at hc
    · rename_i hm
      simp only [Option.some.injEq, Prod.mk.injEq] at hc
      obtain ⟨rfl, rfl⟩ := hc
      obtain ⟨v1, t1, g1, g2, rfl, ⟨rfl, a, rfl, hS⟩, ⟨rfl, rfl⟩, p1⟩ := ra
      have hf0 : f0 = [] := by simpa using p1
      subst hf0
      have sq : SqL K H a (ns.map V.int) := by
        rcases hS with ⟨o, h⟩ | h
        · exact .inl (.inr ⟨o, h⟩)
        · rcases h with (h | ⟨o, h⟩) | h
          · cases h
          · cases h
          · exact .inr h
      have ab : ∀ {H' : Hp}, (∀ b o, H b = some o → H' b = some o) → SqL K H' a (ns.map V.int) := fun {H'} hk => by
        rcases sq with (h | ⟨o, h⟩) | h
        · exact .inl (.inl (hk _ _ h))
        · exact .inl (.inr ⟨o, hk _ _ h⟩)
        · exact .inr h
      refine ⟨_, pss_one (ps_ret (pe_lst (pa_cons (pe_listRev rfl rfl ml rfl mr (pe_slice sl_list (pv 0) po_none (po_some pe_int)))
        (pa_cons (pe_op op_add (pe_callB (cr_sum rfl) rfl ms (boot_bn .sum) (pa_cons (pe_slice sl_list (pv 0) po_none (po_some pe_int)) pa_nil)) (pe_callB call_len_seq rfl mn (boot_bn .len) (pa_cons (pe_slice sl_list (pv 0) po_none (po_some pe_int)) pa_nil)))
        (pa_cons pe_int pa_nil))))), ?_⟩
      have hcut : cutV (ns.map V.int) none (some 63) = ns.map V.int := by
        unfold cutV
        have e1 : HT.sIx (ns.map V.int).length 0 none = 0 := rfl
        have e2 : HT.sIx (ns.map V.int).length (ns.map V.int).length (some 63) = (ns.map V.int).length := by
          show min 63 _ = _
          rw [List.length_map]
          omega
        rw [e1, e2, List.drop_zero, Nat.sub_zero, List.take_length]
      refine ⟨_, rfl, 63, rfl, a, _, rfl, sq, fun p1 hp1 => ⟨p1, _, rfl, SqL.of upd_same, fun r hr => ?_⟩⟩
      rw [hcut]
      have n1 : ∀ b o, H b = some o → (upd H p1 (.lst (ns.map V.int))) b = some o := fun b o hb => by rw [upd_ne (ne_of_none hb hp1)]; exact hb
      have n2 : ∀ b o, H b = some o → (upd (upd H p1 (.lst (ns.map V.int))) r (.lst (ns.map V.int).reverse)) b = some o := fun b o hb => by rw [upd_ne (ne_of_none (n1 b o hb) (by rw [← hcut]; exact hr))]; exact n1 b o hb
      generalize hH2 : upd (upd H p1 (.lst (ns.map V.int))) r (.lst (ns.map V.int).reverse) = H2 at n2
      have hr2 : H2 r = some (.lst (ns.map V.int).reverse) := by rw [← hH2]; exact upd_same
      refine ⟨_, rfl, 63, rfl, a, _, rfl, ab n2, fun p2 hp2 => ?_⟩
      rw [hcut]
      refine ⟨p2, ns, rfl, SqL.of upd_same, ?_⟩
      have n3 : ∀ b o, H2 b = some o → (upd H2 p2 (.lst (ns.map V.int))) b = some o := fun b o hb => by rw [upd_ne (ne_of_none hb hp2)]; exact hb
      generalize hH3 : upd H2 p2 (.lst (ns.map V.int)) = H3 at n3
      refine ⟨_, rfl, 63, rfl, a, _, rfl, ab fun b o hb => n3 b o (n2 b o hb), fun p3 hp3 => ?_⟩
      rw [hcut]
      have n4 : ∀ b o, H3 b = some o → (upd H3 p3 (.lst (ns.map V.int))) b = some o := fun b o hb => by rw [upd_ne (ne_of_none hb hp3)]; exact hb
      refine ⟨p3, _, rfl, .inl (SqL.of upd_same), _, _, rfl, rfl, (by show 3 ≤ sizeLine; decide), fun p4 hp4 => ?_⟩
      generalize hH4 : upd H3 p3 (.lst (ns.map V.int)) = H4 at n4 hp4
      have hr4 : H4 r = some (.lst (ns.map V.int).reverse) := n4 _ _ (n3 _ _ hr2)
      have n5 : ∀ b o, H b = some o → H4 b = some o := fun b o hb => n4 _ _ (n3 _ _ (n2 _ _ hb))
      have hr0 : H r = none := by
        cases e : H r with
        | none => rfl
        | some o =>
          have := n1 r o e
          rw [← hcut] at this
          rw [hr] at this
          cases this
      have hp40 : H p4 = none := by
        cases e : H p4 with
        | none => rfl
        | some o => rw [n5 _ _ e] at hp4; cases hp4
      have hrp : r ≠ p4 := fun z => by rw [z, hp4] at hr4; cases hr4
      have nN : New H (upd H4 p4 (.lst [.ref r, .int (ns.sum + ((ns.map V.int).length : Nat)), .int 0])) [p4, r] := by
        refine ⟨fun b o hb => ?_, fun b hb => ?_, by simpa using Ne.symm hrp⟩
        · rw [upd_ne (ne_of_none (n5 b o hb) hp4)]
          exact n5 b o hb
        · simp only [List.mem_cons, List.not_mem_nil, or_false] at hb
          rcases hb with rfl | rfl
          · exact hp40
          · exact hr0
      obtain ⟨nd5, st5⟩ := nN.stp (f := []) (by simp) List.nodup_nil
      refine q _ _ [p4, r] [] ⟨p4, r, rfl, rfl, ?_, ?_⟩ ⟨.ref a, [], [], [], rfl, ⟨rfl, a, rfl, ?_⟩, ⟨rfl, rfl⟩, .refl _⟩ nd5 st5
      · rw [upd_same, List.length_map]
      · rw [upd_ne hrp, hr4, List.map_reverse]
      · rcases sq with (h | ⟨o, h⟩) | h
        · rcases hS with ⟨o, h2⟩ | h2
          · rw [h2] at h; cases h
          · exact .inr h2
        · exact .inl ⟨o, nN.1 _ _ h⟩
        · exact .inr (.inr h)
    · cases hc
  · cases hc
end

theorem mixed_eq {k : Nat} (hk : 8 ≤ k) (c n : Int) : Mn.call tab k 7 [.d (.int c), .d (.int n)] = some (.d (.int (mixA c n)), [.d (.int c), .d (.int n)]) := by
  obtain ⟨k, rfl⟩ : ∃ j, k = j + 1 := ⟨k - 1, by omega⟩
  rw [call_code (x := "_law_mixed") (fn := ⟨2, 3, [0, 1], cLawMixed⟩) rfl rfl]
  have h1 : -18446744073709551616 < (c % 2147483629 + 7919 * n + 1) * 48271 % 2147483647 ∧ (c % 2147483629 + 7919 * n + 1) * 48271 % 2147483647 < 18446744073709551616 := by omega
  generalize hb : (((c % 2147483629 + 7919 * n + 1) * 48271 % 2147483647) * ((c % 2147483629 + 7919 * n + 1) * 48271 % 2147483647) + 69621 * n + 7) % 2147483587 = b
  have h2 : -18446744073709551616 < b ∧ b < 18446744073709551616 := by omega
  have e : mixA c n = b * 2147483563 + (b * b + 16807 * b + n) % 2147483563 := by
    unfold mixA
    simp only [hb]
  rw [e]
  simp [runFn, cLawMixed, mul_ii, h1, h2, hb]
theorem sc1 : FnScope ["term", "known", "one"] ["term", "known"] (defScope (top 1)) := ⟨rfl, rfl, rfl, by decide +kernel, rfl, by decide +kernel, by decide +kernel⟩
theorem chk1 : mB tab ["term", "known", "one"] (defScope (top 1)) [0, 1] cPutFor (defBody (top 1)) = true := by decide +kernel
theorem sc3 : FnScope ["term", "known"] ["term", "known"] (defScope (top 3)) := ⟨rfl, rfl, rfl, by decide +kernel, rfl, by decide +kernel, by decide +kernel⟩
theorem chk3 : mB tab ["term", "known"] (defScope (top 3)) [1] cStandsFor (defBody (top 3)) = true := by decide +kernel
theorem sc4 : FnScope ["name", "term", "known", "one"] ["name", "term", "known"] (defScope (top 4)) := ⟨rfl, rfl, rfl, by decide +kernel, rfl, by decide +kernel, by decide +kernel⟩
theorem chk4 : mB tab ["name", "term", "known", "one"] (defScope (top 4)) [0, 2] cStandsIn (defBody (top 4)) = true := by decide +kernel
theorem sc5 : FnScope ["name", "term", "known"] ["name", "term", "known"] (defScope (top 5)) := ⟨rfl, rfl, rfl, by decide +kernel, rfl, by decide +kernel, by decide +kernel⟩
theorem chk5 : mB tab ["name", "term", "known"] (defScope (top 5)) [0, 1, 2] cOpenIs (defBody (top 5)) = true := by decide +kernel
theorem sc6 : FnScope ["one", "other", "known", "first", "second"] ["one", "other", "known"] (defScope (top 6)) := ⟨rfl, rfl, rfl, by decide +kernel, rfl, by decide +kernel, by decide +kernel⟩
theorem chk6 : mB tab ["one", "other", "known", "first", "second"] (defScope (top 6)) [2] cJoinInto (defBody (top 6)) = true := by decide +kernel
theorem sc7 : FnScope ["term", "known", "found"] ["term", "known"] (defScope (top 7)) := ⟨rfl, rfl, rfl, by decide +kernel, rfl, by decide +kernel, by decide +kernel⟩
theorem chk7 : mB tab ["term", "known", "found"] (defScope (top 7)) [1] cWholeOf (defBody (top 7)) = true := by decide +kernel
theorem sc8 : FnScope ["one", "other", "known", "name"] ["one", "other"] (defScope (top 8)) := ⟨rfl, rfl, rfl, by decide +kernel, rfl, by decide +kernel, by decide +kernel⟩
theorem chk8 : mB tab ["one", "other", "known", "name"] (defScope (top 8)) [0, 1] cJoined (defBody (top 8)) = true := by decide +kernel
theorem sc10 : FnScope ["_law_cell", "_law_k", "_law_number"] ["_law_cell", "_law_k"] (defScope (top 10)) := ⟨rfl, rfl, rfl, by decide +kernel, rfl, by decide +kernel, by decide +kernel⟩
theorem chk10 : mB tab ["_law_cell", "_law_k", "_law_number"] (defScope (top 10)) [0, 1] cLawMixed (defBody (top 10)) = true := by decide +kernel
theorem sc13 : FnScope ["_law_deck_here", "_law_many", "_law_letters", "_law_some", "_law_turn", "_law_found", "_law_tail", "_law_k", "_law_first"] ["_law_deck_here", "_law_many"] (defScope (top 13)) := ⟨rfl, rfl, rfl, by decide +kernel, rfl, by decide +kernel, by decide +kernel⟩
theorem chk13 : mB tab ["_law_deck_here", "_law_many", "_law_letters", "_law_some", "_law_turn", "_law_found", "_law_tail", "_law_k", "_law_first"] (defScope (top 13)) [0, 1] cLawWords (defBody (top 13)) = true := by decide +kernel
theorem sc14 : FnScope ["_law_deck_here", "_law_many", "_law_great", "_law_first", "_law_here", "_law_there", "_law_some", "_law_turn"] ["_law_deck_here", "_law_many"] (defScope (top 14)) := ⟨rfl, rfl, rfl, by decide +kernel, rfl, by decide +kernel, by decide +kernel⟩
theorem chk14 : mB tab ["_law_deck_here", "_law_many", "_law_great", "_law_first", "_law_here", "_law_there", "_law_some", "_law_turn"] (defScope (top 14)) [0, 1] cLawOpens (defBody (top 14)) = true := by decide +kernel
theorem sc15 : FnScope ["_law_deck_here", "_law_words_here", "_law_opens_here", "_law_deep", "_law_left", "_law_way", "_law_found", "_law_many", "_law_k"] ["_law_deck_here", "_law_words_here", "_law_opens_here", "_law_deep", "_law_left"] (defScope (top 15)) := ⟨rfl, rfl, rfl, by decide +kernel, rfl, by decide +kernel, by decide +kernel⟩
theorem chk15 : mB tab ["_law_deck_here", "_law_words_here", "_law_opens_here", "_law_deep", "_law_left", "_law_way", "_law_found", "_law_many", "_law_k"] (defScope (top 15)) [0, 1, 2, 3, 4] cLawTerm (defBody (top 15)) = true := by decide +kernel
theorem sc16 : FnScope ["_law_term_here", "_law_known_here", "_law_one"] ["_law_term_here", "_law_known_here"] (defScope (top 16)) := ⟨rfl, rfl, rfl, by decide +kernel, rfl, by decide +kernel, by decide +kernel⟩
theorem chk16 : mB tab ["_law_term_here", "_law_known_here", "_law_one"] (defScope (top 16)) [0, 1] cLawMade (defBody (top 16)) = true := by decide +kernel
theorem sc17 : FnScope ["_law_term_here", "_law_found", "_law_one"] ["_law_term_here"] (defScope (top 17)) := ⟨rfl, rfl, rfl, by decide +kernel, rfl, by decide +kernel, by decide +kernel⟩
theorem chk17 : mB tab ["_law_term_here", "_law_found", "_law_one"] (defScope (top 17)) [0] cLawOpensIn (defBody (top 17)) = true := by decide +kernel
theorem sc18 : FnScope ["_law_term_here", "_law_found", "_law_one"] ["_law_term_here"] (defScope (top 18)) := ⟨rfl, rfl, rfl, by decide +kernel, rfl, by decide +kernel, by decide +kernel⟩
theorem chk18 : mB tab ["_law_term_here", "_law_found", "_law_one"] (defScope (top 18)) [0] cLawInner (defBody (top 18)) = true := by decide +kernel
theorem sc19 : FnScope ["_law_deck_here", "_law_term_here", "_law_known_here", "_law_some", "_law_name", "_law_found", "_law_one"] ["_law_deck_here", "_law_term_here", "_law_known_here"] (defScope (top 19)) := ⟨rfl, rfl, rfl, by decide +kernel, rfl, by decide +kernel, by decide +kernel⟩
theorem chk19 : mB tab ["_law_deck_here", "_law_term_here", "_law_known_here", "_law_some", "_law_name", "_law_found", "_law_one"] (defScope (top 19)) [0, 1, 2] cLawOpened (defBody (top 19)) = true := by decide +kernel
theorem sc20 : FnScope ["_law_deck_here", "_law_words_here", "_law_opens_here", "_law_closed", "_law_inner_here", "_law_known_here", "_law_name", "_law_one"] ["_law_deck_here", "_law_words_here", "_law_opens_here"] (defScope (top 20)) := ⟨rfl, rfl, rfl, by decide +kernel, rfl, by decide +kernel, by decide +kernel⟩
theorem chk20 : mB tab ["_law_deck_here", "_law_words_here", "_law_opens_here", "_law_closed", "_law_inner_here", "_law_known_here", "_law_name", "_law_one"] (defScope (top 20)) [0, 1, 2] cLawFromOne (defBody (top 20)) = true := by decide +kernel
theorem sc21 : FnScope ["_law_one", "_law_other", "_law_known_here", "_law_pairs", "_law_first", "_law_second", "_law_name"] ["_law_one", "_law_other"] (defScope (top 21)) := ⟨rfl, rfl, rfl, by decide +kernel, rfl, by decide +kernel, by decide +kernel⟩
theorem chk21 : mB tab ["_law_one", "_law_other", "_law_known_here", "_law_pairs", "_law_first", "_law_second", "_law_name"] (defScope (top 21)) [0, 1] cLawKnown (defBody (top 21)) = true := by decide +kernel
theorem sc22 : FnScope ["_law_one", "_law_other", "_law_known_here", "_law_found", "_law_there", "_law_left", "_law_name"] ["_law_one", "_law_other", "_law_known_here"] (defScope (top 22)) := ⟨rfl, rfl, rfl, by decide +kernel, rfl, by decide +kernel, by decide +kernel⟩
theorem chk22 : mB tab ["_law_one", "_law_other", "_law_known_here", "_law_found", "_law_there", "_law_left", "_law_name"] (defScope (top 22)) [0, 1, 2] cLawUnlike (defBody (top 22)) = true := by decide +kernel
theorem sc23 : FnScope ["_law_thing", "_law_one"] ["_law_thing"] (defScope (top 23)) := ⟨rfl, rfl, rfl, by decide +kernel, rfl, by decide +kernel, by decide +kernel⟩
theorem chk23 : mB tab ["_law_thing", "_law_one"] (defScope (top 23)) [0] cLawIsTerm (defBody (top 23)) = true := by decide +kernel
theorem sc24 : FnScope ["_law_one", "_law_other", "_law_found", "_law_closed", "_law_there", "_law_pair", "_law_names", "_law_name", "_law_term_here", "_law_part", "_law_known_here"] ["_law_one", "_law_other", "_law_found", "_law_closed"] (defScope (top 24)) := ⟨rfl, rfl, rfl, by decide +kernel, rfl, by decide +kernel, by decide +kernel⟩
theorem chk24 : mB tab ["_law_one", "_law_other", "_law_found", "_law_closed", "_law_there", "_law_pair", "_law_names", "_law_name", "_law_term_here", "_law_part", "_law_known_here"] (defScope (top 24)) [0, 1, 2, 3] cLawFits (defBody (top 24)) = true := by decide +kernel
theorem sc25 : FnScope ["_law_one", "_law_other", "_law_known_here", "_law_found", "_law_closed"] ["_law_one", "_law_other"] (defScope (top 25)) := ⟨rfl, rfl, rfl, by decide +kernel, rfl, by decide +kernel, by decide +kernel⟩
theorem chk25 : mB tab ["_law_one", "_law_other", "_law_known_here", "_law_found", "_law_closed"] (defScope (top 25)) [0, 1] cLawRight (defBody (top 25)) = true := by decide +kernel
theorem sc26 : FnScope ["_law_script", "_law_deck_here", "_law_k", "_law_words_here", "_law_opens_here", "_law_one", "_law_other", "_law_closed", "_law_found", "_law_deep", "_law_pairs", "_law_first", "_law_second"] ["_law_script"] (defScope (top 26)) := ⟨rfl, rfl, rfl, by decide +kernel, rfl, by decide +kernel, by decide +kernel⟩
theorem chk26 : mB tab ["_law_script", "_law_deck_here", "_law_k", "_law_words_here", "_law_opens_here", "_law_one", "_law_other", "_law_closed", "_law_found", "_law_deep", "_law_pairs", "_law_first", "_law_second"] (defScope (top 26)) [0] cLaw (defBody (top 26)) = true := by decide +kernel
section
variable {l : PySem.W.OpenLaw} {w : World} {K : PySem.W.Frag} {h : Heap} {mg : Str → Option Value} {fa : Addr}
theorem all_mk (X : K.In h) (G : h.Ns mainGlobals mg) (hfa : mg "law" = some (.ref fa))
    {f1 : Addr} {od1 an1 : Option Addr} {sl1 : Array (Option Value)} {oc1 kV1 dc1 pm1 cd1 ct1 : Value}
    (a1 : PySem.W.nsIn K mainGlobals "put_for" = some (some (.ref f1))) (l1 : K.lookup f1 = some ⟨oc1, od1, .func (PySem.W.fnOf "put_for" "put_for" (defArgs (top 1)) (defBody (top 1)) (defScope (top 1)) .none kV1 dc1 pm1 an1 cd1 ct1), sl1⟩) (c1 : PySem.W.codeIn K cd1 "put_for" = true) (k1 : PySem.W.keepIn K (.ref f1) = true)
    {f3 : Addr} {od3 an3 : Option Addr} {sl3 : Array (Option Value)} {oc3 kV3 dc3 pm3 cd3 ct3 : Value}
    (a3 : PySem.W.nsIn K mainGlobals "stands_for" = some (some (.ref f3))) (l3 : K.lookup f3 = some ⟨oc3, od3, .func (PySem.W.fnOf "stands_for" "stands_for" (defArgs (top 3)) (defBody (top 3)) (defScope (top 3)) .none kV3 dc3 pm3 an3 cd3 ct3), sl3⟩) (c3 : PySem.W.codeIn K cd3 "stands_for" = true) (k3 : PySem.W.keepIn K (.ref f3) = true)
    {f4 : Addr} {od4 an4 : Option Addr} {sl4 : Array (Option Value)} {oc4 kV4 dc4 pm4 cd4 ct4 : Value}
    (a4 : PySem.W.nsIn K mainGlobals "stands_in" = some (some (.ref f4))) (l4 : K.lookup f4 = some ⟨oc4, od4, .func (PySem.W.fnOf "stands_in" "stands_in" (defArgs (top 4)) (defBody (top 4)) (defScope (top 4)) .none kV4 dc4 pm4 an4 cd4 ct4), sl4⟩) (c4 : PySem.W.codeIn K cd4 "stands_in" = true) (k4 : PySem.W.keepIn K (.ref f4) = true)
    {f5 : Addr} {od5 an5 : Option Addr} {sl5 : Array (Option Value)} {oc5 kV5 dc5 pm5 cd5 ct5 : Value}
    (a5 : PySem.W.nsIn K mainGlobals "open_is" = some (some (.ref f5))) (l5 : K.lookup f5 = some ⟨oc5, od5, .func (PySem.W.fnOf "open_is" "open_is" (defArgs (top 5)) (defBody (top 5)) (defScope (top 5)) .none kV5 dc5 pm5 an5 cd5 ct5), sl5⟩) (c5 : PySem.W.codeIn K cd5 "open_is" = true) (k5 : PySem.W.keepIn K (.ref f5) = true)
    {f6 : Addr} {od6 an6 : Option Addr} {sl6 : Array (Option Value)} {oc6 kV6 dc6 pm6 cd6 ct6 : Value}
    (a6 : PySem.W.nsIn K mainGlobals "join_into" = some (some (.ref f6))) (l6 : K.lookup f6 = some ⟨oc6, od6, .func (PySem.W.fnOf "join_into" "join_into" (defArgs (top 6)) (defBody (top 6)) (defScope (top 6)) .none kV6 dc6 pm6 an6 cd6 ct6), sl6⟩) (c6 : PySem.W.codeIn K cd6 "join_into" = true) (k6 : PySem.W.keepIn K (.ref f6) = true)
    {f7 : Addr} {od7 an7 : Option Addr} {sl7 : Array (Option Value)} {oc7 kV7 dc7 pm7 cd7 ct7 : Value}
    (a7 : PySem.W.nsIn K mainGlobals "whole_of" = some (some (.ref f7))) (l7 : K.lookup f7 = some ⟨oc7, od7, .func (PySem.W.fnOf "whole_of" "whole_of" (defArgs (top 7)) (defBody (top 7)) (defScope (top 7)) .none kV7 dc7 pm7 an7 cd7 ct7), sl7⟩) (c7 : PySem.W.codeIn K cd7 "whole_of" = true) (k7 : PySem.W.keepIn K (.ref f7) = true)
    {f8 : Addr} {od8 an8 : Option Addr} {sl8 : Array (Option Value)} {oc8 kV8 dc8 pm8 cd8 ct8 : Value}
    (a8 : PySem.W.nsIn K mainGlobals "joined" = some (some (.ref f8))) (l8 : K.lookup f8 = some ⟨oc8, od8, .func (PySem.W.fnOf "joined" "joined" (defArgs (top 8)) (defBody (top 8)) (defScope (top 8)) .none kV8 dc8 pm8 an8 cd8 ct8), sl8⟩) (c8 : PySem.W.codeIn K cd8 "joined" = true) (k8 : PySem.W.keepIn K (.ref f8) = true)
    {f10 : Addr} {od10 an10 : Option Addr} {sl10 : Array (Option Value)} {oc10 kV10 dc10 pm10 cd10 ct10 : Value}
    (a10 : PySem.W.nsIn K mainGlobals "_law_mixed" = some (some (.ref f10))) (l10 : K.lookup f10 = some ⟨oc10, od10, .func (PySem.W.fnOf "_law_mixed" "_law_mixed" (defArgs (top 10)) (defBody (top 10)) (defScope (top 10)) .none kV10 dc10 pm10 an10 cd10 ct10), sl10⟩) (c10 : PySem.W.codeIn K cd10 "_law_mixed" = true) (k10 : PySem.W.keepIn K (.ref f10) = true)
    {f11 : Addr} {od11 an11 : Option Addr} {sl11 : Array (Option Value)} {oc11 kV11 dc11 pm11 cd11 ct11 : Value}
    (a11 : PySem.W.nsIn K mainGlobals "_law_deck" = some (some (.ref f11))) (l11 : K.lookup f11 = some ⟨oc11, od11, .func (PySem.W.fnOf "_law_deck" "_law_deck" (defArgs (top 11)) (defBody (top 11)) (defScope (top 11)) .none kV11 dc11 pm11 an11 cd11 ct11), sl11⟩) (c11 : PySem.W.codeIn K cd11 "_law_deck" = true) (k11 : PySem.W.keepIn K (.ref f11) = true)
    {f12 : Addr} {od12 an12 : Option Addr} {sl12 : Array (Option Value)} {oc12 kV12 dc12 pm12 cd12 ct12 : Value}
    (a12 : PySem.W.nsIn K mainGlobals "_law_take" = some (some (.ref f12))) (l12 : K.lookup f12 = some ⟨oc12, od12, .func (PySem.W.fnOf "_law_take" "_law_take" (defArgs (top 12)) (defBody (top 12)) (defScope (top 12)) .none kV12 dc12 pm12 an12 cd12 ct12), sl12⟩) (c12 : PySem.W.codeIn K cd12 "_law_take" = true) (k12 : PySem.W.keepIn K (.ref f12) = true)
    {f13 : Addr} {od13 an13 : Option Addr} {sl13 : Array (Option Value)} {oc13 kV13 dc13 pm13 cd13 ct13 : Value}
    (a13 : PySem.W.nsIn K mainGlobals "_law_words" = some (some (.ref f13))) (l13 : K.lookup f13 = some ⟨oc13, od13, .func (PySem.W.fnOf "_law_words" "_law_words" (defArgs (top 13)) (defBody (top 13)) (defScope (top 13)) .none kV13 dc13 pm13 an13 cd13 ct13), sl13⟩) (c13 : PySem.W.codeIn K cd13 "_law_words" = true) (k13 : PySem.W.keepIn K (.ref f13) = true)
    {f14 : Addr} {od14 an14 : Option Addr} {sl14 : Array (Option Value)} {oc14 kV14 dc14 pm14 cd14 ct14 : Value}
    (a14 : PySem.W.nsIn K mainGlobals "_law_opens" = some (some (.ref f14))) (l14 : K.lookup f14 = some ⟨oc14, od14, .func (PySem.W.fnOf "_law_opens" "_law_opens" (defArgs (top 14)) (defBody (top 14)) (defScope (top 14)) .none kV14 dc14 pm14 an14 cd14 ct14), sl14⟩) (c14 : PySem.W.codeIn K cd14 "_law_opens" = true) (k14 : PySem.W.keepIn K (.ref f14) = true)
    {f15 : Addr} {od15 an15 : Option Addr} {sl15 : Array (Option Value)} {oc15 kV15 dc15 pm15 cd15 ct15 : Value}
    (a15 : PySem.W.nsIn K mainGlobals "_law_term" = some (some (.ref f15))) (l15 : K.lookup f15 = some ⟨oc15, od15, .func (PySem.W.fnOf "_law_term" "_law_term" (defArgs (top 15)) (defBody (top 15)) (defScope (top 15)) .none kV15 dc15 pm15 an15 cd15 ct15), sl15⟩) (c15 : PySem.W.codeIn K cd15 "_law_term" = true) (k15 : PySem.W.keepIn K (.ref f15) = true)
    {f16 : Addr} {od16 an16 : Option Addr} {sl16 : Array (Option Value)} {oc16 kV16 dc16 pm16 cd16 ct16 : Value}
    (a16 : PySem.W.nsIn K mainGlobals "_law_made" = some (some (.ref f16))) (l16 : K.lookup f16 = some ⟨oc16, od16, .func (PySem.W.fnOf "_law_made" "_law_made" (defArgs (top 16)) (defBody (top 16)) (defScope (top 16)) .none kV16 dc16 pm16 an16 cd16 ct16), sl16⟩) (c16 : PySem.W.codeIn K cd16 "_law_made" = true) (k16 : PySem.W.keepIn K (.ref f16) = true)
    {f17 : Addr} {od17 an17 : Option Addr} {sl17 : Array (Option Value)} {oc17 kV17 dc17 pm17 cd17 ct17 : Value}
    (a17 : PySem.W.nsIn K mainGlobals "_law_opens_in" = some (some (.ref f17))) (l17 : K.lookup f17 = some ⟨oc17, od17, .func (PySem.W.fnOf "_law_opens_in" "_law_opens_in" (defArgs (top 17)) (defBody (top 17)) (defScope (top 17)) .none kV17 dc17 pm17 an17 cd17 ct17), sl17⟩) (c17 : PySem.W.codeIn K cd17 "_law_opens_in" = true) (k17 : PySem.W.keepIn K (.ref f17) = true)
    {f18 : Addr} {od18 an18 : Option Addr} {sl18 : Array (Option Value)} {oc18 kV18 dc18 pm18 cd18 ct18 : Value}
    (a18 : PySem.W.nsIn K mainGlobals "_law_inner" = some (some (.ref f18))) (l18 : K.lookup f18 = some ⟨oc18, od18, .func (PySem.W.fnOf "_law_inner" "_law_inner" (defArgs (top 18)) (defBody (top 18)) (defScope (top 18)) .none kV18 dc18 pm18 an18 cd18 ct18), sl18⟩) (c18 : PySem.W.codeIn K cd18 "_law_inner" = true) (k18 : PySem.W.keepIn K (.ref f18) = true)
    {f19 : Addr} {od19 an19 : Option Addr} {sl19 : Array (Option Value)} {oc19 kV19 dc19 pm19 cd19 ct19 : Value}
    (a19 : PySem.W.nsIn K mainGlobals "_law_opened" = some (some (.ref f19))) (l19 : K.lookup f19 = some ⟨oc19, od19, .func (PySem.W.fnOf "_law_opened" "_law_opened" (defArgs (top 19)) (defBody (top 19)) (defScope (top 19)) .none kV19 dc19 pm19 an19 cd19 ct19), sl19⟩) (c19 : PySem.W.codeIn K cd19 "_law_opened" = true) (k19 : PySem.W.keepIn K (.ref f19) = true)
    {f20 : Addr} {od20 an20 : Option Addr} {sl20 : Array (Option Value)} {oc20 kV20 dc20 pm20 cd20 ct20 : Value}
    (a20 : PySem.W.nsIn K mainGlobals "_law_from_one" = some (some (.ref f20))) (l20 : K.lookup f20 = some ⟨oc20, od20, .func (PySem.W.fnOf "_law_from_one" "_law_from_one" (defArgs (top 20)) (defBody (top 20)) (defScope (top 20)) .none kV20 dc20 pm20 an20 cd20 ct20), sl20⟩) (c20 : PySem.W.codeIn K cd20 "_law_from_one" = true) (k20 : PySem.W.keepIn K (.ref f20) = true)
    {f21 : Addr} {od21 an21 : Option Addr} {sl21 : Array (Option Value)} {oc21 kV21 dc21 pm21 cd21 ct21 : Value}
    (a21 : PySem.W.nsIn K mainGlobals "_law_known" = some (some (.ref f21))) (l21 : K.lookup f21 = some ⟨oc21, od21, .func (PySem.W.fnOf "_law_known" "_law_known" (defArgs (top 21)) (defBody (top 21)) (defScope (top 21)) .none kV21 dc21 pm21 an21 cd21 ct21), sl21⟩) (c21 : PySem.W.codeIn K cd21 "_law_known" = true) (k21 : PySem.W.keepIn K (.ref f21) = true)
    {f22 : Addr} {od22 an22 : Option Addr} {sl22 : Array (Option Value)} {oc22 kV22 dc22 pm22 cd22 ct22 : Value}
    (a22 : PySem.W.nsIn K mainGlobals "_law_unlike" = some (some (.ref f22))) (l22 : K.lookup f22 = some ⟨oc22, od22, .func (PySem.W.fnOf "_law_unlike" "_law_unlike" (defArgs (top 22)) (defBody (top 22)) (defScope (top 22)) .none kV22 dc22 pm22 an22 cd22 ct22), sl22⟩) (c22 : PySem.W.codeIn K cd22 "_law_unlike" = true) (k22 : PySem.W.keepIn K (.ref f22) = true)
    {f23 : Addr} {od23 an23 : Option Addr} {sl23 : Array (Option Value)} {oc23 kV23 dc23 pm23 cd23 ct23 : Value}
    (a23 : PySem.W.nsIn K mainGlobals "_law_is_term" = some (some (.ref f23))) (l23 : K.lookup f23 = some ⟨oc23, od23, .func (PySem.W.fnOf "_law_is_term" "_law_is_term" (defArgs (top 23)) (defBody (top 23)) (defScope (top 23)) .none kV23 dc23 pm23 an23 cd23 ct23), sl23⟩) (c23 : PySem.W.codeIn K cd23 "_law_is_term" = true) (k23 : PySem.W.keepIn K (.ref f23) = true)
    {f24 : Addr} {od24 an24 : Option Addr} {sl24 : Array (Option Value)} {oc24 kV24 dc24 pm24 cd24 ct24 : Value}
    (a24 : PySem.W.nsIn K mainGlobals "_law_fits" = some (some (.ref f24))) (l24 : K.lookup f24 = some ⟨oc24, od24, .func (PySem.W.fnOf "_law_fits" "_law_fits" (defArgs (top 24)) (defBody (top 24)) (defScope (top 24)) .none kV24 dc24 pm24 an24 cd24 ct24), sl24⟩) (c24 : PySem.W.codeIn K cd24 "_law_fits" = true) (k24 : PySem.W.keepIn K (.ref f24) = true)
    {f25 : Addr} {od25 an25 : Option Addr} {sl25 : Array (Option Value)} {oc25 kV25 dc25 pm25 cd25 ct25 : Value}
    (a25 : PySem.W.nsIn K mainGlobals "_law_right" = some (some (.ref f25))) (l25 : K.lookup f25 = some ⟨oc25, od25, .func (PySem.W.fnOf "_law_right" "_law_right" (defArgs (top 25)) (defBody (top 25)) (defScope (top 25)) .none kV25 dc25 pm25 an25 cd25 ct25), sl25⟩) (c25 : PySem.W.codeIn K cd25 "_law_right" = true) (k25 : PySem.W.keepIn K (.ref f25) = true)
    {f26 : Addr} {od26 an26 : Option Addr} {sl26 : Array (Option Value)} {oc26 kV26 dc26 pm26 cd26 ct26 : Value}
    (a26 : PySem.W.nsIn K mainGlobals "law" = some (some (.ref f26))) (l26 : K.lookup f26 = some ⟨oc26, od26, .func (PySem.W.fnOf "law" "law" (defArgs (top 26)) (defBody (top 26)) (defScope (top 26)) .none kV26 dc26 pm26 an26 cd26 ct26), sl26⟩) (c26 : PySem.W.codeIn K cd26 "law" = true) (k26 : PySem.W.keepIn K (.ref f26) = true)
    (z0 : PySem.W.nsIn K mainGlobals "tuple" = some none)
    (z1 : PySem.W.nsIn K mainGlobals "isinstance" = some none)
    (z2 : PySem.W.nsIn K mainGlobals "str" = some none)
    (z3 : PySem.W.nsIn K mainGlobals "any" = some none)
    (z4 : PySem.W.nsIn K mainGlobals "zip" = some none)
    (z5 : PySem.W.nsIn K mainGlobals "len" = some none)
    (z6 : PySem.W.nsIn K mainGlobals "sorted" = some none)
    (z7 : PySem.W.nsIn K mainGlobals "range" = some none)
    (z8 : PySem.W.nsIn K mainGlobals "int" = some none)
    (z9 : PySem.W.nsIn K mainGlobals "list" = some none)
    (z10 : PySem.W.nsIn K mainGlobals "dict" = some none)
    (z11 : PySem.W.nsIn K mainGlobals "reversed" = some none)
    (z12 : PySem.W.nsIn K mainGlobals "sum" = some none) :
    ∃ fd : FuncData, (∀ (s : Shared) (v : Value), BindsTo s fd ⟨[v], []⟩ [("_law_script", v)]) ∧ ∀ base : Heap, K.In base → base.Ns mainGlobals mg → FnOk l.prog w K mg base CX0 lvl fa fd ["_law_script"] (spF K (Mn.call tab lvl 23) 1) := by
  have e := hfa.symm.trans (PySem.W.mg_of X G a26)
  cases e
  have F1 := fun_mk (st := top 1) l1 c1 k1
  have b1 := F1.binds (ps := ["term", "known"]) fun _ _ _ _ _ _ us hl => match us, hl with | [_, _], _ => rfl
  have F3 := fun_mk (st := top 3) l3 c3 k3
  have b3 := F3.binds (ps := ["term", "known"]) fun _ _ _ _ _ _ us hl => match us, hl with | [_, _], _ => rfl
  have F4 := fun_mk (st := top 4) l4 c4 k4
  have b4 := F4.binds (ps := ["name", "term", "known"]) fun _ _ _ _ _ _ us hl => match us, hl with | [_, _, _], _ => rfl
  have F5 := fun_mk (st := top 5) l5 c5 k5
  have b5 := F5.binds (ps := ["name", "term", "known"]) fun _ _ _ _ _ _ us hl => match us, hl with | [_, _, _], _ => rfl
  have F6 := fun_mk (st := top 6) l6 c6 k6
  have b6 := F6.binds (ps := ["one", "other", "known"]) fun _ _ _ _ _ _ us hl => match us, hl with | [_, _, _], _ => rfl
  have F7 := fun_mk (st := top 7) l7 c7 k7
  have b7 := F7.binds (ps := ["term", "known"]) fun _ _ _ _ _ _ us hl => match us, hl with | [_, _], _ => rfl
  have F8 := fun_mk (st := top 8) l8 c8 k8
  have b8 := F8.binds (ps := ["one", "other"]) fun _ _ _ _ _ _ us hl => match us, hl with | [_, _], _ => rfl
  have F10 := fun_mk (st := top 10) l10 c10 k10
  have b10 := F10.binds (ps := ["_law_cell", "_law_k"]) fun _ _ _ _ _ _ us hl => match us, hl with | [_, _], _ => rfl
  have F11 := fun_mk (st := top 11) l11 c11 k11
  have b11 := F11.binds (ps := ["_law_script"]) fun _ _ _ _ _ _ us hl => match us, hl with | [_], _ => rfl
  have F12 := fun_mk (st := top 12) l12 c12 k12
  have b12 := F12.binds (ps := ["_law_deck_here", "_law_most"]) fun _ _ _ _ _ _ us hl => match us, hl with | [_, _], _ => rfl
  have F13 := fun_mk (st := top 13) l13 c13 k13
  have b13 := F13.binds (ps := ["_law_deck_here", "_law_many"]) fun _ _ _ _ _ _ us hl => match us, hl with | [_, _], _ => rfl
  have F14 := fun_mk (st := top 14) l14 c14 k14
  have b14 := F14.binds (ps := ["_law_deck_here", "_law_many"]) fun _ _ _ _ _ _ us hl => match us, hl with | [_, _], _ => rfl
  have F15 := fun_mk (st := top 15) l15 c15 k15
  have b15 := F15.binds (ps := ["_law_deck_here", "_law_words_here", "_law_opens_here", "_law_deep", "_law_left"]) fun _ _ _ _ _ _ us hl => match us, hl with | [_, _, _, _, _], _ => rfl
  have F16 := fun_mk (st := top 16) l16 c16 k16
  have b16 := F16.binds (ps := ["_law_term_here", "_law_known_here"]) fun _ _ _ _ _ _ us hl => match us, hl with | [_, _], _ => rfl
  have F17 := fun_mk (st := top 17) l17 c17 k17
  have b17 := F17.binds (ps := ["_law_term_here"]) fun _ _ _ _ _ _ us hl => match us, hl with | [_], _ => rfl
  have F18 := fun_mk (st := top 18) l18 c18 k18
  have b18 := F18.binds (ps := ["_law_term_here"]) fun _ _ _ _ _ _ us hl => match us, hl with | [_], _ => rfl
  have F19 := fun_mk (st := top 19) l19 c19 k19
  have b19 := F19.binds (ps := ["_law_deck_here", "_law_term_here", "_law_known_here"]) fun _ _ _ _ _ _ us hl => match us, hl with | [_, _, _], _ => rfl
  have F20 := fun_mk (st := top 20) l20 c20 k20
  have b20 := F20.binds (ps := ["_law_deck_here", "_law_words_here", "_law_opens_here"]) fun _ _ _ _ _ _ us hl => match us, hl with | [_, _, _], _ => rfl
  have F21 := fun_mk (st := top 21) l21 c21 k21
  have b21 := F21.binds (ps := ["_law_one", "_law_other"]) fun _ _ _ _ _ _ us hl => match us, hl with | [_, _], _ => rfl
  have F22 := fun_mk (st := top 22) l22 c22 k22
  have b22 := F22.binds (ps := ["_law_one", "_law_other", "_law_known_here"]) fun _ _ _ _ _ _ us hl => match us, hl with | [_, _, _], _ => rfl
  have F23 := fun_mk (st := top 23) l23 c23 k23
  have b23 := F23.binds (ps := ["_law_thing"]) fun _ _ _ _ _ _ us hl => match us, hl with | [_], _ => rfl
  have F24 := fun_mk (st := top 24) l24 c24 k24
  have b24 := F24.binds (ps := ["_law_one", "_law_other", "_law_found", "_law_closed"]) fun _ _ _ _ _ _ us hl => match us, hl with | [_, _, _, _], _ => rfl
  have F25 := fun_mk (st := top 25) l25 c25 k25
  have b25 := F25.binds (ps := ["_law_one", "_law_other"]) fun _ _ _ _ _ _ us hl => match us, hl with | [_, _], _ => rfl
  have F26 := fun_mk (st := top 26) l26 c26 k26
  have b26 := F26.binds (ps := ["_law_script"]) fun _ _ _ _ _ _ us hl => match us, hl with | [_], _ => rfl
  refine ⟨PySem.W.fnOf "law" "law" (defArgs (top 26)) (defBody (top 26)) (defScope (top 26)) .none kV26 dc26 pm26 an26 cd26 ct26, fun s v => .of_eq rfl, fun base _ _ => ?_⟩
  have W : Wd tab l.prog w K mg base := by
    refine ⟨?_, ?_, ?_⟩
    · intro x hx
      simp only [tab, List.mem_cons, List.not_mem_nil, or_false] at hx
      rcases hx with rfl | rfl | rfl | rfl | rfl | rfl | rfl | rfl | rfl | rfl | rfl | rfl | rfl
      · exact PySem.W.mg_none_of X G z0
      · exact PySem.W.mg_none_of X G z1
      · exact PySem.W.mg_none_of X G z2
      · exact PySem.W.mg_none_of X G z3
      · exact PySem.W.mg_none_of X G z4
      · exact PySem.W.mg_none_of X G z5
      · exact PySem.W.mg_none_of X G z6
      · exact PySem.W.mg_none_of X G z7
      · exact PySem.W.mg_none_of X G z8
      · exact PySem.W.mg_none_of X G z9
      · exact PySem.W.mg_none_of X G z10
      · exact PySem.W.mg_none_of X G z11
      · exact PySem.W.mg_none_of X G z12
    · intro g x d hg
      simp [tab] at hg
    · intro f x d hf
      match f, hf with
      | 0, hf => cases hf; exact ⟨_, _, _, PySem.W.mg_of X G a1, k1, b1, ⟨_, _, _, F1, sc1, rfl, rfl, by decide, chk1⟩⟩
      | 1, hf => cases hf; exact ⟨_, _, _, PySem.W.mg_of X G a3, k3, b3, ⟨_, _, _, F3, sc3, rfl, rfl, by decide, chk3⟩⟩
      | 2, hf => cases hf; exact ⟨_, _, _, PySem.W.mg_of X G a4, k4, b4, ⟨_, _, _, F4, sc4, rfl, rfl, by decide, chk4⟩⟩
      | 3, hf => cases hf; exact ⟨_, _, _, PySem.W.mg_of X G a5, k5, b5, ⟨_, _, _, F5, sc5, rfl, rfl, by decide, chk5⟩⟩
      | 4, hf => cases hf; exact ⟨_, _, _, PySem.W.mg_of X G a6, k6, b6, ⟨_, _, _, F6, sc6, rfl, rfl, by decide, chk6⟩⟩
      | 5, hf => cases hf; exact ⟨_, _, _, PySem.W.mg_of X G a7, k7, b7, ⟨_, _, _, F7, sc7, rfl, rfl, by decide, chk7⟩⟩
      | 6, hf => cases hf; exact ⟨_, _, _, PySem.W.mg_of X G a8, k8, b8, ⟨_, _, _, F8, sc8, rfl, rfl, by decide, chk8⟩⟩
      | 7, hf => cases hf; exact ⟨_, _, _, PySem.W.mg_of X G a10, k10, b10, ⟨_, _, _, F10, sc10, rfl, rfl, by decide, chk10⟩⟩
      | 8, hf => cases hf; exact ⟨_, _, _, PySem.W.mg_of X G a11, k11, b11, rfl, fun k hk ih => ok_deck F11 (PySem.W.mg_none_of X G z9) (PySem.W.mg_none_of X G z11) (PySem.W.mg_none_of X G z12) (PySem.W.mg_none_of X G z5)⟩
      | 9, hf => cases hf; exact ⟨_, _, _, PySem.W.mg_of X G a12, k12, b12, rfl, fun k hk ih => by
        obtain ⟨ag, fg, pg, g1, g2, g3, g4⟩ := ih 7 "_law_mixed" _ rfl
        exact ok_take (mixed_eq hk) F12 g4 g3 g2 g1⟩
      | 10, hf => cases hf; exact ⟨_, _, _, PySem.W.mg_of X G a13, k13, b13, ⟨_, _, _, F13, sc13, rfl, rfl, by decide, chk13⟩⟩
      | 11, hf => cases hf; exact ⟨_, _, _, PySem.W.mg_of X G a14, k14, b14, ⟨_, _, _, F14, sc14, rfl, rfl, by decide, chk14⟩⟩
      | 12, hf => cases hf; exact ⟨_, _, _, PySem.W.mg_of X G a15, k15, b15, ⟨_, _, _, F15, sc15, rfl, rfl, by decide, chk15⟩⟩
      | 13, hf => cases hf; exact ⟨_, _, _, PySem.W.mg_of X G a16, k16, b16, ⟨_, _, _, F16, sc16, rfl, rfl, by decide, chk16⟩⟩
      | 14, hf => cases hf; exact ⟨_, _, _, PySem.W.mg_of X G a17, k17, b17, ⟨_, _, _, F17, sc17, rfl, rfl, by decide, chk17⟩⟩
      | 15, hf => cases hf; exact ⟨_, _, _, PySem.W.mg_of X G a18, k18, b18, ⟨_, _, _, F18, sc18, rfl, rfl, by decide, chk18⟩⟩
      | 16, hf => cases hf; exact ⟨_, _, _, PySem.W.mg_of X G a19, k19, b19, ⟨_, _, _, F19, sc19, rfl, rfl, by decide, chk19⟩⟩
      | 17, hf => cases hf; exact ⟨_, _, _, PySem.W.mg_of X G a20, k20, b20, ⟨_, _, _, F20, sc20, rfl, rfl, by decide, chk20⟩⟩
      | 18, hf => cases hf; exact ⟨_, _, _, PySem.W.mg_of X G a21, k21, b21, ⟨_, _, _, F21, sc21, rfl, rfl, by decide, chk21⟩⟩
      | 19, hf => cases hf; exact ⟨_, _, _, PySem.W.mg_of X G a22, k22, b22, ⟨_, _, _, F22, sc22, rfl, rfl, by decide, chk22⟩⟩
      | 20, hf => cases hf; exact ⟨_, _, _, PySem.W.mg_of X G a23, k23, b23, ⟨_, _, _, F23, sc23, rfl, rfl, by decide, chk23⟩⟩
      | 21, hf => cases hf; exact ⟨_, _, _, PySem.W.mg_of X G a24, k24, b24, ⟨_, _, _, F24, sc24, rfl, rfl, by decide, chk24⟩⟩
      | 22, hf => cases hf; exact ⟨_, _, _, PySem.W.mg_of X G a25, k25, b25, ⟨_, _, _, F25, sc25, rfl, rfl, by decide, chk25⟩⟩
      | 23, hf => cases hf; exact ⟨_, _, _, PySem.W.mg_of X G a26, k26, b26, ⟨_, _, _, F26, sc26, rfl, rfl, by decide, chk26⟩⟩
      | f + 24, hf => simp [tab] at hf
  exact code_ok W (all_ok W lvl0) (f := 23) rfl ⟨_, _, _, F26, sc26, rfl, rfl, by decide, chk26⟩
end
end K07
open PySem PySem.W PyProof.Rows
set_option maxRecDepth 100000 in
set_option maxHeartbeats 0 in
theorem PySem.Challenge.cw_showlooker_k07_joined_holds : PySem.Challenge.rw_showlooker_k07_joined.Holds := by
  w_on; o_law; k_head; (case hw => w_witness2)
  k_fill
  refine Mn.walk (x := "_law_script") (l := PySem.Challenge.rw_showlooker_k07_joined) K07.main ⟨rfl, by decide, by decide⟩ rfl rfl (fun w h Y => PySem.W.kIn_of Y) ?F
  case F =>
    intro w mg fa h KX G hmg
    refine' K07.all_mk KX G hmg ?qa1 ?ql1 ?qc1 ?qk1 ?qa3 ?ql3 ?qc3 ?qk3 ?qa4 ?ql4 ?qc4 ?qk4 ?qa5 ?ql5 ?qc5 ?qk5 ?qa6 ?ql6 ?qc6 ?qk6 ?qa7 ?ql7 ?qc7 ?qk7 ?qa8 ?ql8 ?qc8 ?qk8 ?qa10 ?ql10 ?qc10 ?qk10 ?qa11 ?ql11 ?qc11 ?qk11 ?qa12 ?ql12 ?qc12 ?qk12 ?qa13 ?ql13 ?qc13 ?qk13 ?qa14 ?ql14 ?qc14 ?qk14 ?qa15 ?ql15 ?qc15 ?qk15 ?qa16 ?ql16 ?qc16 ?qk16 ?qa17 ?ql17 ?qc17 ?qk17 ?qa18 ?ql18 ?qc18 ?qk18 ?qa19 ?ql19 ?qc19 ?qk19 ?qa20 ?ql20 ?qc20 ?qk20 ?qa21 ?ql21 ?qc21 ?qk21 ?qa22 ?ql22 ?qc22 ?qk22 ?qa23 ?ql23 ?qc23 ?qk23 ?qa24 ?ql24 ?qc24 ?qk24 ?qa25 ?ql25 ?qc25 ?qk25 ?qa26 ?ql26 ?qc26 ?qk26 ?qz0 ?qz1 ?qz2 ?qz3 ?qz4 ?qz5 ?qz6 ?qz7 ?qz8 ?qz9 ?qz10 ?qz11 ?qz12
    (case qa1 => k_is)
    (case ql1 => k_is)
    (case qc1 => k_is)
    (case qk1 => k_is)
    (case qa3 => k_is)
    (case ql3 => k_is)
    (case qc3 => k_is)
    (case qk3 => k_is)
    (case qa4 => k_is)
    (case ql4 => k_is)
    (case qc4 => k_is)
    (case qk4 => k_is)
    (case qa5 => k_is)
    (case ql5 => k_is)
    (case qc5 => k_is)
    (case qk5 => k_is)
    (case qa6 => k_is)
    (case ql6 => k_is)
    (case qc6 => k_is)
    (case qk6 => k_is)
    (case qa7 => k_is)
    (case ql7 => k_is)
    (case qc7 => k_is)
    (case qk7 => k_is)
    (case qa8 => k_is)
    (case ql8 => k_is)
    (case qc8 => k_is)
    (case qk8 => k_is)
    (case qa10 => k_is)
    (case ql10 => k_is)
    (case qc10 => k_is)
    (case qk10 => k_is)
    (case qa11 => k_is)
    (case ql11 => k_is)
    (case qc11 => k_is)
    (case qk11 => k_is)
    (case qa12 => k_is)
    (case ql12 => k_is)
    (case qc12 => k_is)
    (case qk12 => k_is)
    (case qa13 => k_is)
    (case ql13 => k_is)
    (case qc13 => k_is)
    (case qk13 => k_is)
    (case qa14 => k_is)
    (case ql14 => k_is)
    (case qc14 => k_is)
    (case qk14 => k_is)
    (case qa15 => k_is)
    (case ql15 => k_is)
    (case qc15 => k_is)
    (case qk15 => k_is)
    (case qa16 => k_is)
    (case ql16 => k_is)
    (case qc16 => k_is)
    (case qk16 => k_is)
    (case qa17 => k_is)
    (case ql17 => k_is)
    (case qc17 => k_is)
    (case qk17 => k_is)
    (case qa18 => k_is)
    (case ql18 => k_is)
    (case qc18 => k_is)
    (case qk18 => k_is)
    (case qa19 => k_is)
    (case ql19 => k_is)
    (case qc19 => k_is)
    (case qk19 => k_is)
    (case qa20 => k_is)
    (case ql20 => k_is)
    (case qc20 => k_is)
    (case qk20 => k_is)
    (case qa21 => k_is)
    (case ql21 => k_is)
    (case qc21 => k_is)
    (case qk21 => k_is)
    (case qa22 => k_is)
    (case ql22 => k_is)
    (case qc22 => k_is)
    (case qk22 => k_is)
    (case qa23 => k_is)
    (case ql23 => k_is)
    (case qc23 => k_is)
    (case qk23 => k_is)
    (case qa24 => k_is)
    (case ql24 => k_is)
    (case qc24 => k_is)
    (case qk24 => k_is)
    (case qa25 => k_is)
    (case ql25 => k_is)
    (case qc25 => k_is)
    (case qk25 => k_is)
    (case qa26 => k_is)
    (case ql26 => k_is)
    (case qc26 => k_is)
    (case qk26 => k_is)
    (case qz0 => k_is)
    (case qz1 => k_is)
    (case qz2 => k_is)
    (case qz3 => k_is)
    (case qz4 => k_is)
    (case qz5 => k_is)
    (case qz6 => k_is)
    (case qz7 => k_is)
    (case qz8 => k_is)
    (case qz9 => k_is)
    (case qz10 => k_is)
    (case qz11 => k_is)
    (case qz12 => k_is)
