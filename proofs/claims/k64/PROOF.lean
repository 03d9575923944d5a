import PyProof.Rows.All
import Wide.All
import OpenK.AllK
import Wide.FinOn
import KE.SortData
import KE.DataMinMax
import HandS.ForMost
import HandS.ForExc
import HandS.IsInst
import HandS.TupAny
import HandS.Wide
import HandS.Walk
import HandS.Gcd
import HandS.Zip
import HandS.CallSlots
import HandS.Defaults
import HandS.Text
import HandS.CallLocal
import HandS.HotCalls
import HandS.ExcCtx
import HandS.ExcIs
import HandS.Lambda
import HandS.HeadHook4
import HandS.HeadWalk
import HandS.Head2
import PyProof.StrOps2
import PyProof.TupleOfSeq
import KE.KRevSl
import HandS.Style
import HandS.SetFor
import HandS.TupSets
import HandS.Conv
import HandS.TupMul
import HandS.RaiseMore
import HandS.Flow
import HandS.Head3
import PySem.Challenge.RW_benchbound_k64_whole_orders_at_benches
set_option Elab.async false
set_option linter.all false
set_option maxRecDepth 100000
set_option maxHeartbeats 0
/-! Den0: the order of rows of ints, the least row, each once. -/
namespace ZN
open PySem PySem.Spec PyProof.Rows PySem.W
def encR (r : List Int) : PyData := .tuple (r.map .int)
def leR : List Int → List Int → Bool := dataLe false encR
def leI (a b : Int) : Bool := decide (a ≤ b)
/-- the least row: the first of the least ones -/
def minRow (r : List Int) (rs : List (List Int)) : List Int := rs.foldl (fun a y => if dataLt (encR y) (encR a) then y else a) r
/-- each once -/
def nub : List Int → List Int
  | [] => []
  | x :: xs => if x ∈ xs then nub xs else x :: nub xs
end ZN

/-! Den1: plain data, plain code, what the code gives: an interpreter of a part of Python over plain data. -/
namespace Den
open PySem PySem.Spec PyProof.Rows L2

/-- data without addresses; exc: the exception that is handled; cel n: the n-th thing that may still be changed; glo x: the def or class that the module calls x; fls: the script -/
inductive D where
  | non | bl (b : Bool) | int (i : Int) | str (x : Str)
  | tup (xs : List D) | lst (xs : List D) | fls (xs : List D)
  | glo (x : Str) | cel (n : Nat) | exc
instance : Inhabited D := ⟨.non⟩
/-- a thing that may be changed -/
inductive Cell where
  | lst (xs : List D)
  /-- an instance of an own class, its attributes -/
  | obj (c : Str) (fs : List (Str × D))
abbrev Mem := List (Option Cell)
/-- an exception: its class's name, its own attributes -/
structure Exn where
  cls : Str
  flds : List (Str × D)
inductive R (α : Type) where
  | ok (a : α) (m : Mem)
  | er (x : Exn) (m : Mem)
  | no
@[inline] def R.bind {α β : Type} (r : R α) (f : α → Mem → R β) : R β := match r with
  | .ok a m => f a m
  | .er x m => .er x m
  | .no => .no
/-- where nothing may be raised -/
@[inline] def R.calm {α : Type} (r : R α) : R α := match r with
  | .ok a m => .ok a m
  | _ => .no
abbrev DEnv := List (Option D)
/-- targets -/
inductive T where
  | nm (i : Nat) | nil | cons (a r : T)
inductive Ty where
  | int | bool | str | tuple | list
  deriving DecidableEq
def Ty.name : Ty → String
  | .int => "int" | .bool => "bool" | .str => "str" | .tuple => "tuple" | .list => "list"
/-- built-ins called by name -/
inductive Bf where
  | len | abs | int | list | tuple | sum | all | any | gcd | max2 | min2 | max1 | min1 | str | sorted
  deriving DecidableEq
/-- expressions, their lists, what is walked -/
inductive C where
  | var (i : Nat) | num (i : Int) | txt (x : Str) | bl (b : Bool) | non
  | glo (x : Str) | con (x : Str)
  | bin (op : Operator) (a b : C) | neg (a : C) | not (a : C)
  | and (a b : C) | or (a b : C) | one (a : C)
  | cmp (op : CmpOp) (a b : C) | chn (op op' : CmpOp) (a b c : C)
  | ite (t a b : C)
  | cal0 (f : Str) | cal (f : Str) (as : C) | cav (i : Nat) (fs : List Str) (as : C) | bif (b : Bf) (as : C) | isi (a : C) (t : Ty)
  | tup (as : C) | lst (as : C) | cel (as : C) | nil | cons (a as : C)
  | idx (a b : C) | sli (a lo hi : C) | nop
  | cmpn (own : List (Str × Nat)) (tg : T) (it cnd elt : C)
  | cmpl (own : List (Str × Nat)) (tg : T) (a cnd elt : C)
  | cmp2 (own : List (Str × Nat)) (tg : T) (it cnd : C) (tg1 : T) (it1 cnd1 elt : C)
  | err (f : Str) (b : C)
  | isx (i : Nat) (x : Str) | joi (a b : C)
  | fld (o : C) (c f : Str) | mth0 (o : C) (c m n : Str) | mth (o : C) (c m n : Str) (as : C) | mk0 (c n : Str) | pop0 (o : C)
  /-- a thing backwards; list(range(a)), tuple(range(a)) or of two bounds (kd 0 a list, 1 a tuple, 2 a changeable list); how many different ones; o.pop(i) -/
  | rev (a : C) | rgl1 (kd : Nat) (a : C) | rgl2 (kd : Nat) (a b : C) | lset (a : C) | popi (o i : C)
  /-- a new list that may be changed: a + b or a * b; list(a); a comprehension -/
  | newb (op : Operator) (a b : C) | newl (a : C) | cmpc (own : List (Str × Nat)) (tg : T) (it cnd elt : C)
  | rng1 (a : C) | rng2 (a b : C) | itr (a : C) | itl (a : C) | zip (a b : C) | zip3 (a b c : C) | enm (a : C)
/-- statements -/
inductive S where
  | pass | nil | cons (a r : S)
  | set (i : Nat) (e : C) | tgt (tg : T) (e : C) | par (i j : Nat) (a b : C) | par3 (i j l : Nat) (a b c : C)
  | ife (t : C) (a b : S) | for (tg : T) (it : C) (b : S) | whl (t : C) (b : S)
  | ret (e : C) | retn | exp (e : C) | brk | cnt
  | rai (x : Str)
  | app (o e : C) | sub (o i e : C)
  | fset (o : C) (c f : Str) (e : C) | fs3 (i : Nat) (c f1 f2 f3 : Str) (e : C)
  | frz (i : Nat)

/-! ### plain operations -/
mutual
def D.py : D → Option PyData
  | .non => some .none
  | .bl b => some (.bool b)
  | .int i => some (.int i)
  | .str x => some (.str x)
  | .tup xs => (pys xs).map .tuple
  | .lst xs => (pys xs).map .list
  | .fls _ => none
  | .glo _ => none
  | .cel _ => none
  | .exc => none
def pys : List D → Option (List PyData)
  | [] => some []
  | d :: ds => match d.py, pys ds with
    | some a, some b => some (a :: b)
    | _, _ => none
end
/-- the same, a changeable thing looked up once at the top -/
def pyM (μ : Mem) : D → Option PyData
  | .cel n => match μ[n]? with
    | some (some (.lst xs)) => (pys xs).map .list
    | _ => none
  | d => d.py
def mulOk (i j : Int) : Bool := decide (i.natAbs.log2 + j.natAbs.log2 < 1000000) || (decide (-(2 ^ 64) < i) && decide (i < 2 ^ 64)) || (decide (-(2 ^ 64) < j) && decide (j < 2 ^ 64))
def fits (n : Nat) : Bool := decide (n ≤ 16777216)
/-- a list to be read: a finished one, or one that may still be changed -/
def asLst (μ : Mem) : D → Option (List D)
  | .lst xs => some xs
  | .cel n => match μ[n]? with
    | some (some (.lst xs)) => some xs
    | _ => none
  | _ => none
/-- a text so many times -/
def repS (a : Str) (n : Nat) : Str := ⟨((List.replicate n a.cps.toList).flatten).toArray⟩
def binD (op : Operator) (x y : D) (μ : Mem) : R D := match op, x, y with
  | .Add, .int i, .int j => .ok (.int (i + j)) μ
  | .Sub, .int i, .int j => .ok (.int (i - j)) μ
  | .Mult, .int i, .int j => if mulOk i j then .ok (.int (i * j)) μ else .no
  | .FloorDiv, .int i, .int j => if decide (j ≠ 0) && decide (j.natAbs.log2 < 9000) then .ok (.int (i.fdiv j)) μ else .no
  | .Mod, .int i, .int j => if j ≠ 0 then .ok (.int (i.fmod j)) μ else .no
  | .Pow, .int i, .int j => if decide (0 ≤ j) && decide (j ≤ 1000000) && decide (i.natAbs < 2 ^ 64) then .ok (.int (i ^ j.toNat)) μ else .no
  | .Add, .str a, .str b => if fits (a.length + b.length) then .ok (.str (a ++ b)) μ else .no
  | .Add, .tup a, .tup b => if fits (a.length + b.length) then .ok (.tup (a ++ b)) μ else .no
  | .Mult, .tup xs, .int k => if k = 1 then .ok (.tup xs) μ else if !xs.isEmpty && decide (2 ≤ k) && decide (k ≤ 1000) && decide (xs.length ≤ 1000) then .ok (.tup (List.replicate k.toNat xs).flatten) μ else .no
  | .Add, a, b => match asLst μ a, asLst μ b with
    | some xs, some ys => if fits (xs.length + ys.length) then .ok (.lst (xs ++ ys)) μ else .no
    | _, _ => .no
  | .Mult, .str a, .int k => if decide (-(2 ^ 63) ≤ k) && decide (k < 2 ^ 63) && fits (a.length * k.toNat) then .ok (.str (repS a k.toNat)) μ else .no
  | .Mult, a, .int k => match asLst μ a with
    | some xs => if decide (-(2 ^ 63) ≤ k) && decide (k < 2 ^ 63) && fits (xs.length * k.toNat) then .ok (.lst (List.replicate k.toNat xs).flatten) μ else .no
    | none => .no
  | _, _, _ => .no
def flat : D → Bool
  | .non => true
  | .bl _ => true
  | .int _ => true
  | .str _ => true
  | _ => false
def eqF : D → D → Bool
  | .non, .non => true
  | .bl a, .bl b => a == b
  | .bl a, .int b => (if a then 1 else 0) == b
  | .int a, .bl b => a == (if b then 1 else 0)
  | .int a, .int b => a == b
  | .str a, .str b => a == b
  | _, _ => false
/-- the items of a list or a tuple -/
def asSeq (μ : Mem) : D → Option (List D)
  | .tup xs => some xs
  | d => asLst μ d
def eqD (μ : Mem) (x y : D) : Option Bool := match pyM μ x, pyM μ y with
  | some d, some e => if SeqAt.shaped d && SeqAt.shaped e then some (PyData.eqv d e) else none
  | _, _ => none
def inD (μ : Mem) (x y : D) : Option Bool := match y with
  | .str b => match x with
    | .str a => some (!(Builtin.Str.occurrences b a 0 b.length 1).isEmpty)
    | _ => none
  | y => match asSeq μ y with
    | some ys => if flat x && ys.all flat then some (ys.any fun z => eqF z x) else none
    | none => none
def isNon : D → Option Bool
  | .non => some true
  | _ => some false
def isD (x y : D) : Option Bool := match y with
  | .non => match x with
    | .non => some true
    | _ => some false
  | .bl b => match x with
    | .bl a => some (decide (a = b))
    | _ => none
  | _ => none
def intsOf : List D → Option (List Int)
  | [] => some []
  | .int i :: r => (intsOf r).map (i :: ·)
  | _ :: _ => none
/-- rows of ints, none of them empty -/
def rowsOf : List D → Option (List (List Int))
  | [] => some []
  | .tup xs :: r => match intsOf xs with
    | some (n :: ns) => (rowsOf r).map ((n :: ns) :: ·)
    | _ => none
  | _ :: _ => none
def rowD (r : List Int) : D := .tup (r.map .int)
def lexLt : List Int → List Int → Bool := HT.lexLt
def cmpB (op : CmpOp) (x y : D) (μ : Mem) : Option Bool := match op with
  | .Eq => eqD μ x y
  | .NotEq => (eqD μ x y).map (!·)
  | .In => inD μ x y
  | .NotIn => (inD μ x y).map (!·)
  | .Is => isD x y
  | .IsNot => (isD x y).map (!·)
  | .Lt => match x, y with
    | .int i, .int j => some (decide (i < j))
    | .tup a, .tup b => match intsOf a, intsOf b with
      | some a, some b => some (lexLt a b)
      | _, _ => none
    | _, _ => none
  | .LtE => match x, y with
    | .int i, .int j => some (decide (i ≤ j))
    | _, _ => none
  | .Gt => match x, y with
    | .int i, .int j => some (decide (j < i))
    | _, _ => none
  | .GtE => match x, y with
    | .int i, .int j => some (decide (j ≤ i))
    | _, _ => none
def cmpD (op : CmpOp) (x y : D) (μ : Mem) : R Bool := match cmpB op x y μ with
  | some b => .ok b μ
  | none => .no
def truB (μ : Mem) : D → Option Bool
  | .non => some false
  | .bl b => some b
  | .int i => some (i != 0)
  | .str x => if fits x.length then some ((x.length : Int) != 0) else none
  | .tup xs => some (!xs.isEmpty)
  | .lst xs => some (!xs.isEmpty)
  | .cel n => match μ[n]? with
    | some (some (.lst xs)) => some (!xs.isEmpty)
    | _ => none
  | _ => none
def tru (d : D) (μ : Mem) : R Bool := match truB μ d with
  | some b => .ok b μ
  | none => .no
def isTy (t : Ty) : D → Option Bool
  | .non => some false
  | .bl _ => some (decide (t = .bool) || decide (t = .int))
  | .int _ => some (decide (t = .int))
  | .str _ => some (decide (t = .str))
  | .tup _ => some (decide (t = .tuple))
  | .lst _ => some (decide (t = .list))
  | .fls _ => some (decide (t = .list))
  | .cel _ => none
  | .glo _ => none
  | .exc => none
def blsOf : List D → Option (List Bool)
  | [] => some []
  | .bl b :: r => (blsOf r).map (b :: ·)
  | _ :: _ => none
def maxOf : List Int → Option Int
  | [] => none
  | [i] => some i
  | i :: r => (maxOf r).map fun j => if j > i then j else i
def minOf : List Int → Option Int
  | [] => none
  | [i] => some i
  | i :: r => (minOf r).map fun j => if j < i then j else i
def bifD (b : Bf) (vs : List D) (μ : Mem) : R D := match b, vs with
  | .len, [.str x] => if fits x.length then .ok (.int x.length) μ else .no
  | .len, [d] => match asSeq μ d with
    | some xs => .ok (.int xs.length) μ
    | none => .no
  | .abs, [.int i] => .ok (.int (if i < 0 then -i else i)) μ
  | .int, [.int i] => .ok (.int i) μ
  | .int, [.str z] => match PySem.intText? z with
    | some n => if decide (z.length ≤ 640) then .ok (.int n) μ else .no
    | none => .no
  | .str, [.int i] => if decide (i.natAbs < 10 ^ 100) then .ok (.str (toString i : String)) μ else .no
  | .str, [.str z] => .ok (.str z) μ
  | .int, [.bl b] => .ok (.int (if b then 1 else 0)) μ
  | .list, [.fls xs] => .ok (.lst xs) μ
  | .list, [d] => match asSeq μ d with
    | some xs => .ok (.lst xs) μ
    | none => .no
  | .tuple, [d] => match asSeq μ d with
    | some xs => .ok (.tup xs) μ
    | none => .no
  | .sum, [d] => match asLst μ d with
    | some xs => match intsOf xs with
      | some ns => .ok (.int ns.sum) μ
      | none => .no
    | none => .no
  | .all, [d] => match asLst μ d with
    | some xs => match blsOf xs with
      | some bs => .ok (.bl (bs.all id)) μ
      | none => .no
    | none => .no
  | .any, [d] => match asLst μ d with
    | some xs => match blsOf xs with
      | some bs => .ok (.bl (bs.any id)) μ
      | none => .no
    | none => .no
  | .gcd, [.int a, .int b] => .ok (.int ((Nat.gcd a.natAbs b.natAbs : Nat) : Int)) μ
  | .max1, [d] => match (asLst μ d).bind intsOf with
    | some ns => match maxOf ns with
      | some m => .ok (.int m) μ
      | none => .no
    | none => .no
  | .min1, [d] => match asLst μ d with
    | some xs => match intsOf xs with
      | some ns => match minOf ns with
        | some m => .ok (.int m) μ
        | none => .no
      | none => match rowsOf xs with
        | some (r :: rs) => .ok (rowD (ZN.minRow r rs)) μ
        | _ => .no
    | none => .no
  | .sorted, [d] => match asSeq μ d with
    | some xs => match intsOf xs with
      | some ns => .ok (.lst ((ns.mergeSort ZN.leI).map .int)) μ
      | none => match rowsOf xs with
        | some rs => .ok (.lst ((rs.mergeSort ZN.leR).map rowD)) μ
        | none => .no
    | none => .no
  | .max2, [.int i, .int j] => .ok (.int (if j > i then j else i)) μ
  | .min2, [.int i, .int j] => .ok (.int (if j < i then j else i)) μ
  | _, _ => .no
def idxD (x y : D) (μ : Mem) : R D := match x, y with
  | .str z, .int i => if fits z.length then (match atI z.cps.toList i with
    | some c => .ok (.str ⟨#[c]⟩) μ
    | none => .no) else .no
  | x, .int i => match asSeq μ x with
    | some xs => match atI xs i with
      | some v => .ok v μ
      | none => .no
    | none => .no
  | _, _ => .no
def cutD (xs : List D) (lo hi : Option Int) : List D := (xs.drop (HT.sIx xs.length 0 lo)).take (HT.sIx xs.length xs.length hi - HT.sIx xs.length 0 lo)
def sliD (x : D) (lo hi : Option Int) (μ : Mem) : R D := match x with
  | .tup xs => .ok (.tup (cutD xs lo hi)) μ
  | .str z => if fits z.length then .ok (.str (cutS z lo hi)) μ else .no
  | x => match asLst μ x with
    | some xs => .ok (.lst (cutD xs lo hi)) μ
    | none => .no
/-! ### targets -/
def asg : T → D → DEnv → Option DEnv
  | .nm i, d, ρ => some (ρ.set i (some d))
  | .nil, .tup [], ρ => some ρ
  | .cons a r, .tup (d :: ds), ρ => (asg a d ρ).bind fun ρ' => asg r (.tup ds) ρ'
  | _, _, _ => none
def T.slots : T → List Nat
  | .nm i => [i]
  | .nil => []
  | .cons a r => a.slots ++ r.slots
def wipeD (ρ : DEnv) : List Nat → DEnv
  | [] => ρ
  | v :: vs => (wipeD ρ vs).set v none
/-- a comprehension's turns -/
def compL (turn : D → Mem → R (Option D)) : List D → List D → Mem → R (List D)
  | [], acc, μ => .ok acc μ
  | d :: ds, acc, μ => (turn d μ).calm.bind fun y μ' => match y with
    | some y => if decide (acc.length < 16777216) then compL turn ds (acc ++ [y]) μ' else .no
    | none => compL turn ds acc μ'
/-- turns that add any number of items -/
def compM (turn : D → List D → Mem → R (List D)) : List D → List D → Mem → R (List D)
  | [], acc, μ => .ok acc μ
  | d :: ds, acc, μ => (turn d acc μ).bind fun acc' μ' => compM turn ds acc' μ'
/-! ### the interpreter -/
structure G where
  cal : Str → List D → Mem → R D
  /-- calls from within a lambda that a def calls -/
  cal2 : Str → List D → Mem → R D
  dp : Bool
  con : Str → Option D
  /-- a def that calls what it gets and tells the end: of each end what it gives -/
  hnd : Str → Option Exn → Option D
  /-- the exception that is handled; is the one class the other's sub class? -/
  exn : Option Exn
  sub : Str → Str → Option Bool
  W : Nat
def G.low (g : G) : G := { g with cal := g.cal2, cal2 := fun _ _ _ => .no, dp := false }
def told (r : Option D) (μ : Mem) : R D := match r with
  | some d => if flat d then .ok d μ else .no
  | none => .no
def strsOf : List D → Option (List Str)
  | [] => some []
  | .str z :: r => (strsOf r).map (z :: ·)
  | _ :: _ => none
def joiD (a : Str) (y : D) (μ : Mem) : R D := match asSeq μ y with
  | some ys => match strsOf ys with
    | some zs => if decide ((zs.map (·.length)).sum + zs.length * a.length ≤ 16777216) then .ok (.str (Txt.join a zs)) μ else .no
    | none => .no
  | none => .no
def partD : D → Option (Option Int)
  | .non => some none
  | .int i => some (some i)
  | _ => none
def rngL (lo hi : Int) : List D := (List.range (hi - lo).toNat).map fun (i : Nat) => D.int (lo + i)
def rngOk (i : Int) : Bool := decide (i.natAbs < 4611686018427387904)
def pairL (xs ys : List D) : List D := List.zipWith (fun a b => D.tup [a, b]) xs ys
def pairL3 : List D → List D → List D → List D
  | x :: xs, y :: ys, z :: zs => D.tup [x, y, z] :: pairL3 xs ys zs
  | _, _, _ => []
/-- a finished list or a tuple -/
def seqF : D → Option (List D)
  | .tup xs => some xs
  | .lst xs => some xs
  | _ => none
def enumL (n : Nat) : List D → List D
  | [] => []
  | x :: xs => D.tup [.int (n : Int), x] :: enumL (n + 1) xs
def strL (z : Str) : List D := z.cps.toList.map fun c => D.str ⟨#[c]⟩
def walkD : D → Option (List D)
  | .str z => some (strL z)
  | .tup xs => some xs
  | .lst xs => some xs
  | _ => none
/-- an instance's attribute -/
def fldOf (μ : Mem) (x : D) (c f : Str) : Option D := match x with
  | .cel n => match μ[n]? with
    | some (some (.obj c' fs)) => if c' = c then fs.lookup f else none
    | _ => none
  | _ => none
/-- an instance of the class, that has no attribute of that name itself -/
def isObj (μ : Mem) (x : D) (c m : Str) : Bool := match x with
  | .cel n => match μ[n]? with
    | some (some (.obj c' fs)) => decide (c' = c) && (fs.lookup m).isNone
    | _ => false
  | _ => false
def popD (x : D) (μ : Mem) : R D := match x with
  | .cel n => match μ[n]? with
    | some (some (.lst xs)) => match xs[xs.length - 1]? with
      | some d => .ok d (μ.set n (some (.lst xs.dropLast)))
      | none => .no
    | _ => .no
  | _ => .no
/-- a new list, one that may be changed -/
def celR : R D → R D
  | .ok (.lst xs) μ => .ok (.cel μ.length) (μ ++ [some (.lst xs)])
  | _ => .no
def revD (x : D) (μ : Mem) : R D := match x with
  | .tup xs => .ok (.tup xs.reverse) μ
  | x => match asLst μ x with
    | some xs => .ok (.lst xs.reverse) μ
    | none => .no
/-- the numbers from i on below j, laid as a list (0), as a tuple (1), as a list that may be changed -/
def rglD (kd : Nat) (i j : Int) (μ : Mem) : R D := if rngOk i && rngOk j && fits (rngL i j).length then (match kd with
    | 0 => .ok (.lst (rngL i j)) μ
    | 1 => .ok (.tup (rngL i j)) μ
    | _ => .ok (.cel μ.length) (μ ++ [some (.lst (rngL i j))])) else .no
def lsetD (x : D) (μ : Mem) : R D := match x with
  | .tup xs => match intsOf xs with
    | some ns => if decide (ns.length ≤ 1000) then .ok (.int (ZN.nub ns).length) μ else .no
    | none => .no
  | _ => .no
def popI (x : D) (i : Int) (μ : Mem) : R D := match x with
  | .cel n => match μ[n]? with
    | some (some (.lst xs)) => if decide (0 ≤ i) && rngOk i then (match xs[i.toNat]? with
      | some d => .ok d (μ.set n (some (.lst (xs.eraseIdx i.toNat))))
      | none => .no) else .no
    | _ => .no
  | _ => .no
def isCel (μ : Mem) : D → Bool
  | .cel n => match μ[n]? with
    | some (some (.lst _)) => true
    | _ => false
  | _ => false
def evE : G → C → DEnv → Mem → R D
  | g, .var i, ρ, μ => match ρ[i]? with
    | some (some d) => .ok d μ
    | _ => .no
  | g, .num i, _, μ => .ok (.int i) μ
  | g, .txt x, _, μ => .ok (.str x) μ
  | g, .bl b, _, μ => .ok (.bl b) μ
  | g, .non, _, μ => .ok .non μ
  | g, .glo x, _, μ => .ok (.glo x) μ
  | g, .con x, _, μ => match g.con x with
    | some d => .ok d μ
    | none => .no
  | g, .bin op a b, ρ, μ => (evE g a ρ μ).bind fun x μ1 => (evE g b ρ μ1).bind fun y μ2 => binD op x y μ2
  | g, .neg a, ρ, μ => (evE g a ρ μ).bind fun x μ1 => match x with
    | .int i => .ok (.int (-i)) μ1
    | _ => .no
  | g, .not a, ρ, μ => (evE g a ρ μ).bind fun x μ1 => (tru x μ1).bind fun b μ2 => .ok (.bl (!b)) μ2
  | g, .one a, ρ, μ => evE g a ρ μ
  | g, .and a b, ρ, μ => (evE g a ρ μ).bind fun x μ1 => (tru x μ1).bind fun t μ2 => if t then evE g b ρ μ2 else .ok x μ2
  | g, .or a b, ρ, μ => (evE g a ρ μ).bind fun x μ1 => (tru x μ1).bind fun t μ2 => if t then .ok x μ2 else evE g b ρ μ2
  | g, .cmp op a b, ρ, μ => (evE g a ρ μ).bind fun x μ1 => (evE g b ρ μ1).bind fun y μ2 => (cmpD op x y μ2).bind fun t μ3 => .ok (.bl t) μ3
  | g, .chn op op' a b c, ρ, μ => (evE g a ρ μ).bind fun x μ1 => (evE g b ρ μ1).bind fun y μ2 => (cmpD op x y μ2).bind fun t μ3 =>
      if t then (evE g c ρ μ3).bind fun z μ4 => (cmpD op' y z μ4).bind fun t μ5 => .ok (.bl t) μ5 else .ok (.bl false) μ3
  | g, .ite t a b, ρ, μ => (evE g t ρ μ).bind fun x μ1 => (tru x μ1).bind fun t μ2 => if t then evE g a ρ μ2 else evE g b ρ μ2
  | g, .cal0 f, _, μ => g.cal f [] μ
  | g, .cal f as, ρ, μ => (evE g as ρ μ).bind fun x μ1 => match x with
    | .tup ds => g.cal f ds μ1
    | _ => .no
  | g, .cav i fs as, ρ, μ => match ρ[i]? with
    | some (some (.glo f)) => if fs.contains f then (evE g as ρ μ).bind fun x μ1 => match x with
      | .tup ds => g.cal f ds μ1
      | _ => .no
      else .no
    | _ => .no
  | g, .bif b as, ρ, μ => (evE g as ρ μ).bind fun x μ1 => match x with
    | .tup ds => bifD b ds μ1
    | _ => .no
  | g, .isi a t, ρ, μ => (evE g a ρ μ).bind fun x μ1 => match isTy t x with
    | some b => .ok (.bl b) μ1
    | none => .no
  | g, .nil, _, μ => .ok (.tup []) μ
  | g, .cons a as, ρ, μ => (evE g a ρ μ).bind fun x μ1 => (evE g as ρ μ1).bind fun y μ2 => match y with
    | .tup ds => .ok (.tup (x :: ds)) μ2
    | _ => .no
  | g, .tup as, ρ, μ => (evE g as ρ μ).bind fun x μ1 => match x with
    | .tup ds => if fits ds.length then .ok (.tup ds) μ1 else .no
    | _ => .no
  | g, .lst as, ρ, μ => (evE g as ρ μ).bind fun x μ1 => match x with
    | .tup ds => if fits ds.length then .ok (.lst ds) μ1 else .no
    | _ => .no
  | g, .cel as, ρ, μ => (evE g as ρ μ).bind fun x μ1 => match x with
    | .tup ds => if fits ds.length then .ok (.cel μ1.length) (μ1 ++ [some (.lst ds)]) else .no
    | _ => .no
  | g, .idx a b, ρ, μ => (evE g a ρ μ).bind fun x μ1 => (evE g b ρ μ1).bind fun y μ2 => idxD x y μ2
  | g, .sli a lo hi, ρ, μ => (evE g a ρ μ).bind fun x μ1 => (evE g lo ρ μ1).bind fun l μ2 => match partD l with
    | some l => (evE g hi ρ μ2).bind fun h μ3 => match partD h with
      | some h => sliD x l h μ3
      | none => .no
    | none => .no
  | g, .nop, _, μ => .ok .non μ
  | g, .cmpn own tg it cnd elt, ρ, μ => (evE g it ρ μ).bind fun x μ1 => match x with
    | .tup items => (compL (fun d μ => match asg tg d (wipeD ρ (own.map (·.2))) with
        | some ρ' => match cnd with
          | .nop => (evE g elt ρ' μ).bind fun y μ3 => .ok (some y) μ3
          | cnd => (evE g cnd ρ' μ).bind fun t μ1 => (tru t μ1).bind fun b μ2 => if b then (evE g elt ρ' μ2).bind fun y μ3 => .ok (some y) μ3 else .ok none μ2
        | none => .no) items [] μ1).bind fun ys μ2 => .ok (.lst ys) μ2
    | _ => .no
  | g, .cmpl own tg a cnd elt, ρ, μ => (evE g a ρ μ).bind fun x μ1 => match x with
    | .lst items => (compL (fun d μ => match asg tg d (wipeD ρ (own.map (·.2))) with
        | some ρ' => match cnd with
          | .nop => (evE g elt ρ' μ).bind fun y μ3 => .ok (some y) μ3
          | cnd => (evE g cnd ρ' μ).bind fun t μ1 => (tru t μ1).bind fun b μ2 => if b then (evE g elt ρ' μ2).bind fun y μ3 => .ok (some y) μ3 else .ok none μ2
        | none => .no) items [] μ1).bind fun ys μ2 => .ok (.lst ys) μ2
    | _ => .no
  | g, .cmp2 own tg it cnd tg1 it1 cnd1 elt, ρ, μ => (evE g it ρ μ).bind fun x μ1 => match x with
    | .tup items => (compM (fun d acc μ => match asg tg d (wipeD ρ (own.map (·.2))) with
        | some ρ' => (match cnd with
          | .nop => R.ok true μ
          | cnd => (evE g cnd ρ' μ).bind fun t μ1 => tru t μ1).calm.bind fun b μ2 => if b then (evE g it1 ρ' μ2).calm.bind fun y μ3 => (match y with
            | .tup items1 => compL (fun d μ => match asg tg1 d (wipeD ρ' tg1.slots) with
              | some ρ2 => match cnd1 with
                | .nop => (evE g elt ρ2 μ).bind fun y μ3 => .ok (some y) μ3
                | cnd1 => (evE g cnd1 ρ2 μ).bind fun t μ1 => (tru t μ1).bind fun b μ2 => if b then (evE g elt ρ2 μ2).bind fun y μ3 => .ok (some y) μ3 else .ok none μ2
              | none => .no) items1 acc μ3
            | _ => .no) else .ok acc μ2
        | none => .no) items [] μ1).bind fun ys μ2 => .ok (.lst ys) μ2
    | _ => .no
  | g, .err f b, ρ, μ => if g.dp then (match evE g.low b ρ μ with
    | .ok _ μ' => told (g.hnd f none) μ'
    | .er x μ' => told (g.hnd f (some x)) μ'
    | .no => .no) else .no
  | g, .isx i x, ρ, μ => match ρ[i]? with
    | some (some .exc) => match g.exn with
      | some e => match g.sub e.cls x with
        | some b => .ok (.bl b) μ
        | none => .no
      | none => .no
    | _ => .no
  | g, .joi a b, ρ, μ => (evE g a ρ μ).bind fun x μ1 => match x with
    | .str z => (evE g b ρ μ1).bind fun y μ2 => joiD z y μ2
    | _ => .no
  | g, .rng1 a, ρ, μ => (evE g a ρ μ).bind fun x μ1 => match x with
    | .int j => if rngOk j then .ok (.tup (rngL 0 j)) μ1 else .no
    | _ => .no
  | g, .rng2 a b, ρ, μ => (evE g a ρ μ).bind fun x μ1 => (evE g b ρ μ1).bind fun y μ2 => match x, y with
    | .int i, .int j => if rngOk i && rngOk j then .ok (.tup (rngL i j)) μ2 else .no
    | _, _ => .no
  | g, .itr a, ρ, μ => (evE g a ρ μ).bind fun x μ1 => match walkD x with
    | some xs => .ok (.tup xs) μ1
    | none => .no
  | g, .itl a, ρ, μ => (evE g a ρ μ).bind fun x μ1 => match x with
    | .lst xs => .ok (.tup xs) μ1
    | _ => .no
  | g, .zip a b, ρ, μ => (evE g a ρ μ).bind fun x μ1 => (evE g b ρ μ1).bind fun y μ2 => match seqF x, seqF y with
    | some xs, some ys => .ok (.tup (pairL xs ys)) μ2
    | _, _ => .no
  | g, .zip3 a b c, ρ, μ => (evE g a ρ μ).bind fun x μ1 => (evE g b ρ μ1).bind fun y μ2 => (evE g c ρ μ2).bind fun z μ3 => match seqF x, seqF y, seqF z with
    | some xs, some ys, some zs => .ok (.tup (pairL3 xs ys zs)) μ3
    | _, _, _ => .no
  | g, .fld o c f, ρ, μ => (evE g o ρ μ).bind fun x μ1 => match fldOf μ1 x c f with
    | some d => .ok d μ1
    | none => .no
  | g, .mth0 o c m n, ρ, μ => (evE g o ρ μ).bind fun x μ1 => if isObj μ1 x c m then g.cal n [x] μ1 else .no
  | g, .mth o c m n as, ρ, μ => (evE g o ρ μ).bind fun x μ1 => if isObj μ1 x c m then (evE g as ρ μ1).bind fun y μ2 => match y with
    | .tup ds => g.cal n (x :: ds) μ2
    | _ => .no
    else .no
  | g, .mk0 c n, _, μ => if g.dp then (g.cal2 n [.cel μ.length] (μ ++ [some (.obj c [])])).bind fun d μ' => match d with
    | .non => .ok (.cel μ.length) μ'
    | _ => .no
    else .no
  | g, .pop0 o, ρ, μ => (evE g o ρ μ).bind fun x μ1 => popD x μ1
  | g, .rev a, ρ, μ => (evE g a ρ μ).bind fun x μ1 => revD x μ1
  | g, .rgl1 kd a, ρ, μ => (evE g a ρ μ).bind fun x μ1 => match x with
    | .int j => rglD kd 0 j μ1
    | _ => .no
  | g, .rgl2 kd a b, ρ, μ => (evE g a ρ μ).bind fun x μ1 => (evE g b ρ μ1).bind fun y μ2 => match x, y with
    | .int i, .int j => rglD kd i j μ2
    | _, _ => .no
  | g, .lset a, ρ, μ => (evE g a ρ μ).bind fun x μ1 => lsetD x μ1
  | g, .popi o i, ρ, μ => (evE g o ρ μ).bind fun x μ1 => if isCel μ1 x then (evE g i ρ μ1).bind fun y μ2 => (match y with
    | .int k => popI x k μ2
    | _ => .no) else .no
  | g, .newb op a b, ρ, μ => (evE g a ρ μ).bind fun x μ1 => (evE g b ρ μ1).bind fun y μ2 => celR (binD op x y μ2)
  | g, .newl a, ρ, μ => (evE g a ρ μ).bind fun x μ1 => celR (bifD .list [x] μ1)
  | g, .cmpc own tg it cnd elt, ρ, μ => (evE g it ρ μ).bind fun x μ1 => match x with
    | .tup items => (compL (fun d μ => match asg tg d (wipeD ρ (own.map (·.2))) with
        | some ρ' => match cnd with
          | .nop => (evE g elt ρ' μ).bind fun y μ3 => .ok (some y) μ3
          | cnd => (evE g cnd ρ' μ).bind fun t μ1 => (tru t μ1).bind fun b μ2 => if b then (evE g elt ρ' μ2).bind fun y μ3 => .ok (some y) μ3 else .ok none μ2
        | none => .no) items [] μ1).bind fun ys μ2 => celR (.ok (.lst ys) μ2)
    | _ => .no
  | g, .enm a, ρ, μ => (evE g a ρ μ).bind fun x μ1 => match walkD x with
    | some xs => .ok (.tup (enumL 0 xs)) μ1
    | none => .no
/-- what a statement comes to -/
inductive Fl where
  | nx (ρ : DEnv) | rt (d : D) | bk (ρ : DEnv) | ct (ρ : DEnv)
def forL (turn : D → DEnv → Mem → R Fl) : List D → DEnv → Mem → R Fl
  | [], ρ, μ => .ok (.nx ρ) μ
  | d :: ds, ρ, μ => (turn d ρ μ).bind fun f μ' => match f with
    | .nx ρ' => forL turn ds ρ' μ'
    | .ct ρ' => forL turn ds ρ' μ'
    | .bk ρ' => .ok (.nx ρ') μ'
    | .rt d => .ok (.rt d) μ'
def whlL (test : DEnv → Mem → R Bool) (body : DEnv → Mem → R Fl) : Nat → DEnv → Mem → R Fl
  | 0, _, _ => .no
  | n + 1, ρ, μ => (test ρ μ).bind fun b μ1 => if b then (body ρ μ1).bind fun f μ' => (match f with
    | .nx ρ' => whlL test body n ρ' μ'
    | .ct ρ' => whlL test body n ρ' μ'
    | .bk ρ' => .ok (.nx ρ') μ'
    | .rt d => .ok (.rt d) μ') else .ok (.nx ρ) μ1
def evT (g : G) (c : C) (ρ : DEnv) (μ : Mem) : R Bool := (evE g c ρ μ).bind fun x μ1 => tru x μ1
def appD (o x : D) (μ : Mem) : R Unit := match o with
  | .cel n => match μ[n]? with
    | some (some (.lst xs)) => if decide (xs.length < 16777216) then .ok () (μ.set n (some (.lst (xs ++ [x])))) else .no
    | _ => .no
  | _ => .no
def subD (o i x : D) (μ : Mem) : R Unit := match o, i with
  | .cel n, .int k => match μ[n]? with
    | some (some (.lst xs)) => match ixN xs.length k with
      | some j => .ok () (μ.set n (some (.lst (xs.set j x))))
      | none => .no
    | _ => .no
  | _, _ => .no
def putD (f : Str) (d : D) : List (Str × D) → List (Str × D)
  | [] => [(f, d)]
  | p :: r => if p.1 = f then (p.1, d) :: r else p :: putD f d r
def fldD (x : D) (c f : Str) (y : D) (μ : Mem) : R Unit := match x with
  | .cel n => match μ[n]? with
    | some (some (.obj c' fs)) => if decide (c' = c) && decide (fs.length < 1000) then .ok () (μ.set n (some (.obj c' (putD f y fs)))) else .no
    | _ => .no
  | _ => .no
def evS (g : G) : S → DEnv → Mem → R Fl
  | .pass, ρ, μ => .ok (.nx ρ) μ
  | .nil, ρ, μ => .ok (.nx ρ) μ
  | .cons a r, ρ, μ => (evS g a ρ μ).bind fun f μ' => match f with
    | .nx ρ' => evS g r ρ' μ'
    | f => .ok f μ'
  | .set i e, ρ, μ => (evE g e ρ μ).bind fun x μ1 => .ok (.nx (ρ.set i (some x))) μ1
  | .tgt tg e, ρ, μ => (evE g e ρ μ).bind fun x μ1 => match asg tg x ρ with
    | some ρ' => .ok (.nx ρ') μ1
    | none => .no
  | .par i j a b, ρ, μ => (evE g a ρ μ).bind fun x μ1 => (evE g b ρ μ1).bind fun y μ2 => .ok (.nx ((ρ.set i (some x)).set j (some y))) μ2
  | .par3 i j l a b c, ρ, μ => (evE g a ρ μ).bind fun x μ1 => (evE g b ρ μ1).bind fun y μ2 => (evE g c ρ μ2).bind fun z μ3 => .ok (.nx (((ρ.set i (some x)).set j (some y)).set l (some z))) μ3
  | .ife t a b, ρ, μ => (evT g t ρ μ).bind fun c μ1 => if c then evS g a ρ μ1 else evS g b ρ μ1
  | .for tg it b, ρ, μ => (evE g it ρ μ).bind fun x μ1 => match x with
    | .tup items => forL (fun d ρ μ => match asg tg d ρ with
        | some ρ' => evS g b ρ' μ
        | none => .no) items ρ μ1
    | _ => .no
  | .whl t b, ρ, μ => whlL (fun ρ μ => evT g t ρ μ) (fun ρ μ => evS g b ρ μ) g.W ρ μ
  | .ret e, ρ, μ => (evE g e ρ μ).bind fun x μ1 => .ok (.rt x) μ1
  | .retn, _, μ => .ok (.rt .non) μ
  | .exp e, ρ, μ => (evE g e ρ μ).bind fun _ μ1 => .ok (.nx ρ) μ1
  | .brk, ρ, μ => .ok (.bk ρ) μ
  | .cnt, ρ, μ => .ok (.ct ρ) μ
  | .rai x, _, μ => .er ⟨x, []⟩ μ
  | .frz i, ρ, μ => match ρ[i]? with
    | some (some (.cel n)) => match μ[n]? with
      | some (some (.lst xs)) => .ok (.nx (ρ.set i (some (.lst xs)))) (μ.set n none)
      | _ => .no
    | _ => .no
  | .app o e, ρ, μ => (evE g o ρ μ).bind fun x μ1 => if isCel μ1 x then (evE g e ρ μ1).bind fun y μ2 => (appD x y μ2).bind fun _ μ3 => .ok (.nx ρ) μ3 else .no
  | .sub o i e, ρ, μ => (evE g e ρ μ).bind fun y μ1 => (evE g o ρ μ1).bind fun x μ2 => (evE g i ρ μ2).bind fun k μ3 => (subD x k y μ3).bind fun _ μ4 => .ok (.nx ρ) μ4
  | .fset o c f e, ρ, μ => (evE g e ρ μ).bind fun y μ1 => (evE g o ρ μ1).bind fun x μ2 => (fldD x c f y μ2).bind fun _ μ3 => .ok (.nx ρ) μ3
  | .fs3 i c f1 f2 f3 e, ρ, μ => (evE g e ρ μ).bind fun v μ1 => match v with
    | .tup [x, y, z] => match ρ[i]? with
      | some (some o) => (fldD o c f1 x μ1).bind fun _ μ4 => (fldD o c f2 y μ4).bind fun _ μ5 => (fldD o c f3 z μ5).bind fun _ μ6 => .ok (.nx ρ) μ6
      | _ => .no
    | _ => .no
/-- a def: how many parameters, how many names, its code -/
structure Fn where
  name : Str
  np : Nat
  nn : Nat
  code : S
def startD (n : Nat) (ds : List D) : DEnv := ds.map some ++ List.replicate (n - ds.length) none
def runB (g : G) (f : Fn) (ds : List D) (μ : Mem) : R D := if ds.length = f.np then (evS g f.code (startD f.nn ds) μ).bind fun fl μ' => (match fl with
    | .rt d => .ok d μ'
    | .nx _ => .ok .non μ'
    | _ => .no) else .no
/-- the module's defs, its constants -/
structure Md where
  fns : List Fn
  con : List (Str × D)
  hnd : Str → Option Exn → Option D
  sub : Str → Str → Option Bool
def Md.at_ (M : Md) (f : Str) : Option Fn := M.fns.find? fun x => x.name == f
def callM (M : Md) (g : G) (f : Str) (ds : List D) (μ : Mem) : R D := match M.at_ f with
  | some x => runB g x ds μ
  | none => .no
def gOf (M : Md) (W : Nat) (c c2 : Str → List D → Mem → R D) (dp : Bool) : G := ⟨c, c2, dp, fun x => M.con.lookup x, M.hnd, none, M.sub, W⟩
/-- a call, so many calls deep -/
def run (M : Md) (W : Nat) : Nat → Str → List D → Mem → R D
  | 0 => fun _ _ _ => .no
  | 1 => callM M (gOf M W (run M W 0) (run M W 0) false)
  | 2 => callM M (gOf M W (run M W 1) (run M W 0) false)
  | k + 3 => callM M (gOf M W (run M W (k + 2)) (run M W k) true)
/-- what runs k calls deep -/
def gAt (M : Md) (W k : Nat) : G := gOf M W (run M W k) (run M W (k - 2)) (decide (2 ≤ k))
theorem run_succ (M : Md) (W k : Nat) : run M W (k + 1) = callM M (gAt M W k) := by
  match k with
  | 0 => rfl
  | 1 => rfl
  | k + 2 => rfl
end Den

/-! DenH1: a list's end, a tuple unpacked while an exception is handled. -/
namespace Den
open PySem PySem.Spec PyProof.Rows
section
variable {prog : Program} {w : World} {A : Around} {E : Value → Shared → Prop} {s : Shared} {x1 : Addr}
/-- StopIteration is made, raised where x1 is handled -/
theorem stop_made {α : Type} {Q : α → Shared → Prop} (hot : HotX.HotAt A x1 s.heap)
    (hQ : ∀ h' a, (∀ b o, s.heap.get? b = some o → h'.get? b = some o) → (∃ oa, h'.get? a = some oa ∧ oa.cls = .type "StopIteration") → E (.ref a) { s with heap := h' }) :
    wpAny (model prog w) A (do let e ← newExc (.type "StopIteration") []; raiseNew e) Q E s := by
  obtain ⟨hh, o1, vs1, h1, d1, c1⟩ := hot
  refine wpAny_bind ?_
  simp only [newExc, newTuple]
  refine wpAny_bind (wpAny_newObj_type (wpAny_bind (m := firstArgMember _ _) (wpAny_of_eq (a := Value.none) (by first | rfl | (simp only [firstArgMember]; rfl)) (wpAny_newObj_type ?_ (by size_fits)))) (by size_fits))
  have g1 := Heap.get?_push_of_some { cls := .type "tuple", data := .seq ([] : List Value).toArray } h1
  refine HotX.raiseNew_hot ⟨hh, o1, vs1, by exact Heap.get?_push_of_some _ g1, d1, c1⟩ (by exact Nat.ne_of_lt (Heap.lt_size g1)) (by exact Heap.get?_push_size _ rfl) rfl (by first | (simp; done) | (simp; omega) | (simp only [Array.size_append]; simp; omega)) ?_
  refine hQ _ _ (fun b o e => ?_) ⟨_, Heap.get?_update_self _ (Heap.get?_push_size _ rfl) rfl, rfl⟩
  have g2 := Heap.get?_push_of_some { cls := .type "tuple", data := .seq ([] : List Value).toArray } e
  rw [Heap.get?_update_other _ _ (by exact Nat.ne_of_gt (Heap.lt_size g2))]
  exact Heap.get?_push_of_some _ g2
theorem hot_upd {it : Addr} {h : Heap} {f : Obj → Obj} (hot : HotX.HotAt A x1 h) (hne : x1 ≠ it) : HotX.HotAt A x1 (h.update it f) := by
  obtain ⟨hh, o1, vs1, h1, d1, c1⟩ := hot
  exact ⟨hh, o1, vs1, by rw [Heap.get?_update_other _ _ (fun z => hne z.symm)]; exact h1, d1, c1⟩
theorem list_end_hot {it l : Addr} {i : Nat} {items : Array Value} {Q : Option Value → Shared → Prop} (hot : HotX.HotAt A x1 s.heap) (hne : x1 ≠ it) (hit : s.heap.IsListIter it l i) (hl : s.heap.IsList l items) (hx : items[i]? = none)
    (hQ : ∀ h', Heap.ExtBut it s.heap h' → Q none { s with heap := h' }) : wpAny (model prog w) A (pyNext (.ref it)) Q E s := by
  obtain ⟨oi, gi, _, di⟩ := id hit
  obtain ⟨_, gl, _, _, dl⟩ := hl
  unfold pyNext
  refine wpAny_bind (wpAny_attempt (wpAny_callSpecial?_slot (name := Str.ofString "__next__") hit.typeIs slot_listiter_next (wpAny_call_entry slot_listiter_next hit.typeIs entry_listiter_next ?_ (args_listiter_next _))))
  change wpAny _ A.in1 (field (.ref it) 0 >>= _) _ _ s
  refine wpAny_bind (wpAny_field gi di (x := .ref l) rfl ?_)
  change wpAny _ A.in1 (if (Value.ref l == Value.none) = true then _ else _) _ _ s
  rw [if_neg (by exact Bool.false_ne_true)]
  change wpAny _ A.in1 (field (.ref it) 1 >>= _) _ _ s
  refine wpAny_bind (wpAny_field gi di (x := .int i 0) rfl ?_)
  change wpAny _ A.in1 (seqItems? (.ref l) >>= _) _ _ s
  refine wpAny_bind (wpAny_seqItems gl dl ?_)
  simp only [Int.toNat_natCast, hx]
  refine wpAny_bind (wpAny_rule (wpAny_bind (wpAny_setField gi di (by simp) ?_)))
  have sb : Heap.SameBut it s.heap (s.heap.update it (Obj.mapFields (·.setIfInBounds 0 .none))) := Heap.SameBut.update ..
  have hot1 : HotX.HotAt A.in1 x1 s.heap := ⟨hot.1, hot.2⟩
  refine stop_made (hot_upd hot1 hne) fun h' a kp ⟨oa, ga, ca⟩ => ?_
  refine wpAny_bind (wpAny_isInstance (T := "StopIteration") (b := true) ⟨oa, ga, ca⟩ isSubtype_stop (wpAny_pure (hQ h' fun b o hb e => kp b o ((sb.2 b hb).trans e))))
theorem tup_end_hot {it t : Addr} {i : Nat} {items : Array Value} {Q : Option Value → Shared → Prop} (hot : HotX.HotAt A x1 s.heap) (hne : x1 ≠ it) (hit : IsTupIter s.heap it t i) (hl : IsTup s.heap t items) (hx : items[i]? = none)
    (hQ : ∀ h', Heap.ExtBut it s.heap h' → Q none { s with heap := h' }) : wpAny (model prog w) A (pyNext (.ref it)) Q E s := by
  obtain ⟨oi, gi, _, di⟩ := id hit
  obtain ⟨_, gl, _, _, dl⟩ := hl
  have hot1 : HotX.HotAt A.in1 x1 s.heap := ⟨hot.1, hot.2⟩
  unfold pyNext
  refine wpAny_bind (wpAny_attempt (wpAny_callSpecial?_slot (name := Str.ofString "__next__") hit.typeIs slot_tupleiter_next (wpAny_call_entry slot_tupleiter_next hit.typeIs entry_tupleiter_next ?_ (args_tupleiter_next _))))
  change wpAny _ A.in1 (field (.ref it) 0 >>= _) _ _ s
  refine wpAny_bind (wpAny_field gi di (x := .ref t) rfl ?_)
  change wpAny _ A.in1 (if (Value.ref t == Value.none) = true then _ else _) _ _ s
  rw [if_neg (by exact Bool.false_ne_true)]
  change wpAny _ A.in1 (field (.ref it) 1 >>= _) _ _ s
  refine wpAny_bind (wpAny_field gi di (x := .int i 0) rfl ?_)
  change wpAny _ A.in1 (seqItems? (.ref t) >>= _) _ _ s
  refine wpAny_bind (wpAny_seqItems gl dl ?_)
  simp only [Int.toNat_natCast, hx]
  refine wpAny_bind (wpAny_rule (wpAny_bind (wpAny_setField gi di (by simp) ?_)))
  have sb : Heap.SameBut it s.heap (s.heap.update it (Obj.mapFields (·.setIfInBounds 0 .none))) := Heap.SameBut.update ..
  refine stop_made (hot_upd hot1 hne) fun h' a kp ⟨oa, ga, ca⟩ => ?_
  refine wpAny_bind (wpAny_isInstance (T := "StopIteration") (b := true) ⟨oa, ga, ca⟩ isSubtype_stop (wpAny_pure (hQ h' fun b o hb e => kp b o ((sb.2 b hb).trans e))))
theorem hot_keep {h h' : Heap} (hot : HotX.HotAt A x1 h) (k : ∀ b o, h.get? b = some o → h'.get? b = some o) : HotX.HotAt A x1 h' := by
  obtain ⟨hh, o1, vs1, h1, d1, c1⟩ := hot
  exact ⟨hh, o1, vs1, k _ _ h1, d1, c1⟩
theorem hot_ne {h : Heap} (hot : HotX.HotAt A x1 h) : x1 < h.objs.size := by
  obtain ⟨_, o1, _, h1, _, _⟩ := hot
  exact Heap.lt_size h1
/-- a tuple's items, all of them -/
theorem unpack_tup_hot {t : Addr} {items : Array Value} {Q : List Value → Shared → Prop} (hot : HotX.HotAt A x1 s.heap) (ht : IsTup s.heap t items)
    (hQ : ∀ h', Heap.ExtBut s.heap.objs.size s.heap h' → Q items.toList { s with heap := h' }) : wpAny (model prog w) A (unpackItems (.ref t) items.size none) Q E s := by
  have tn : t ≠ s.heap.objs.size := by
    obtain ⟨o, ho, _⟩ := ht
    exact Nat.ne_of_lt (Heap.lt_size ho)
  have xn : x1 ≠ s.heap.objs.size := Nat.ne_of_lt (hot_ne hot)
  unfold unpackItems notIterableAtAll
  refine wpAny_bind (wpAny_bind (wpAny_specialOf ht.typeIs slot_tuple_iter.lookup (wpAny_pure ?_)))
  rw [if_neg (by exact Bool.false_ne_true)]
  refine wpAny_bind (wpAny_holding (iter_tuple ht (wpAny_bind (wpAny_holding (draw_tuple tn items.size 0 _ _ ⟨_, Heap.get?_push_size _ rfl, rfl, rfl⟩ (ht.push _) (by omega) fun h1 it1 sb1 => ?_)))))
  have all : (items.toList.drop 0).take items.size = items.toList := by
    rw [List.drop_zero]
    exact List.take_of_length_le (by simp)
  rw [all, if_neg (by simp)]
  have kp1 : ∀ b o, b ≠ s.heap.objs.size → s.heap.get? b = some o → h1.get? b = some o := fun b o hb e => sb1.extBut b o hb (Heap.get?_push_of_some _ e)
  have hot1 : HotX.HotAt A x1 h1 := by
    obtain ⟨hh, o1, vs1, g1, d1, c1⟩ := hot
    exact ⟨hh, o1, vs1, kp1 _ _ xn g1, d1, c1⟩
  refine wpAny_bind (wpAny_holding (tup_end_hot hot1 xn it1 ((ht.push _).extBut sb1.extBut tn) (by simp) fun h2 e2 => ?_))
  simp only [Option.isSome_none, Bool.false_eq_true, if_false]
  exact wpAny_pure (hQ h2 fun b o hb e => e2 b o hb (kp1 b o hb e))
end
end Den
namespace Den
open PySem PySem.Spec PyProof.Rows L2
/-- wherever this context's code stands, the exception that is handled stands with no context of its own -/
def HotI (X : Cx) : Prop := ∀ (pins : List (Addr × Obj)) (s : Shared) (σ : L2.St) (H : Hp), Inv X pins σ H s → ∃ x1, HotX.HotAt X.A x1 s.heap ∧ H x1 = none ∧ x1 ∉ frs X.stack ∧ x1 ∉ X.ex
theorem pg_tupH {X : Cx} {pos : Pos} {es : List Expr} {k : Nat} {t : TGs} {n : Nat} (hc : HotI X) (h : PGs X es t)
    (hn : (assignEach es X.env).length = n) (hst : (assignEach es X.env).findIdx? (·.1) = none) : PG X (.Tuple es k pos) (gTup X.K n t) := by
  refine ⟨fun pins s σ H v u Q I r ⟨a, xs, e1, hq, hl, hw⟩ => ?_⟩
  subst e1
  cases r
  obtain ⟨its, rv, ht, _⟩ := I.tuple hq
  obtain ⟨x1, hot, _⟩ := hc pins s σ H I
  have hsz : (assignEach es X.env).length = its.toArray.size := by simp [hn, ← hl, rv.length]
  rw [PyProof.Rows.assign_Tuple]
  refine wpAny_bind (wpAny_standAt ?_)
  unfold unpack
  rw [hsz, hst]
  refine wpAny_bind (wpAny_holding (unpack_tup_hot hot ht fun h' hx => ?_))
  have I1 : Inv X pins σ H { s with heap := h' } := I.kept (t' := s.toks) fun b o e => hx b o (Nat.ne_of_lt (Heap.lt_size e)) e
  exact h.run pins _ σ H xs _ Q I1 (by simpa using rv) hw
end Den

/-! DenH2: a comprehension over a list while an exception is handled. -/
namespace Den
open PySem PySem.Spec PyProof.Rows L2
/-- an iterator's turns, where an exception is handled -/
structure TurnI (P : Program) (w : World) (K : PySem.W.Frag) (tg : Expr) (J : It) (fp : List Addr) (it : Addr) (tn : Nat → Heap → Prop) : Prop where
  mem : it ∈ fp
  obj : ∀ i h, tn i h → ∀ b ∈ fp, ∃ o, h.get? b = some o ∧ ∀ v, o.data ≠ .cell v
  keep : ∀ i h h', tn i h → (∀ b ∈ fp, ∀ o, h.get? b = some o → h'.get? b = some o) → tn i h'
  item : ∀ (X : Cx), X.prog = P → X.w = w → X.K = K → ∀ (i : Nat) (pins : List (Addr × Obj)) (s : Shared) (σ : L2.St) (H : Hp) (E : Value → Shared → Prop), Inv X pins σ H s → (∀ b ∈ fp, FpOk X pins H b) → tn i s.heap → J.go i H →
    wpAny (model P w) X.A (pyNext (.ref it)) (fun r s1 => ∃ u, r = some u ∧ wpAny (model P w) X.A (letOwnedTupleGo tg (.ref it) u) (fun _ s2 => ∃ x H', Inv X pins σ H' s2 ∧ RelV x u ∧ J.yld i H x H' ∧ tn (i + 1) s2.heap ∧ ∀ b ∈ fp, H' b = none) E s1) E s
  done : ∀ (X : Cx), X.prog = P → X.w = w → X.K = K → ∀ (x1 : Addr) (i : Nat) (pins : List (Addr × Obj)) (s : Shared) (σ : L2.St) (H : Hp) (E : Value → Shared → Prop), HotX.HotAt X.A x1 s.heap → x1 ∉ fp → Inv X pins σ H s → (∀ b ∈ fp, FpOk X pins H b) → tn i s.heap → J.stop i H →
    wpAny (model P w) X.A (pyNext (.ref it)) (fun r s1 => r = none ∧ Inv X pins σ H s1) E s
  self : ∀ (A : Around) (i : Nat) (s : Shared) (Q : Value → Shared → Prop) (E : Value → Shared → Prop), tn i s.heap → Q (.ref it) s → wpAny (model P w) A (pyIter (.ref it)) Q E s
/-- a calm turn's item asks nothing of what is handled: a list's -/
theorem turnI_list {P : Program} {w : World} {K : PySem.W.Frag} {tg : Expr} (a it : Addr) : TurnI P w K tg (Itl K a) [it] it (fun i h => h.IsListIter it a i) where
  mem := List.mem_singleton.mpr rfl
  obj := (turn_list (P := P) (w := w) (K := K) (tg := tg) a it).obj
  keep := (turn_list (P := P) (w := w) (K := K) (tg := tg) a it).keep
  item := by
    intro X hP hw hK i pins s σ H E I hf st ⟨xs, x, hq, hx⟩
    subst hP hw hK
    obtain ⟨its, rv, p, _⟩ := I.list hq
    obtain ⟨u, hu, ru⟩ := rv.get hx
    obtain ⟨f0, f1, _, f3, f4, f5⟩ := hf it (List.mem_singleton.mpr rfl)
    refine wpAny_pyNext_list_item st p.isList (x := u) (by simpa using hu) fun h' st' sb => ⟨u, rfl, ?_⟩
    obtain ⟨o, e, c, d⟩ := id st'
    exact go_of (s := { s with heap := h' }) e c d (by decide) ⟨x, H, I.turned (t' := s.toks) (fun b o hb e => (sb.2 b hb).trans e) f0 f1 f3 f4 f5, ru, ⟨rfl, fun ys hy => by rw [I.list_inj hy hq]; exact hx⟩, st', fun b hb => (hf b hb).1⟩
  done := by
    intro X hP hw hK x1 i pins s σ H E hot hx1 I hf st ⟨xs, hq, hx⟩
    subst hP hw hK
    obtain ⟨its, rv, p, _⟩ := I.list hq
    obtain ⟨f0, f1, _, f3, f4, f5⟩ := hf it (List.mem_singleton.mpr rfl)
    have hl := rv.length
    exact list_end_hot hot (fun z => hx1 (List.mem_singleton.mpr z)) st p.isList (by simp; omega) fun h' eb => ⟨rfl, I.turned (t' := s.toks) (fun b o hb e => eb b o hb e) f0 f1 f3 f4 f5⟩
  self := (turn_list (P := P) (w := w) (K := K) (tg := tg) a it).self
def PIEI (X : Cx) (pins : List (Addr × Obj)) (σ : L2.St) (tg : Expr) (R : It → Hp → Prop) (n0 : Nat) (itv : Value) (s2 : Shared) : Prop :=
  ∃ (it : Addr) (fp : List Addr) (tn : Nat → Heap → Prop) (J : It) (H' : Hp), itv = .ref it ∧ Inv X pins σ H' s2 ∧ TurnI X.prog X.w X.K tg J fp it tn ∧ tn 0 s2.heap ∧ (∀ b ∈ fp, FpOk X pins H' b ∧ n0 ≤ b) ∧ R J H'
structure PII (X : Cx) (tg iter : Expr) (wi : TI) : Prop where
  run : ∀ (pins : List (Addr × Obj)) (s : Shared) (σ : L2.St) (H : Hp) (R : It → Hp → Prop), Inv X pins σ H s → wi σ H R →
    wpAny (model X.prog X.w) X.A (eval iter X.env) (fun v s1 => ∃ H1, Inv X pins σ H1 s1 ∧ wpAny (model X.prog X.w) X.A (pyIter v) (PIEI X pins σ tg R s1.heap.objs.size) X.xe s1) X.xe s
theorem pii_list {X : Cx} {tg l : Expr} {tl : TE} (hl : PE X l tl) : PII X tg l (iList X.K tl) := by
  refine ⟨fun pins s σ H R I hw => thn (hl.run pins s σ H _ I hw) fun v s1 ⟨x, H1, I1, r1, a, ex, ⟨xs, hq⟩, q⟩ => ⟨H1, I1, ?_⟩⟩
  subst ex
  cases r1
  obtain ⟨its, _, p, _⟩ := I1.list hq
  refine wpAny_pyIter_list p.isList ⟨_, [s1.heap.objs.size], _, _, H1, rfl, I1.kept (t' := s1.toks) (fun b o e => Heap.get?_push_of_some _ e), turnI_list a _, ⟨_, Heap.get?_push_size _ rfl, rfl, rfl⟩, fun b hb => ?_, q⟩
  rw [List.mem_singleton] at hb
  rw [hb]
  exact ⟨I1.fpOk (Nat.le_refl _) (I1.hok.fresh (Nat.le_refl _)), Nat.le_refl _⟩
end Den

/-! DenH3: a comprehension over a list while an exception is handled: its block, its loop. -/
namespace Den
open PySem PySem.Spec PyProof.Rows L2
/-- a comprehension's block keeps the exception that is handled -/
theorem hotI_blk {X : Cx} {s : Shared} {H : Hp} {scope : Scope} {ce : PySem.Env} {fp : List Addr} {x1 : Addr} (hot : HotX.HotAt X.A x1 s.heap) (n1 : H x1 = none) (n2 : x1 ∉ frs X.stack) (n3 : x1 ∉ fp) : HotI (X.blk s H scope ce fp) := fun pins s' σ H' I => by
  obtain ⟨hh, o1, vs1, g1, d1, c1⟩ := hot
  exact ⟨x1, ⟨hh, o1, vs1, I.base.keep x1 o1 g1 n1 n2 n3, d1, c1⟩, I.base.free x1 o1 g1 n1 n3, n2, n3⟩
section
variable {X : Cx}
/-- the block's parts, wherever the block is made -/
abbrev BlkG (X : Cx) (scope : Scope) (φ : Cx → Prop) : Prop := ∀ (s : Shared) (H : Hp) (C : Addr) (cl : List (Str × Addr)) (fp : List Addr), HotI (X.blk s H scope (compEnvC scope cl C X.env) fp) → φ (X.blk s H scope (compEnvC scope cl C X.env) fp)
/-- the loop, from the block's entry -/
theorem lc_loopH {pins : List (Addr × Obj)} {σ : L2.St} {elt tg iter : Expr} {ifs : List Expr} {scope : Scope} {own : List (Str × Nat)} {pos : Pos} {g : TG} {tt : TT} {te : TE} {Qd : Hp → Prop} {it D : Addr} {fp : List Addr} {tn : Nat → Heap → Prop} {J : It} {x1 : Addr}
    {s3 s4 : Shared} {H3 : Hp} {ce : PySem.Env} {R : Result → Shared → Prop} {m0 : Nat} {W : Nat → Nat → Hp → Prop} (T : TurnI X.prog X.w X.K tg J fp it tn)
    (hot : HotX.HotAt X.A x1 s3.heap) (n1 : H3 x1 = none) (n2 : x1 ∉ frs X.stack) (n3 : x1 ∉ fp)
    (I4 : Inv (X.blk s3 H3 scope ce fp) [] (wipe σ (own.map (·.2))) H3 s4) (st4 : tn 0 s4.heap) (nfp : ∀ b ∈ fp, H3 b = none) (w0 : W 0 m0 H3)
    (pg : PG (X.blk s3 H3 scope ce fp) tg g) (pt : PTs (X.blk s3 H3 scope ce fp) ifs tt) (pe : PE (X.blk s3 H3 scope ce fp) elt te)
    (turn : ∀ i m H, W i m H → (J.stop i H ∧ Qd H) ∨ (J.go i H ∧ ∃ Nx : Hp → Prop, (∀ H', Nx H' → ∃ m', m' < m ∧ W (i + 1) m' H') ∧ ∀ x H', J.yld i H x H' → g x (wipe σ (own.map (·.2))) H' fun σ2 H2 => wipe σ2 (own.map (·.2)) = wipe σ (own.map (·.2)) ∧ tt σ2 H2 fun b H5 =>
      if b = true then te σ2 H5 fun y H6 => ∃ acc, H6 D = some (.lst acc) ∧ acc.length < sizeLine ∧ Nx (upd H6 D (.lst (acc ++ [y]))) else Nx H5))
    (hend : ∀ (s6 : Shared) (H5 : Hp), Inv (X.blk s3 H3 scope ce fp) [] (wipe σ (own.map (·.2))) H5 s6 → Qd H5 → R (.ok .next) s6) :
    codeAny (model X.prog X.w) X.A (.compLoop (.ListComp elt [⟨tg, iter, ifs, 0⟩] scope pos) 0 (.ref it) (.ref D) ce) R s4 := by
  have sta : ∀ {σ' : L2.St} {H' : Hp} {s' : Shared}, Inv (X.blk s3 H3 scope ce fp) [] σ' H' s' → (∀ b ∈ fp, H' b = none) → ∀ b ∈ fp, FpOk (X.blk s3 H3 scope ce fp) [] H' b := fun {σ' H' s'} I' hn b hb =>
    ⟨hn b hb, (I'.ok.exf b hb).1, I'.ok.exfs b hb, .inl hb, fun x c e => (I'.ok.exf b hb).2 x c e, fun p hp => absurd (show p ∈ ([] : List (Addr × Obj)) from hp) (by simp)⟩
  refine compLoop_any (fun n s' => ∃ i H', Inv (X.blk s3 H3 scope ce fp) [] (wipe σ (own.map (·.2))) H' s' ∧ tn i s'.heap ∧ (∀ b ∈ fp, H' b = none) ∧ W i n H') ?_ m0 ⟨0, H3, I4, st4, nfp, w0⟩
  rintro n s5 ⟨i, H5, I5, st5, n5, w5⟩
  rcases turn i n H5 w5 with ⟨stop, qq⟩ | ⟨go, Nx, hNx, step⟩
  · have hot5 : HotX.HotAt X.A x1 s5.heap := by
      obtain ⟨hh, o1, vs1, g1, d1, c1⟩ := hot
      exact ⟨hh, o1, vs1, I5.base.keep x1 o1 g1 n1 n2 n3, d1, c1⟩
    refine thnF (T.done (X.blk s3 H3 scope ce fp) rfl rfl rfl x1 i [] s5 _ H5 (fun _ _ => False) hot5 n3 I5 (sta I5 n5) st5 stop) fun r s6 ⟨hr, I6⟩ => ?_
    subst hr
    exact hend s6 H5 I6 qq
  · refine thnF (T.item (X.blk s3 H3 scope ce fp) rfl rfl rfl i [] s5 _ H5 (fun _ _ => False) I5 (sta I5 n5) st5 go) fun r s6 ⟨u, hr, h6⟩ => ?_
    subst hr
    refine thnF h6 fun _ s7 ⟨x, H7, I7, r7, y7, st7, n7⟩ => ?_
    refine thnF (pg.run _ s7 _ H7 x u _ (I7.pinned (sta I7 n7) (T.obj _ _ st7)) r7 (step x H7 y7)) fun _ s8 ⟨σ8, H8, I8, hw8, q8⟩ => thnF (pt.run _ s8 σ8 H8 _ I8 q8) fun b s9 ⟨H9, I9, q9⟩ => ?_
    have again : ∀ {s' : Shared} {H' : Hp}, Inv (X.blk s3 H3 scope ce fp) ([] ++ pinsAt fp s7.heap) σ8 H' s' → Nx H' → ∃ m, m < n ∧ ∃ i H', Inv (X.blk s3 H3 scope ce fp) [] (wipe σ (own.map (·.2))) H' s' ∧ tn i s'.heap ∧ (∀ b ∈ fp, H' b = none) ∧ W i m H' := fun {s' H'} I' nx => by
      obtain ⟨m', hm, w'⟩ := hNx H' nx
      have held : ∀ b ∈ fp, ∀ o, s7.heap.get? b = some o → s'.heap.get? b = some o ∧ H' b = none := fun b hb o e => by
        have z := I'.pin (b, o) (List.mem_append_right _ (List.mem_append_right _ (mem_pinsAt hb e)))
        exact ⟨z.1, z.2.1⟩
      have hl : (wipe σ (own.map (·.2))).length = σ8.length := by rw [← hw8, wipe_length]
      refine ⟨m', hm, i + 1, H', (I'.unpinned (pins := [])).weak hl (fun j v e => (wipe_some (by rw [← hw8] at e; exact e)).1), T.keep _ _ _ st7 fun b hb o e => (held b hb o e).1, fun b hb => ?_, w'⟩
      obtain ⟨o, e, _⟩ := T.obj _ _ st7 b hb
      exact (held b hb o e).2
    cases b with
    | false =>
      rw [if_neg Bool.false_ne_true] at q9 ⊢
      exact again I9 q9
    | true =>
      rw [if_pos rfl] at q9 ⊢
      exact thnF (pe.run _ s9 σ8 H9 _ I9 q9) fun z s10 ⟨yv, H10, I10, r10, acc, hD10, hz10, nx⟩ => app_ok (X := X.blk s3 H3 scope ce fp) I10 hD10 hz10 r10 fun s11 I11 => again I11 nx
/-- a comprehension's walk, from its source to what its list is used for -/
theorem lc_coreH {pins : List (Addr × Obj)} {s : Shared} {σ : L2.St} {H : Hp} {Q : VK} {elt tg iter : Expr} {ifs : List Expr} {scope : Scope} {own : List (Str × Nat)} {pos pos' : Pos} {wi : TI} {g : TG} {tt : TT} {te : TE} {use : Option (Value → Sem Unit)} {Qf : Value → Shared → Prop} (hc : HotI X) (hN : X.N.Nodup)
    (I : Inv X pins σ H s) (hi : PII X tg iter wi) (ok : BlkOk X.N X.env.scope scope own) (hg : BlkG X scope fun Y => PG Y tg g) (ht : BlkG X scope fun Y => PTs Y ifs tt) (he : BlkG X scope fun Y => PE Y elt te) (hs : ∀ x, foldedSetIterable iter X.env x = pure x)
    (hw : tLc wi g tt te (own.map (·.2)) σ H Q)
    (fin : ∀ D C s' m H', Inv X pins σ H' s' → Q (.ref D) H' → s'.heap.Ns C m → FpOk X pins H' C → compPost (model X.prog X.w) X.A X.xe use Qf (.ref D) C (.ok .next) s') :
    wpAny (model X.prog X.w) X.A (comprehension (.ListComp elt [⟨tg, iter, ifs, 0⟩] scope pos) scope X.env pos' (newList []) false (eval iter X.env) use) Qf X.xe s := by
  have frees : ∀ y ∈ scope.names, y.2 = .free → ∃ c, X.env.cells.lookup y.1 = some c := fun y hy e => (ok.free y hy e).elim (fun k => I.ok.has _ (.inl k)) fun k => I.ok.has _ (.inr k)
  refine wpAny_comprehension_free (use := use) rfl hs (closure_ok frees) ok.kind (fun y hy e => by rw [ok.uniq y hy, e]) (thn (hi.run pins s σ H _ I hw) fun xv s1 ⟨H1, I1, hx⟩ => thn hx fun itv s2 h2 => ?_)
  obtain ⟨it, fp, tn, J, H2, e, I2, T, st2, f2, q⟩ := h2
  subst e
  -- the exception, not among the iterator's own
  obtain ⟨x1, hotA, z1, z2, z3⟩ := hc pins s1 σ H1 I1
  obtain ⟨x2, hot2, y1, y2, y3⟩ := hc pins s2 σ H2 I2
  have ex : x2 = x1 := by
    have a := hotA.1
    rw [hot2.1] at a
    exact Value.ref.inj (Option.some.inj a)
  subst ex
  have n3 : x2 ∉ fp := fun hm => Nat.lt_irrefl _ (Nat.lt_of_lt_of_le (hot_ne hotA) (f2 x2 hm).2)
  refine wpAny_newObj_type (newEnv_comp ?_) (by exact Nat.zero_le _)
  have hDn : H2 s2.heap.objs.size = none := I2.hok.fresh (Nat.le_refl _)
  obtain ⟨W, ⟨m0, w0⟩, turn⟩ := q s2.heap.objs.size hDn
  generalize hs3 : ({ s2 with heap := s2.heap.push { cls := .type "list", data := .seq ([] : List Value).toArray } } : Shared) = s3
  have h3 : s3.heap = s2.heap.push { cls := .type "list", data := .seq ([] : List Value).toArray } := by rw [← hs3]
  have kp3 : ∀ b o, s2.heap.get? b = some o → s3.heap.get? b = some o := fun b o e => by rw [h3]; exact Heap.get?_push_of_some _ e
  have I3 : Inv X pins σ (upd H2 s2.heap.objs.size (.lst [])) s3 := by
    rw [← hs3]
    exact I2.laid (t' := s2.toks) (fun b o e => Heap.get?_push_of_some _ e) (Nat.le_refl _) ⟨Nat.zero_le _, [], 0, .nil, Heap.get?_push_size _ rfl⟩
  have below : ∀ b ∈ fp, b < s2.heap.objs.size := fun b hb => by
    obtain ⟨o, e, _⟩ := T.obj _ _ st2 b hb
    exact Heap.lt_size e
  have f3 : ∀ b ∈ fp, FpOk X pins (upd H2 s2.heap.objs.size (.lst [])) b ∧ b < s3.heap.objs.size := fun b hb =>
    ⟨⟨by rw [upd_ne (Nat.ne_of_lt (below b hb))]; exact (f2 b hb).1.1, (f2 b hb).1.2⟩, by rw [h3, Heap.size_push]; exact Nat.lt_succ_of_lt (below b hb)⟩
  have I4 := block_start I3 ok hN f3
  have hot3 : HotX.HotAt X.A x2 s3.heap := hot_keep hot2 kp3
  have n1 : upd H2 s2.heap.objs.size (.lst []) x2 = none := by rw [upd_ne (Nat.ne_of_lt (hot_ne hot2))]; exact y1
  have hI := hotI_blk (scope := scope) (ce := compEnvC scope (cellsFrom (s3.heap.objs.size + 1) scope.names (cloFrom X.env.cells scope.names [])) s3.heap.objs.size X.env) hot3 n1 y2 n3
  have nfp : ∀ b ∈ fp, (upd H2 s2.heap.objs.size (.lst [])) b = none := fun b hb => (f3 b hb).1.1
  have st4 : tn 0 (pushCells (s3.heap.push { cls := .type "dict", data := .dict #[] }) scope.names) := T.keep _ _ _ st2 fun b _ o e => pushCells_keeps _ _ _ _ (Heap.get?_push_of_some _ (kp3 b o e))
  have loop := lc_loopH (X := X) (pins := pins) (elt := elt) (iter := iter) (ifs := ifs) (own := own) (pos := pos) (D := s2.heap.objs.size) (Qd := Q (.ref s2.heap.objs.size)) (R := compPost (model X.prog X.w) X.A X.xe use Qf (.ref s2.heap.objs.size) s3.heap.objs.size)
    T hot3 n1 y2 n3 I4 st4 nfp w0 (hg _ _ _ _ _ hI) (ht _ _ _ _ _ hI) (he _ _ _ _ _ hI) turn fun s6 H5 I6 qq => by
      have I7 : Inv X pins σ H5 s6 := I3.call' (ch := fp) I6.os I6.base I6.hok I6.bare fun b hb => ⟨(f3 b hb).1.2.2.2.1, (f3 b hb).1.2.1, (f3 b hb).1.2.2.2.2.1, (f3 b hb).1.2.2.2.2.2⟩
      have nC : H5 s3.heap.objs.size = none := I6.free
      obtain ⟨m, hn, _⟩ := I6.loc
      exact fin _ _ s6 m H5 I7 qq hn (I3.fpOk (Nat.le_refl _) nC)
  exact codeAny_compStart_list loop (T.self X.A 0 _ _ _ st4 loop)
/-- [elt for target in list if ..] -/
theorem pe_lcH {elt tg iter : Expr} {ifs : List Expr} {scope : Scope} {own : List (Str × Nat)} {pos : Pos} {wi : TI} {g : TG} {tt : TT} {te : TE} (hc : HotI X) (hN : X.N.Nodup) (hi : PII X tg iter wi) (ok : BlkOk X.N X.env.scope scope own)
    (hg : BlkG X scope fun Y => PG Y tg g) (ht : BlkG X scope fun Y => PTs Y ifs tt) (he : BlkG X scope fun Y => PE Y elt te) (hs : ∀ x, foldedSetIterable iter X.env x = pure x) :
    PE X (.ListComp elt [⟨tg, iter, ifs, 0⟩] scope pos) (tLc wi g tt te (own.map (·.2))) := by
  refine ⟨fun pins s σ H Q I hw => ?_⟩
  rw [eval_ListComp]
  exact lc_coreH hc hN I hi ok hg ht he hs hw fun D C s' m H' I' q hn ⟨f0, f1, _, f3, f4, f5⟩ => ⟨m, hn, fun h'' sb => ⟨.ref D, H', I'.turned (t' := s'.toks) (fun b o hb e => (sb.2 b hb).trans e) f0 f1 f3 f4 f5, rfl, q⟩⟩
/-- y = [elt for target in list if ..], the list taken over as it is -/
theorem ps_setLcH {i : Nat} {y : Str} {py : Pos} {elt tg iter : Expr} {ifs : List Expr} {scope : Scope} {own : List (Str × Nat)} {pos spos : Pos} {wi : TI} {g : TG} {tt : TT} {te : TE} (hc : HotI X) (hN : X.N.Nodup) (hy : X.N[i]? = some y) (hyl : X.env.scope.names.lookup y = some .local)
    (hsw : swapsWith (.ListComp elt [⟨tg, iter, ifs, 0⟩] scope pos) (some (.Name y py)) spos.line X.env = pure true) (hi : PII X tg iter wi) (ok : BlkOk X.N X.env.scope scope own)
    (hg : BlkG X scope fun Y => PG Y tg g) (ht : BlkG X scope fun Y => PTs Y ifs tt) (he : BlkG X scope fun Y => PE Y elt te) (hs : ∀ x, foldedSetIterable iter X.env x = pure x) :
    PS X (.Assign [.Name y py] (.ListComp elt [⟨tg, iter, ifs, 0⟩] scope pos) spos) (tAsg (tLc wi g tt te (own.map (·.2))) (gName i)) := by
  refine ⟨fun pins s σ H D I hw => ?_⟩
  have hw : tLc wi g tt te (own.map (·.2)) σ H (fun x H1 => gName i x σ H1 D.nx) := hw
  rw [exec_Assign_Name_used _ _ _ _ hsw]
  refine wpAny_bind (wpAny_standAt (wpAny_bind (wpAny_bind (m := comprehension _ _ _ (firstIterPos [⟨tg, iter, ifs, 0⟩] pos) _ _ _ (some (assign (.Name y py) X.env))) (thn (lc_coreH (Qf := fun _ s' => SP X pins D .next s') hc hN I hi ok hg ht he hs hw fun L C s' m H' I' q hn ⟨f0, f1, f2, f3, f4, f5⟩ => ?_) fun _ s' hq => wpAny_pure (wpAny_pure hq)))))
  change wpAny _ _ (assign (.Name y py) X.env (.ref L)) _ _ _
  refine wpAny_assign_Name (store_ok2 (v := V.ref L) I' hN hy (.inl hyl) rfl (fun s2 I2 ⟨a, sb, ha⟩ => ?_) (.inr hyl))
  have ne : C ≠ a := ha.elim (fun z => by rw [z]; exact f1) fun z e => f4 y a z e.symm
  exact ⟨m, hn.sameBut sb ne, fun h3 sb3 => ⟨_, H', I2.turned (t' := s2.toks) (fun b o hb e => (sb3.2 b hb).trans e) f0 f1 f3 f4 f5, q⟩⟩
end
end Den

/-! DenL: a lambda handed to a def that calls it; exceptions whose context is None. -/
namespace Den
open PySem PySem.Spec PyProof.Rows L2
/-- the defs that make lambdas -/
class Lams where
  lams : List Str
  /-- where the exception stands that is handled -/
  exa : Addr := 0
variable [Lams]
/-- their tables of code objects, the name that these bear -/
def lamT (K : PySem.W.Frag) : List (Addr × Str) := Lams.lams.map fun x => ((He.cT K (x, none)).2, x ++ ".<locals>." ++ "<lambda>")
/-- the lambda's body; what it lets out has no context -/
def lamN (X : Cx) (A : Around) (outer : List PySem.Env) (s : Shared) (H : Hp) (E : XK) (scope : Scope) (f c' : Addr) : Cx :=
  { LamX.lamCx X A outer s H E scope f c' with
    xe := fun e s' => wpAny (model X.prog X.w) (A.deeper (LamX.lamEnv X scope s.heap.objs.size f c')) (leaving (LamX.lamEnv X scope s.heap.objs.size f c') e) (fun _ t => L2N.CX X.prog X.w outer H s E e t) (fun e' t => L2N.CX X.prog X.w outer H s E e' t) s' }
section
variable {X : Cx} {pins : List (Addr × Obj)} {σ : L2.St} {H : Hp} {s : Shared}
/-- a() in the def at g that got the lambda at f -/
theorem act_lam {CXg : CXT} {Eg : XK} {Ng : List Str} {qg : Str} {sg : Scope} {g f c' : Addr} {cdg pm ctv : Value} {params : Arguments} {body : Expr} {scope : Scope} {k i : Nat} {a : Str} {pn : List (Addr × Obj)} {xe : Value → Shared → Prop} {W : WX} {E : XK} {tb : TE} {p1 p2 : Pos}
    (I : Inv X pins σ H s) (L : LamX.LamS X.env.scope scope) (hf : s.heap.get? f = some (PySem.W.kla_obj "<lambda>" (X.env.qual ++ "<lambda>") params body scope (cloFrom X.env.cells scope.names []) pm c' ctv)) (hfn : H f = none) (hfr : f ∉ frs X.stack)
    (hbind : bindArgs (PySem.W.kla_fn "<lambda>" (X.env.qual ++ "<lambda>") params body scope (cloFrom X.env.cells scope.names []) pm (.ref c') ctv) ⟨[], []⟩ = pure [])
    (tk : L2N.Takes ((cxOf CXg X.prog X.w X.K X.mg X.base Ng qg sg g cdg X.A X.stack s H Eg).tr pn xe) W) (hW : ∀ cls d σ' H', E cls d H' → W cls d σ' H') (hr : Room (k + 1) (X.A.deeper (envOfC qg sg s.heap.objs.size g cdg)))
    (hbody : ∀ (A : Around) (outer : List PySem.Env) (s : Shared) (H : Hp), Room k (A.deeper (LamX.lamEnv X scope s.heap.objs.size f c')) → PE (lamN X A outer s H E scope f c') body tb)
    (hN : Ng[i]? = some a) (hv : Vis sg a) (hd : (a == ("__debug__" : Str)) = false) (hcd : (a == ("__classdict__" : Str)) = false) :
    PE ((cxOf CXg X.prog X.w X.K X.mg X.base Ng qg sg g cdg X.A X.stack s H Eg).tr pn xe) (.Call (.Name a p1) [] [] p2) (fun τ HZ Q => τ[i]? = some (some (.ref f)) ∧ HZ c' = some (LamX.CodeO c' (X.env.qual ++ "<lambda>")) ∧ tb σ HZ Q) := by
  refine ⟨fun pz sz τ HZ Q IZ ⟨at_, code, rd⟩ => ?_⟩
  refine wpAny_Call_Name_kw (thn ((pe_var (pos := p1) (i := i) hN hv hd hcd).run pz sz τ HZ (fun v H1 => v = .ref f ∧ H1 = HZ) IZ ⟨.ref f, at_, rfl, rfl⟩) fun u s1 ⟨v, H1, I1, r1, ev, eH⟩ => ?_)
  subst ev
  subst eH
  cases r1
  have there := I1.base.keep f _ hf hfn hfr (by intro z; cases z)
  refine PySem.W.callWith_F0 ⟨_, _, _, _, there⟩ ?_
  obtain ⟨⟨oc, vs, t, hoc, hdc, hvc⟩, _, _⟩ := I1.hok c' _ code
  have rc : codeAny (model X.prog X.w) (X.A.deeper (envOfC qg sg s.heap.objs.size g cdg)) (.call (.ref f) ⟨[], []⟩) (CR (L2N.CX X.prog X.w) (envOfC qg sg s.heap.objs.size g cdg :: X.stack) X.prog X.w H1 s1 Q E) s1 := by
    refine PySem.W.kla_callFunE hr.depth there rfl L.co L.gen rfl ⟨c', oc, vs, t, rfl, hoc, hdc, hvc⟩ ?_
    rw [hbind]
    refine wpAny_pure (wpAny_newFunctionEnv (fun y hy => (L.own y hy).2) (fun y hy => absurd hy (by simp)) (fun h₁ hns hsb => ⟨I1.nolimit.fresh _ hsb, ?_⟩) L.kind)
    have kp : ∀ b o, s1.heap.get? b = some o → h₁.get? b = some o := fun b o e => hsb.extBut b o (Nat.ne_of_lt (Heap.lt_size e)) (Heap.get?_push_of_some _ e)
    have J := LamX.lam_start2 (f := f) (c' := c') (E := E) (tk := s1.toks + ([] : List (Str × Value)).length) I L I1.env0 hr.hd I1.base hns kp
    refine PySem.W.kla_codeExpr (wpAny_mono ((hbody _ _ s1 H1 (hr.deeper _)).run [] _ _ H1 Q (J.wish _) rd) (fun v s' ⟨w', H', J', rv, q⟩ => ?_) fun e s' hq => hq)
    exact ⟨w', H', J'.os, J'.bare, J'.base, J'.hok, rv, q⟩
  refine wpAny_call (codeAny_mono rc fun r s' hq => ?_)
  cases r with
  | error e => exact L2N.passes_call tk hW pz τ H1 s1 e s' I1 hq
  | ok fl => cases fl <;> first | exact I1.after hq | exact False.elim hq
end
/-- the def x at g that calls what it got, a: TT is what it makes of the lambda's reading -/
def GivesN (X : Cx) (Ng : List Str) (x : Str) (sg : Scope) (g : Addr) (cdg : Value) (bg : List Stmt) (a : Str) (q : Str) (TT : (XK → Hp → VK → Prop) → Hp → VK → Prop) : Prop :=
  ∀ (f c' : Addr) (s : Shared) (H : Hp) (Q : VK) (tl : XK → Hp → VK → Prop),
    (∀ (W : WX) (pn : List (Addr × Obj)) (xe : Value → Shared → Prop) (E : XK) (p1 p2 : Pos), L2N.Takes ((cxOf C8.CX0 X.prog X.w X.K X.mg X.base Ng x sg g cdg X.A X.stack s H C8.E0).tr pn xe) W → (∀ cls d σ' H', E cls d H' → W cls d σ' H') →
      PE ((cxOf C8.CX0 X.prog X.w X.K X.mg X.base Ng x sg g cdg X.A X.stack s H C8.E0).tr pn xe) (.Call (.Name a p1) [] [] p2) (fun τ HZ Q => τ[0]? = some (some (.ref f)) ∧ HZ c' = some (LamX.CodeO c' q) ∧ tl E HZ Q)) →
    (∀ (E : XK) (H : Hp) (Q Q' : VK), (∀ v H', Q v H' → Q' v H') → tl E H Q → tl E H Q') → H c' = some (LamX.CodeO c' q) → LamX.Tabs (lamT X.K) H → TT tl H Q →
    ∃ t, PSs (cxOf C8.CX0 X.prog X.w X.K X.mg X.base Ng x sg g cdg X.A X.stack s H C8.E0).nox bg t ∧ t { nx := fun _ H' => Q .non H', rt := Q } (L2.start Ng [.ref f]) H
/-- x(lambda: body) -/
theorem call_lam {X : Cx} {T : List (Addr × Str)} {TT : (XK → Hp → VK → Prop) → Hp → VK → Prop} {x a : Str} {g c P : Addr} {k : Nat} {pg : Arguments} {bg : List Stmt} {sg : Scope} {dV kV doc pm cdv ct oc : Value} {an od : Option Addr} {osl : Array (Option Value)} {Ng : List Str}
    {params : Arguments} {body : Expr} {scope : Scope} {t : XK → TE} {p lpos pos : Pos} (hT : T = lamT X.K) (hg : Gl X x) (hm : X.mg x = some (.ref g)) (hk : PySem.W.keepIn X.K (.ref g) = true)
    (lk : X.K.lookup g = some ⟨oc, od, .func (PySem.W.fnOf x x pg bg sg dV kV doc pm an cdv ct), osl⟩) (hcg : PySem.W.codeIn X.K cdv x = true) (hb : L2.Binds X.K (PySem.W.fnOf x x pg bg sg dV kV doc pm an cdv ct) [a] []) (Sg : FnScope Ng [a] sg) (hNg : Ng[0]? = some a) (hva : Vis sg a)
    (hG : GivesN X Ng x sg g cdv bg a (X.env.qual ++ "<lambda>") TT) (TB : LamX.TabB X.base X.mg c P) (hcode : X.env.code = .ref c) (hmT : (P, X.env.qual ++ "<lambda>") ∈ T) (hu : ∀ p ∈ T, p.1 = P → p.2 = X.env.qual ++ "<lambda>") (hr : Room (k + 2) X.A)
    (L : LamX.LamS X.env.scope scope) (hdef : defaultsOf params X.env = ([], [])) (hbind : ∀ (q : Str) (cl : List (Str × Addr)) (pm cv ctv : Value), bindArgs (PySem.W.kla_fn "<lambda>" q params body scope cl pm cv ctv) ⟨[], []⟩ = pure [])
    (hbody : ∀ (A : Around) (outer : List PySem.Env) (s : Shared) (H : Hp) (E : XK) (f c' : Addr), Room k (A.deeper (LamX.lamEnv X scope s.heap.objs.size f c')) → PE (lamN X A outer s H E scope f c') body (t E))
    (mono : ∀ (E : XK) (σ : L2.St) (H : Hp) (Q Q' : VK), (∀ v H', Q v H' → Q' v H') → t E σ H Q → t E σ H Q') (hdb : (x == ("__debug__" : Str)) = false) (hd : (a == ("__debug__" : Str)) = false) (hcd : (a == ("__classdict__" : Str)) = false) :
    PE X (.Call (.Name x p) [.Lambda params body scope lpos] [] pos) (LamX.tLam T TT t) := by
  refine ⟨fun pins s σ H Q I ⟨tabs, rd⟩ => ?_⟩
  refine wpAny_Call_Name_kw (ld_glob I hg hm (PySem.W.callWith_K (h₀ := X.base) I.ok.mod.kin hk ?_ (by rfl) (by rfl)) hdb)
  refine Calls.spliced_cons (LamX.lam_make2 I TB hcode hmT hu tabs hdef (L.has I.ok) fun f c' pm' ctv H1 s' I1 eN T1 hf hfn hfr hco => Calls.spliced_nil ⟨I1.kIn, ?_⟩)
  have rc : codeAny (model X.prog X.w) X.A (.call (.ref g) ⟨[.ref f], []⟩) (CR C8.CX0 X.stack X.prog X.w H1 s' Q C8.E0) s' := by
    refine LamX.run_ofS (N := Ng) (ps := [a]) (us := [.ref f]) (vs := [.ref f]) lk hcg Sg hr I1.env0 (hb s' [.ref f] I1.kIn rfl) (.cons rfl .nil) rfl fun hr' => ?_
    obtain ⟨t', ht', hq'⟩ := hG f c' s' H1 Q (fun E H' Q' => t E σ H' Q') (fun W pn xe E p1 p2 tk hW => act_lam (i := 0) I1 L hf hfn hfr (hbind _ _ _ _ _) tk hW hr' (fun A outer s H hr2 => hbody A outer s H E f c' hr2) hNg hva hd hcd) (fun E H Q Q' => mono E σ H Q Q') hco (by rw [← hT]; exact T1) (rd H1 eN T1)
    exact ⟨t', ht'.nox, hq'⟩
  refine wpAny_call (codeAny_mono rc fun r s2 hq => ?_)
  cases r with
  | error e => exact False.elim hq
  | ok fl => cases fl <;> first | exact I1.after hq | exact False.elim hq
end Den

/-! DenZ: zip of any number of lists and tuples, mixed; enumerate of a tuple. -/
namespace ZN
open PySem PySem.Spec PyProof.Rows L2 RZ
open PySem.Sem (wp)
/-- a list or a tuple -/
inductive SK where
  | l | t
  deriving DecidableEq
def ItAt (h : Heap) : SK → Addr → Addr → Nat → Prop
  | .l, it, a, i => h.IsListIter it a i
  | .t, it, a, i => h.IsTupleIter it a i
def SeqIs (h : Heap) : SK → Addr → Array Value → Prop
  | .l, a, xs => h.IsList a xs
  | .t, a, xs => h.IsTuple a xs
theorem ItAt.ext {h h' : Heap} {k : SK} {it a : Addr} {i : Nat} (q : ItAt h k it a i) (e : ∀ o, h.get? it = some o → h'.get? it = some o) : ItAt h' k it a i := by
  cases k
  · exact Heap.IsListIter.at q e
  · exact Heap.IsTupleIter.at q e
theorem ItAt.obj {h : Heap} {k : SK} {it a : Addr} {i : Nat} (q : ItAt h k it a i) : ∃ o, h.get? it = some o ∧ ∀ v, o.data ≠ .cell v := by
  cases k <;> (obtain ⟨o, e, _, d⟩ := q; exact ⟨o, e, fun v z => by rw [d] at z; cases z⟩)
theorem SeqIs.ext {h h' : Heap} {k : SK} {a : Addr} {xs : Array Value} (q : SeqIs h k a xs) (e : ∀ o, h.get? a = some o → h'.get? a = some o) : SeqIs h' k a xs := by
  cases k
  · obtain ⟨o, h1, h2⟩ := q; exact ⟨o, e o h1, h2⟩
  · obtain ⟨o, h1, h2⟩ := q; exact ⟨o, e o h1, h2⟩
theorem SeqIs.lt {h : Heap} {k : SK} {a : Addr} {xs : Array Value} (q : SeqIs h k a xs) : a < h.objs.size := by
  cases k <;> (obtain ⟨o, e, _⟩ := q; exact Heap.lt_size e)
section
variable {prog : Program} {w : World} {A : Around} {E : Value → Shared → Prop} {s : Shared}
theorem next_item {k : SK} {it a : Addr} {i : Nat} {xs : Array Value} {x : Value} {Q : Value → Shared → Prop} (hit : ItAt s.heap k it a i) (hl : SeqIs s.heap k a xs) (hx : xs[i]? = some x)
    (hQ : ∀ h', ItAt h' k it a (i + 1) → Heap.SameBut it s.heap h' → Q x { s with heap := h' }) : wpAny (model prog w) A (Builtin.SmallTypes.nextOf (.ref it)) Q E s := by
  cases k
  · exact wpAny_nextOf_list_item hit hl hx hQ
  · exact nextOf_tuple_item hit hl hx hQ
theorem next_end {k : SK} {it a : Addr} {i : Nat} {xs : Array Value} {Q : Value → Shared → Prop} (hh : A.handled = none) (hit : ItAt s.heap k it a i) (hl : SeqIs s.heap k a xs) (hx : xs[i]? = none)
    (hE : ∀ h' e, Heap.ExtBut it s.heap h' → (∃ o, h'.get? e = some o ∧ o.cls = .type "StopIteration") → E (.ref e) { s with heap := h' }) : wpAny (model prog w) A (Builtin.SmallTypes.nextOf (.ref it)) Q E s := by
  cases k
  · exact wpAny_nextOf_list_end hh hit hl hx hE
  · exact nextOf_tuple_end hh hit hl hx hE
abbrev IsTupA (h : Heap) (T : Addr) (xs : Array Value) : Prop := h.get? T = some { cls := .type "tuple", data := .seq xs }
/-- one of those that are zipped: list or tuple, its iterator, its address, its items -/
structure Src where
  k : SK
  it : Addr
  a : Addr
  xs : Array Value
structure Apart (z TI TO : Addr) (ss : List Src) : Prop where
  nd : (z :: TI :: TO :: ss.map Src.it).Nodup
  out : ∀ c ∈ ss, c.a ∉ z :: TI :: TO :: ss.map Src.it
theorem set_at {xs : Array Value} {n : Nat} {x : Value} : (xs.setIfInBounds n x).size = xs.size := by simp
/-- what the owned tuple comes to -/
def fill (acc : Array Value) : Nat → List Value → Array Value
  | _, [] => acc
  | n, v :: vs => fill (acc.setIfInBounds n v) (n + 1) vs
theorem fill_get : ∀ (vs : List Value) (n : Nat) (acc : Array Value) (i : Nat), n + vs.length ≤ acc.size → (fill acc n vs)[i]? = if n ≤ i ∧ i < n + vs.length then vs[i - n]? else acc[i]?
  | [], n, acc, i, _ => by simp [fill]; intro h1 h2; omega
  | v :: vs, n, acc, i, h => by
    simp only [List.length_cons] at h
    rw [fill, fill_get vs (n + 1) _ i (by simp; omega)]
    simp only [List.length_cons, Array.getElem?_setIfInBounds]
    by_cases h1 : i = n
    · subst h1
      have : i < acc.size := by omega
      simp [this]
      try omega
    · by_cases h2 : n + 1 ≤ i ∧ i < n + 1 + vs.length
      · obtain ⟨j, rfl⟩ : ∃ j, i = n + 1 + j := ⟨i - (n + 1), by omega⟩
        rw [if_pos h2, if_pos (by omega)]
        rw [show n + 1 + j - (n + 1) = j by omega, show n + 1 + j - n = j + 1 by omega, List.getElem?_cons_succ]
      · rw [if_neg h2, if_neg (by omega), if_neg (by omega)]
theorem fill_size : ∀ (vs : List Value) (n : Nat) (acc : Array Value), (fill acc n vs).size = acc.size
  | [], _, _ => rfl
  | v :: vs, n, acc => by rw [fill, fill_size vs]; simp
theorem fill_all {acc : Array Value} {vs : List Value} (h : acc.size = vs.length) : fill acc 0 vs = vs.toArray := by
  refine Array.ext_getElem? fun i => ?_
  rw [fill_get vs 0 acc i (by omega)]
  by_cases hi : i < vs.length
  · rw [if_pos (by omega)]; simp
  · rw [if_neg (by omega)]
    rw [Array.getElem?_eq_none (by omega)]
    simp; omega
theorem map_some_inj : ∀ {a b : List Value}, a.map some = b.map some → a = b
  | [], [], _ => rfl
  | [], _ :: _, h => by cases h
  | _ :: _, [], h => by cases h
  | x :: a, y :: b, h => by
    simp only [List.map_cons, List.cons.injEq, Option.some.injEq] at h
    rw [h.1, map_some_inj h.2]
theorem fill_snoc : ∀ (ws : List Value) (n : Nat) (acc : Array Value) (v : Value), fill acc n (ws ++ [v]) = (fill acc n ws).setIfInBounds (n + ws.length) v
  | [], n, acc, v => by simp [fill]
  | w :: ws, n, acc, v => by
    simp only [List.cons_append, fill, fill_snoc ws (n + 1), List.length_cons]
    rw [show n + 1 + ws.length = n + (ws.length + 1) by omega]
/-- in the midst of a turn -/
structure Mid (z TI TO : Addr) (ss : List Src) (i : Nat) (acc : Array Value) (s : Shared) (don todo : List Src) (ws : List Value) (h : Heap) : Prop where
  eq : ss = don ++ todo
  len : ws.length = don.length
  vals : don.map (fun c => c.xs[i]?) = ws.map some
  zp : IsZip h z TI TO .ellipsis
  own : IsTupA h TO (fill acc 0 ws)
  ran : ∀ c ∈ don, ItAt h c.k c.it c.a (i + 1)
  left : ∀ c ∈ todo, ItAt h c.k c.it c.a i
  size : h.objs.size = s.heap.objs.size
  keep : ∀ c o, c ∉ z :: TO :: ss.map Src.it → s.heap.get? c = some o → h.get? c = some o
theorem Mid.step {z TI TO : Addr} {ss : List Src} {i : Nat} {acc : Array Value} {don todo : List Src} {ws : List Value} {h h2 h3 : Heap} {c : Src} {x : Value} (D : Apart z TI TO ss)
    (m : Mid z TI TO ss i acc s don (c :: todo) ws h) (hx : c.xs[i]? = some x) (h1 : ItAt h2 c.k c.it c.a (i + 1)) (s2 : Heap.SameBut c.it h h2)
    (h3t : IsTupA h3 TO (fill acc 0 (ws ++ [x]))) (s3 : Heap.SameBut TO h2 h3) : Mid z TI TO ss i acc s (don ++ [c]) todo (ws ++ [x]) h3 := by
  have hc : c ∈ ss := by rw [m.eq]; simp
  have nd := D.nd
  have hci : c.it ∈ ss.map Src.it := List.mem_map_of_mem hc
  simp only [List.nodup_cons, List.mem_cons, not_or] at nd
  obtain ⟨⟨n1, n2, n3⟩, ⟨n4, n5⟩, n6, n7⟩ := nd
  have cz : c.it ≠ z := fun q => n3 (q ▸ hci)
  have cTO : c.it ≠ TO := fun q => n6 (q ▸ hci)
  have up : ∀ b o, b ≠ c.it → b ≠ TO → h.get? b = some o → h3.get? b = some o := fun b o b1 b2 e => s3.extBut _ _ b2 (s2.extBut _ _ b1 e)
  have oth : ∀ b ∈ don ++ todo, b.it ≠ c.it := fun b hb q => by
    have e := m.eq
    rw [e] at n7
    simp only [List.map_append, List.map_cons] at n7
    rw [List.nodup_append] at n7
    obtain ⟨_, n9, n10⟩ := n7
    rcases List.mem_append.mp hb with hb | hb
    · exact n10 _ (List.mem_map_of_mem hb) _ List.mem_cons_self q
    · exact (List.nodup_cons.mp n9).1 (q ▸ List.mem_map_of_mem hb)
  have oTO : ∀ b ∈ don ++ todo, b.it ≠ TO := fun b hb q => n6 (q ▸ List.mem_map_of_mem (by rw [m.eq]; simp only [List.mem_append, List.mem_cons] at hb ⊢; rcases hb with hb | hb; exact .inl hb; exact .inr (.inr hb)))
  refine ⟨by rw [m.eq]; simp, by simp [m.len], by simp [m.vals, hx], up _ _ (Ne.symm cz) (fun q => n2 q) m.zp, h3t, fun b hb => ?_, fun b hb => (m.left b (List.mem_cons_of_mem _ hb)).ext fun o => up _ o (oth b (by simp [hb])) (oTO b (by simp [hb])), by rw [s3.1, s2.1, m.size], fun b o hb e => ?_⟩
  · simp only [List.mem_append, List.mem_singleton] at hb
    rcases hb with hb | rfl
    · exact (m.ran b hb).ext fun o => up _ o (oth b (by simp [hb])) (oTO b (by simp [hb]))
    · exact h1.ext fun o e => s3.extBut _ _ cTO e
  · simp only [List.mem_cons, not_or] at hb
    exact up b o (fun q => hb.2.2 (q ▸ hci)) hb.2.1 (m.keep b o (by simp only [List.mem_cons, not_or]; exact hb) e)
theorem zipN_item {z TI TO : Addr} {ss : List Src} {i : Nat} {vs : List Value} {acc : Array Value} {Q : Value → Shared → Prop} (D : Apart z TI TO ss) (hne : ss ≠ []) (hsm : ss.length ≤ sizeLine)
    (hz : IsZip s.heap z TI TO .none) (hTI : IsTupA s.heap TI (ss.map fun c => Value.ref c.it).toArray) (hTO : IsTupA s.heap TO acc) (hacc : acc.size = ss.length)
    (hit : ∀ c ∈ ss, ItAt s.heap c.k c.it c.a i) (hsq : ∀ c ∈ ss, SeqIs s.heap c.k c.a c.xs) (hvs : ss.map (fun c => c.xs[i]?) = vs.map some)
    (hQ : ∀ h', IsZip h' z TI TO (rawInt s.heap.objs.size) → IsTupA h' TO vs.toArray → (∀ c ∈ ss, ItAt h' c.k c.it c.a (i + 1)) → IsTupA h' s.heap.objs.size vs.toArray → h'.objs.size = s.heap.objs.size + 1 →
      (∀ c o, c ∉ z :: TO :: ss.map Src.it → s.heap.get? c = some o → h'.get? c = some o) → Q (.ref s.heap.objs.size) { s with heap := h' }) :
    wpAny (model prog w) A (Builtin.«zip.__next__» ⟨[.ref z], []⟩) (fun fin s' => ∃ v, fin = .done (.ret v) ∧ Q v s') E s := by
  show wpAny _ _ (field (.ref z) 2 >>= _) _ _ _
  refine wpAny_bind (wpAny_field hz rfl (x := .bool false) rfl ?_)
  show wpAny _ _ (field (.ref z) 3 >>= _) _ _ _
  refine wpAny_bind (wpAny_field hz rfl (x := .ref TI) rfl ?_)
  refine wpAny_bind (wpAny_seqItems hTI rfl ?_)
  dsimp only
  rw [if_neg (by cases ss <;> first | exact absurd rfl hne | simp)]
  show wpAny _ _ (Builtin.SmallTypes.ownedTupleIsFree (.ref z) >>= _) _ _ _
  refine wpAny_bind ?_
  unfold Builtin.SmallTypes.ownedTupleIsFree
  refine wpAny_bind (wpAny_field hz rfl (x := .none) rfl (wpAny_pure ?_))
  simp only [if_true]
  refine wpAny_bind (wpAny_rule ?_)
  refine wpAny_bind (wpAny_field hz rfl (x := .ref TO) rfl ?_)
  refine wpAny_bind (wpAny_setField_rec hz (by simp) fun h₁ hz₁ hs₁ => ?_)
  replace hz₁ : IsZip h₁ z TI TO .ellipsis := hz₁
  refine wpAny_bind ?_
  have nd := D.nd
  simp only [List.nodup_cons, List.mem_cons, not_or] at nd
  obtain ⟨⟨n1, n2, n3⟩, ⟨n4, n5⟩, n6, n7⟩ := nd
  refine wpAny_forIn_list _ (fun rest b s' => ∃ don todo ws h, rest = (todo.map fun c => Value.ref c.it).zipIdx don.length ∧ b = (none, ()) ∧ s' = { s with heap := h } ∧ Mid z TI TO ss i acc s don todo ws h) _ ?_ ?_ _ _
    ⟨[], ss, [], h₁, rfl, rfl, rfl, rfl, rfl, rfl, hz₁, hs₁.extBut _ _ (fun q => n2 q.symm) hTO, (fun c hc => nomatch hc), fun c hc => (hit c hc).ext fun o e => hs₁.extBut _ _ (fun q => n3 (q ▸ List.mem_map_of_mem hc)) e, hs₁.1, fun c o hc e => hs₁.extBut _ _ (fun q => hc (by simp [q])) e⟩
  · rintro x rest b s' ⟨don, todo, ws, h, e1, rfl, rfl, m⟩
    cases todo with
    | nil => cases e1
    | cons c todo =>
      simp only [List.map_cons, List.zipIdx_cons, List.cons.injEq] at e1
      obtain ⟨rfl, rfl⟩ := e1
      have hc : c ∈ ss := by rw [m.eq]; simp
      obtain ⟨x, hx⟩ : ∃ x, c.xs[i]? = some x := by
        have : c.xs[i]? ∈ vs.map some := by rw [← hvs]; exact List.mem_map_of_mem (f := fun c : Src => c.xs[i]?) hc
        obtain ⟨x, _, q⟩ := List.mem_map.mp this
        exact ⟨x, q.symm⟩
      have hci : c.it ∈ ss.map Src.it := List.mem_map_of_mem hc
      refine wpAny_bind (wpAny_onRaise ?_)
      show wpAny _ _ (Builtin.SmallTypes.nextOf (.ref c.it) >>= _) _ _ _
      have q1 := m.left c List.mem_cons_self
      have q2 : SeqIs h c.k c.a c.xs := (hsq c hc).ext fun o => m.keep c.a o fun q => D.out c hc (by simp only [List.mem_cons] at q ⊢; rcases q with q | q | q; exact .inl q; exact .inr (.inr (.inl q)); exact .inr (.inr (.inr q)))
      refine wpAny_bind (next_item (s := { s with heap := h }) q1 q2 hx fun h₂ h1₂ hs₂ => wpAny_pure ?_)
      have hTO₂ : IsTupA h₂ TO (fill acc 0 ws) := hs₂.extBut _ _ (fun q => n6 (q ▸ hci)) m.own
      dsimp only
      refine wpAny_bind (wpAny_seqItems hTO₂ rfl ?_)
      dsimp only
      have hfs : (fill acc 0 ws).size ≤ sizeLine := by rw [fill_size, hacc]; exact hsm
      refine wpAny_bind (wpAny_updateSeq hTO₂ rfl (hz := hfs) (_hz' := by simp only [Array.size_setIfInBounds]; omega) (wpAny_bind (wpAny_letGo (wpAny_pure ?_))))
      refine ⟨don ++ [c], todo, ws ++ [x], _, by rw [List.length_append]; rfl, rfl, rfl, m.step D hx h1₂ hs₂ ?_ (Heap.SameBut.update ..)⟩
      rw [IsTupA, Heap.get?_update_self _ hTO₂ rfl, fill_snoc, Nat.zero_add, m.len]
      simp [Obj.mapSeq]
  · rintro b s' ⟨don, todo, ws, h, e1, rfl, rfl, m⟩
    cases todo with
    | cons c todo => cases e1
    | nil =>
      have e0 : ss = don := by have := m.eq; rwa [List.append_nil] at this
      subst e0
      have ew : ws = vs := by
        have := m.vals
        rw [hvs] at this
        exact (map_some_inj this).symm
      subst ew
      have hTO₅ : IsTupA h TO ws.toArray := by have := m.own; rwa [fill_all (by rw [hacc, m.len])] at this
      refine wpAny_bind (wpAny_seqItems hTO₅ rfl ?_)
      dsimp only
      refine wpAny_bind (wpAny_newTuple (hsz := by first | (rw [m.len]; exact hsm) | (show ws.length ≤ _; rw [m.len]; exact hsm)) ?_)
      show wpAny _ _ (Builtin.SmallTypes.ownedTupleHandOut (.ref z) (.ref h.objs.size) >>= _) _ _ _
      refine wpAny_bind ?_
      unfold Builtin.SmallTypes.ownedTupleHandOut
      have hzlt : z < h.objs.size := Heap.lt_size m.zp
      have hz₆ : IsZip (h.push { cls := .type "tuple", data := .seq ws.toArray.toList.toArray }) z TI TO .ellipsis := Heap.get?_push_of_some _ m.zp
      refine wpAny_bind (wpAny_setField_rec hz₆ (by simp) fun h₇ hz₇ hs₇ => ?_)
      replace hz₇ : IsZip h₇ z TI TO (rawInt h.objs.size) := hz₇
      refine wpAny_setField_rec hz₇ (by simp) fun h₈ hz₈ hs₈ => ?_
      replace hz₈ : IsZip h₈ z TI TO (rawInt h.objs.size) := hz₈
      have up : ∀ c o, c ≠ z → h.get? c = some o → h₈.get? c = some o := fun c o c1 e => hs₈.extBut _ _ c1 (hs₇.extBut _ _ c1 (Heap.get?_push_of_some _ e))
      have hT₈ : IsTupA h₈ h.objs.size ws.toArray := hs₈.extBut _ _ (Nat.ne_of_gt hzlt) (hs₇.extBut _ _ (Nat.ne_of_gt hzlt) (Heap.get?_push_size _ rfl))
      have hz8 : h₈.objs.size = h.objs.size + 1 := by rw [hs₈.1, hs₇.1, Heap.size_push]
      rw [m.size] at hz₈ hT₈ hz8
      refine wpAny_pure ⟨_, rfl, ?_⟩
      show Q (.ref h.objs.size) _
      rw [m.size]
      exact hQ h₈ hz₈ (up _ _ (fun q => n2 q.symm) hTO₅) (fun c hc => (m.ran c hc).ext fun o => up _ o fun q => n3 (q ▸ List.mem_map_of_mem hc)) hT₈ hz8 fun c o hc e => up c o (fun q => hc (by simp [q])) (m.keep c o hc e)
theorem zipN_end {z TI TO : Addr} {ss : List Src} {i : Nat} {acc : Array Value} {Q : Fin → Shared → Prop} (hh : A.handled = none) (D : Apart z TI TO ss) (hne : ss ≠ []) (hsm : ss.length ≤ sizeLine)
    (hz : IsZip s.heap z TI TO .none) (hTI : IsTupA s.heap TI (ss.map fun c => Value.ref c.it).toArray) (hTO : IsTupA s.heap TO acc) (hacc : acc.size = ss.length)
    (hit : ∀ c ∈ ss, ItAt s.heap c.k c.it c.a i) (hsq : ∀ c ∈ ss, SeqIs s.heap c.k c.a c.xs) (hend : ∃ c ∈ ss, c.xs[i]? = none)
    (hE : ∀ h' e, (∀ c o, c ∉ z :: TO :: ss.map Src.it → s.heap.get? c = some o → h'.get? c = some o) → (∃ o, h'.get? e = some o ∧ o.cls = .type "StopIteration") → E (.ref e) { s with heap := h' }) :
    wpAny (model prog w) A (Builtin.«zip.__next__» ⟨[.ref z], []⟩) Q E s := by
  show wpAny _ _ (field (.ref z) 2 >>= _) _ _ _
  refine wpAny_bind (wpAny_field hz rfl (x := .bool false) rfl ?_)
  show wpAny _ _ (field (.ref z) 3 >>= _) _ _ _
  refine wpAny_bind (wpAny_field hz rfl (x := .ref TI) rfl ?_)
  refine wpAny_bind (wpAny_seqItems hTI rfl ?_)
  dsimp only
  rw [if_neg (by cases ss <;> first | exact absurd rfl hne | simp)]
  show wpAny _ _ (Builtin.SmallTypes.ownedTupleIsFree (.ref z) >>= _) _ _ _
  refine wpAny_bind ?_
  unfold Builtin.SmallTypes.ownedTupleIsFree
  refine wpAny_bind (wpAny_field hz rfl (x := .none) rfl (wpAny_pure ?_))
  simp only [if_true]
  refine wpAny_bind (wpAny_rule ?_)
  refine wpAny_bind (wpAny_field hz rfl (x := .ref TO) rfl ?_)
  refine wpAny_bind (wpAny_setField_rec hz (by simp) fun h₁ hz₁ hs₁ => ?_)
  replace hz₁ : IsZip h₁ z TI TO .ellipsis := hz₁
  refine wpAny_bind ?_
  have nd := D.nd
  simp only [List.nodup_cons, List.mem_cons, not_or] at nd
  obtain ⟨⟨n1, n2, n3⟩, ⟨n4, n5⟩, n6, n7⟩ := nd
  refine wpAny_forIn_list _ (fun rest b s' => ∃ don todo ws h, rest = (todo.map fun c => Value.ref c.it).zipIdx don.length ∧ b = (none, ()) ∧ s' = { s with heap := h } ∧ Mid z TI TO ss i acc s don todo ws h) _ ?_ ?_ _ _
    ⟨[], ss, [], h₁, rfl, rfl, rfl, rfl, rfl, rfl, hz₁, hs₁.extBut _ _ (fun q => n2 q.symm) hTO, (fun c hc => nomatch hc), fun c hc => (hit c hc).ext fun o e => hs₁.extBut _ _ (fun q => n3 (q ▸ List.mem_map_of_mem hc)) e, hs₁.1, fun c o hc e => hs₁.extBut _ _ (fun q => hc (by simp [q])) e⟩
  · rintro x rest b s' ⟨don, todo, ws, h, e1, rfl, rfl, m⟩
    cases todo with
    | nil => cases e1
    | cons c todo =>
      simp only [List.map_cons, List.zipIdx_cons, List.cons.injEq] at e1
      obtain ⟨rfl, rfl⟩ := e1
      have hc : c ∈ ss := by rw [m.eq]; simp
      have hci : c.it ∈ ss.map Src.it := List.mem_map_of_mem hc
      refine wpAny_bind (wpAny_onRaise ?_)
      show wpAny _ _ (Builtin.SmallTypes.nextOf (.ref c.it) >>= _) _ _ _
      have q1 := m.left c List.mem_cons_self
      have q2 : SeqIs h c.k c.a c.xs := (hsq c hc).ext fun o => m.keep c.a o fun q => D.out c hc (by simp only [List.mem_cons] at q ⊢; rcases q with q | q | q; exact .inl q; exact .inr (.inr (.inl q)); exact .inr (.inr (.inr q)))
      cases hx : c.xs[i]? with
      | some x =>
        refine wpAny_bind (next_item (s := { s with heap := h }) q1 q2 hx fun h₂ h1₂ hs₂ => wpAny_pure ?_)
        have hTO₂ : IsTupA h₂ TO (fill acc 0 ws) := hs₂.extBut _ _ (fun q => n6 (q ▸ hci)) m.own
        dsimp only
        refine wpAny_bind (wpAny_seqItems hTO₂ rfl ?_)
        dsimp only
        have hfs : (fill acc 0 ws).size ≤ sizeLine := by rw [fill_size, hacc]; exact hsm
        refine wpAny_bind (wpAny_updateSeq hTO₂ rfl (hz := hfs) (_hz' := by simp only [Array.size_setIfInBounds]; omega) (wpAny_bind (wpAny_letGo (wpAny_pure ?_))))
        refine ⟨don ++ [c], todo, ws ++ [x], _, by rw [List.length_append]; rfl, rfl, rfl, m.step D hx h1₂ hs₂ ?_ (Heap.SameBut.update ..)⟩
        rw [IsTupA, Heap.get?_update_self _ hTO₂ rfl, fill_snoc, Nat.zero_add, m.len]
        simp [Obj.mapSeq]
      | none =>
        refine wpAny_bind (next_end (s := { s with heap := h }) hh q1 q2 hx fun h₂ e hs₂ he => ?_)
        obtain ⟨oe, hoe, hce⟩ := he
        have hz₂ : IsZip h₂ z TI TO .ellipsis := hs₂ _ _ (fun q => n3 (q ▸ hci)) m.zp
        have hez : e ≠ z := fun x => by subst x; rw [hz₂] at hoe; cases hoe; simp at hce
        refine wpAny_setField_rec hz₂ (by simp) fun h₃ _ hs₃ => hE h₃ e (fun c' o hc' x => ?_) ⟨oe, hs₃.extBut _ _ hez hoe, hce⟩
        have q := m.keep c' o hc' x
        simp only [List.mem_cons, not_or] at hc'
        exact hs₃.extBut _ _ hc'.1 (hs₂ _ _ (fun q => hc'.2.2 (q ▸ hci)) q)
  · rintro b s' ⟨don, todo, ws, h, e1, rfl, rfl, m⟩
    cases todo with
    | cons c todo => cases e1
    | nil =>
      exfalso
      have e0 : ss = don := by have := m.eq; rwa [List.append_nil] at this
      obtain ⟨c, hc, hx⟩ := hend
      have := m.vals
      rw [← e0] at this
      have q : c.xs[i]? ∈ ws.map some := by rw [← this]; exact List.mem_map_of_mem (f := fun c : Src => c.xs[i]?) hc
      rw [hx] at q
      obtain ⟨x, _, q⟩ := List.mem_map.mp q
      cases q
theorem pyNext_zipN_item {z TI TO : Addr} {ss : List Src} {i : Nat} {vs : List Value} {acc : Array Value} {Q : Option Value → Shared → Prop} (D : Apart z TI TO ss) (hne : ss ≠ []) (hsm : ss.length ≤ sizeLine)
    (hz : IsZip s.heap z TI TO .none) (hTI : IsTupA s.heap TI (ss.map fun c => Value.ref c.it).toArray) (hTO : IsTupA s.heap TO acc) (hacc : acc.size = ss.length)
    (hit : ∀ c ∈ ss, ItAt s.heap c.k c.it c.a i) (hsq : ∀ c ∈ ss, SeqIs s.heap c.k c.a c.xs) (hvs : ss.map (fun c => c.xs[i]?) = vs.map some)
    (hQ : ∀ h', IsZip h' z TI TO (rawInt s.heap.objs.size) → IsTupA h' TO vs.toArray → (∀ c ∈ ss, ItAt h' c.k c.it c.a (i + 1)) → IsTupA h' s.heap.objs.size vs.toArray → h'.objs.size = s.heap.objs.size + 1 →
      (∀ c o, c ∉ z :: TO :: ss.map Src.it → s.heap.get? c = some o → h'.get? c = some o) → Q (some (.ref s.heap.objs.size)) { s with heap := h' }) :
    wpAny (model prog w) A (pyNext (.ref z)) Q E s := by
  have hT : s.TypeIs (.ref z) "zip" := ⟨_, hz, rfl⟩
  unfold pyNext
  exact wpAny_bind (wpAny_attempt (wpAny_callSpecial?_slot (name := Str.ofString "__next__") hT F.slot_zip_next
    (wpAny_call_entry F.slot_zip_next hT F.entry_zip_next
      (zipN_item D hne hsm hz hTI hTO hacc hit hsq hvs fun h' a1 a2 a3 a4 a5 a6 => wpAny_pure (hQ h' a1 a2 a3 a4 a5 a6)) (F.args_zip_next_1 _))))
theorem pyNext_zipN_end {z TI TO : Addr} {ss : List Src} {i : Nat} {acc : Array Value} {Q : Option Value → Shared → Prop} (hh : A.handled = none) (D : Apart z TI TO ss) (hne : ss ≠ []) (hsm : ss.length ≤ sizeLine)
    (hz : IsZip s.heap z TI TO .none) (hTI : IsTupA s.heap TI (ss.map fun c => Value.ref c.it).toArray) (hTO : IsTupA s.heap TO acc) (hacc : acc.size = ss.length)
    (hit : ∀ c ∈ ss, ItAt s.heap c.k c.it c.a i) (hsq : ∀ c ∈ ss, SeqIs s.heap c.k c.a c.xs) (hend : ∃ c ∈ ss, c.xs[i]? = none)
    (hQ : ∀ h', (∀ c o, c ∉ z :: TO :: ss.map Src.it → s.heap.get? c = some o → h'.get? c = some o) → Q none { s with heap := h' }) :
    wpAny (model prog w) A (pyNext (.ref z)) Q E s := by
  have hT : s.TypeIs (.ref z) "zip" := ⟨_, hz, rfl⟩
  unfold pyNext
  refine wpAny_bind (wpAny_attempt (wpAny_callSpecial?_slot (name := Str.ofString "__next__") hT F.slot_zip_next
    (wpAny_call_entry F.slot_zip_next hT F.entry_zip_next (zipN_end hh D hne hsm hz hTI hTO hacc hit hsq hend fun h' e hk he => ?_) (F.args_zip_next_1 _))))
  obtain ⟨o, ho, hc⟩ := he
  refine wpAny_bind (wpAny_isInstance (T := "StopIteration") (b := true) ⟨o, ho, hc⟩ isSubtype_stop ?_)
  exact wpAny_pure (hQ _ hk)
end
end ZN

/-! DenZ2: zip of lists and tuples as what a loop walks. -/
namespace ZN
open PySem PySem.Spec PyProof.Rows L2 RZ
open PySem.Sem (wp)
def SqK (K : PySem.W.Frag) (H : Hp) : SK → Addr → List V → Prop
  | .l, a, xs => SqL K H a xs
  | .t, a, xs => SqT K H a xs
section
variable {X : Cx} {pins : List (Addr × Obj)} {σ : L2.St} {H : Hp} {s : Shared}
theorem SqK.inv {k : SK} {a : Addr} {xs : List V} (h : SqK X.K H k a xs) (I : Inv X pins σ H s) : ∃ its : List Value, Vals xs its ∧ SeqIs s.heap k a its.toArray := by
  cases k
  · obtain ⟨its, r, p, _⟩ := I.list h
    exact ⟨its, r, p.isList⟩
  · obtain ⟨its, r, p, _⟩ := I.tuple h
    exact ⟨its, r, p⟩
theorem SqK.inj {k : SK} {a : Addr} {xs ys : List V} (h : SqK X.K H k a xs) (h' : SqK X.K H k a ys) (I : Inv X pins σ H s) : xs = ys := by
  cases k
  · exact I.list_inj h h'
  · exact I.tuple_inj h h'
end
/-- the i-th items of all -/
def Row (K : PySem.W.Frag) (H : Hp) (i : Nat) : List (SK × Addr) → List V → Prop
  | [], [] => True
  | c :: cs, v :: vs => (∃ xs, SqK K H c.1 c.2 xs ∧ xs[i]? = some v) ∧ Row K H i cs vs
  | _, _ => False
def RowA (K : PySem.W.Frag) (H : Hp) (i : Nat) : List (SK × Addr) → List V → Prop
  | [], [] => True
  | c :: cs, v :: vs => (∀ xs, SqK K H c.1 c.2 xs → xs[i]? = some v) ∧ RowA K H i cs vs
  | _, _ => False
def ItN (K : PySem.W.Frag) (cs : List (SK × Addr)) : It :=
  ⟨fun i H => ∃ vs, Row K H i cs vs,
    fun i H v H' => ∃ T vs, v = .ref T ∧ H T = none ∧ H' = upd H T (.tup vs) ∧ RowA K H i cs vs,
    fun i H => (∀ c ∈ cs, ∃ xs, SqK K H c.1 c.2 xs) ∧ ∃ c ∈ cs, ∃ xs, SqK K H c.1 c.2 xs ∧ xs.length ≤ i⟩
/-- kind, iterator, address -/
abbrev Tri := SK × Addr × Addr
def tri (c : Src) : Tri := (c.k, c.it, c.a)
def duo (c : Tri) : SK × Addr := (c.1, c.2.2)
section
variable {X : Cx} {pins : List (Addr × Obj)} {σ : L2.St} {H : Hp} {s : Shared}
theorem row_src {i : Nat} (I : Inv X pins σ H s) : ∀ {ts : List Tri} {vs : List V}, Row X.K H i (ts.map duo) vs → ∃ (ss : List Src) (us : List Value), ss.map tri = ts ∧ (∀ c ∈ ss, SeqIs s.heap c.k c.a c.xs) ∧ ss.map (fun c => c.xs[i]?) = us.map some ∧ Vals vs us ∧ RowA X.K H i (ts.map duo) vs
  | [], [], _ => ⟨[], [], rfl, (fun c hc => nomatch hc), rfl, .nil, trivial⟩
  | [], _ :: _, h => h.elim
  | _ :: _, [], h => h.elim
  | t :: ts, v :: vs, h => by
    obtain ⟨⟨xs, q, hx⟩, h⟩ := h
    obtain ⟨ss, us, e1, e2, e3, e4, e5⟩ := row_src I h
    obtain ⟨its, rv, p⟩ := q.inv I
    obtain ⟨u, hu, ru⟩ := rv.get hx
    refine ⟨⟨t.1, t.2.1, t.2.2, its.toArray⟩ :: ss, u :: us, by simp [tri, e1], fun c hc => ?_, by simp [e3, hu], .cons ru e4, fun ys hy => by rw [hy.inj q I]; exact hx, e5⟩
    rcases List.mem_cons.mp hc with rfl | hc
    · exact p
    · exact e2 c hc
theorem all_src {i : Nat} (I : Inv X pins σ H s) : ∀ {ts : List Tri}, (∀ c ∈ ts.map duo, ∃ xs, SqK X.K H c.1 c.2 xs) → ∃ (ss : List Src), ss.map tri = ts ∧ (∀ c ∈ ss, SeqIs s.heap c.k c.a c.xs) ∧
      ((∃ c ∈ ts.map duo, ∃ xs, SqK X.K H c.1 c.2 xs ∧ xs.length ≤ i) → ∃ c ∈ ss, c.xs[i]? = none)
  | [], _ => ⟨[], rfl, (fun c hc => nomatch hc), fun ⟨c, hc, _⟩ => nomatch hc⟩
  | t :: ts, h => by
    obtain ⟨xs, q⟩ := h (duo t) (by simp)
    obtain ⟨ss, e1, e2, e3⟩ := all_src (i := i) I (ts := ts) fun c hc => h c (by simp only [List.map_cons, List.mem_cons]; exact .inr hc)
    obtain ⟨its, rv, p⟩ := SqK.inv (k := t.1) (a := t.2.2) q I
    refine ⟨⟨t.1, t.2.1, t.2.2, its.toArray⟩ :: ss, by simp [tri, e1], fun c hc => ?_, fun ⟨c, hc, ys, q2, hl⟩ => ?_⟩
    · rcases List.mem_cons.mp hc with rfl | hc
      · exact p
      · exact e2 c hc
    · simp only [List.map_cons, List.mem_cons] at hc
      rcases hc with rfl | hc
      · refine ⟨_, List.mem_cons_self, ?_⟩
        have : ys = xs := q2.inj q I
        subst this
        have := rv.length
        simp; omega
      · obtain ⟨c', hc', h3⟩ := e3 ⟨c, hc, ys, q2, hl⟩
        exact ⟨c', List.mem_cons_of_mem _ hc', h3⟩
end
structure ApartT (z TI TO : Addr) (ts : List Tri) : Prop where
  nd : (z :: TI :: TO :: ts.map (·.2.1)).Nodup
  out : ∀ c ∈ ts, c.2.2 ∉ z :: TI :: TO :: ts.map (·.2.1)
theorem tri_it {ss : List Src} {ts : List Tri} (e : ss.map tri = ts) : ss.map Src.it = ts.map (·.2.1) := by
  subst e; simp [tri]
theorem ApartT.src {z TI TO : Addr} {ss : List Src} {ts : List Tri} (D : ApartT z TI TO ts) (e : ss.map tri = ts) : Apart z TI TO ss := by
  refine ⟨by rw [tri_it e]; exact D.nd, fun c hc => ?_⟩
  rw [tri_it e]
  exact D.out (tri c) (by rw [← e]; exact List.mem_map_of_mem hc)
theorem turn_zipN {P : Program} {w : World} {K : PySem.W.Frag} {elts : List Expr} {kk : Nat} {tpos : Pos} {z TI TO : Addr} {ts : List Tri} (D : ApartT z TI TO ts) (hne : ts ≠ []) (hsm : ts.length ≤ sizeLine) :
    Turn P w K (.Tuple elts kk tpos) (ItN K (ts.map duo)) (z :: TI :: TO :: ts.map (·.2.1)) z (fun i h => IsZip h z TI TO .none ∧ IsTupA h TI (ts.map fun c => Value.ref c.2.1).toArray ∧ (∃ acc, IsTupA h TO acc ∧ acc.size = ts.length) ∧ ∀ c ∈ ts, ItAt h c.1 c.2.1 c.2.2 i) where
  mem := by simp
  obj := fun i h st c hc => by
    obtain ⟨hz, hTI, ⟨acc, hTO, _⟩, h1⟩ := st
    simp only [List.mem_cons, List.mem_map] at hc
    rcases hc with rfl | rfl | rfl | ⟨t, ht, rfl⟩
    · exact ⟨_, hz, fun v q => nomatch q⟩
    · exact ⟨_, hTI, fun v q => nomatch q⟩
    · exact ⟨_, hTO, fun v q => nomatch q⟩
    · exact (h1 t ht).obj
  keep := fun i h h' st k => by
    obtain ⟨hz, hTI, ⟨acc, hTO, h0⟩, h1⟩ := st
    exact ⟨k z (by simp) _ hz, k TI (by simp) _ hTI, ⟨acc, k TO (by simp) _ hTO, h0⟩, fun c hc => (h1 c hc).ext fun o q => k _ (by simp only [List.mem_cons, List.mem_map]; exact .inr (.inr (.inr ⟨c, hc, rfl⟩))) o q⟩
  item := by
    intro X hP hw hK hc i pins s σ H E I hf st hg
    subst hP hw hK
    obtain ⟨hz, hTI, ⟨acc, hTO, h0⟩, h1⟩ := st
    obtain ⟨vs, hr⟩ := hg
    obtain ⟨ss, us, e1, e2, e3, e4, e5⟩ := row_src I hr
    have ei := tri_it e1
    have el : ss.length = ts.length := by rw [← e1, List.length_map]
    have hzl : z < s.heap.objs.size := Heap.lt_size hz
    have h1s : ∀ c ∈ ss, ItAt s.heap c.k c.it c.a i := fun c hc => h1 (tri c) (by rw [← e1]; exact List.mem_map_of_mem hc)
    have er : (ts.map fun c => Value.ref c.2.1) = ss.map fun c => Value.ref c.it := by rw [← e1]; simp [tri]
    refine pyNext_zipN_item (D.src e1) (fun q => hne (by rw [← e1, q]; rfl)) (by rw [el]; exact hsm) hz (by rw [← er]; exact hTI) hTO (by rw [h0, el]) h1s e2 e3 fun h' z' TO' h1' hT hsz hk => ?_
    refine ⟨_, rfl, wpAny_letOwnedTupleGo_zip (s := { s with heap := h' }) z' fun h'' z'' sb => ?_⟩
    have hT2 : h''.get? s.heap.objs.size = some { cls := .type "tuple", data := .seq us.toArray } := (sb.2 _ (Nat.ne_of_gt hzl)).trans hT
    have eu : us.length = ss.length := by have := congrArg List.length e3; simpa using this.symm
    have new : ObjOk X.prog X.w (upd H s.heap.objs.size (.tup vs)) h'' s.heap.objs.size (.tup vs) :=
      ⟨by show vs.length ≤ sizeLine; rw [e4.length, eu, el]; exact hsm, us, e4, ⟨_, hT2, rfl, _, rfl⟩⟩
    have hkk : ∀ c o, c ∉ z :: TI :: TO :: ts.map (·.2.1) → s.heap.get? c = some o → h'.get? c = some o := fun c o hb q => hk c o (by rw [ei]; simp only [List.mem_cons, not_or] at hb ⊢; exact ⟨hb.1, hb.2.2.1, hb.2.2.2⟩) q
    have I1 : Inv X pins σ (upd H s.heap.objs.size (.tup vs)) { s with heap := h'' } :=
      I.turnedNew (t' := s.toks) (ch := z :: TI :: TO :: ts.map (·.2.1)) (fun c o hb q => (sb.2 c (fun q' => hb (by simp [q']))).trans (hkk c o hb q)) hf (Nat.le_refl _) new
    have nd := D.nd
    simp only [List.nodup_cons, List.mem_cons, not_or] at nd
    obtain ⟨⟨n1, n2, n3⟩, ⟨n4, n5⟩, n6, n7⟩ := nd
    refine ⟨.ref s.heap.objs.size, _, I1, rfl, ⟨_, vs, rfl, I.hok.fresh (Nat.le_refl _), rfl, e5⟩, ⟨z'', ?_, ⟨us.toArray, ?_, by simp [eu, el]⟩, fun c hc => ?_⟩, fun c hcm => ?_⟩
    · exact (sb.2 _ (fun q => n1 q.symm)).trans (hk _ _ (by rw [ei]; simp only [List.mem_cons, not_or]; exact ⟨fun q => n1 q.symm, n4, n5⟩) hTI)
    · exact (sb.2 _ (fun q => n2 q.symm)).trans TO'
    · have hcs : ∃ c' ∈ ss, tri c' = c := by rw [← e1] at hc; simpa using hc
      obtain ⟨c', hc', rfl⟩ := hcs
      exact (h1' c' hc').ext fun o q => (sb.2 _ (fun q => n3 (by rw [← ei, ← q]; exact List.mem_map_of_mem hc'))).trans q
    · have hlt : c < s.heap.objs.size := by
        simp only [List.mem_cons, List.mem_map] at hcm
        rcases hcm with rfl | rfl | rfl | ⟨t, ht, rfl⟩
        · exact hzl
        · exact Heap.lt_size hTI
        · exact Heap.lt_size hTO
        · obtain ⟨o, e1, _⟩ := (h1 t ht).obj; exact Heap.lt_size e1
      rw [upd_ne (Nat.ne_of_lt hlt)]
      exact (hf c hcm).1
  done := by
    intro X hP hw hK hc i pins s σ H E I hf st hg
    subst hP hw hK
    obtain ⟨hz, hTI, ⟨acc, hTO, h0⟩, h1⟩ := st
    obtain ⟨ha, hb⟩ := hg
    obtain ⟨ss, e1, e2, e3⟩ := all_src (i := i) I ha
    have ei := tri_it e1
    have el : ss.length = ts.length := by rw [← e1, List.length_map]
    have h1s : ∀ c ∈ ss, ItAt s.heap c.k c.it c.a i := fun c hc => h1 (tri c) (by rw [← e1]; exact List.mem_map_of_mem hc)
    have er : (ts.map fun c => Value.ref c.2.1) = ss.map fun c => Value.ref c.it := by rw [← e1]; simp [tri]
    exact pyNext_zipN_end (I.ok.hd hc) (D.src e1) (fun q => hne (by rw [← e1, q]; rfl)) (by rw [el]; exact hsm) hz (by rw [← er]; exact hTI) hTO (by rw [h0, el]) h1s e2 (e3 hb) fun h' hk => ⟨rfl, I.turnedL (t' := s.toks) (ch := z :: TI :: TO :: ts.map (·.2.1)) (fun c o hb q =>
      hk c o (by rw [ei]; simp only [List.mem_cons, not_or] at hb ⊢; exact ⟨hb.1, hb.2.2.1, hb.2.2.2⟩) q) hf⟩
  self := fun A i s Q E st h => wpAny_pyIter_zip st.1 h
end ZN

/-! DenZ3: zip(a, b), zip(a, b, c). -/
namespace ZN
open PySem PySem.Spec PyProof.Rows L2 RZ
open PySem.Sem (wp)
abbrev itCls : SK → String
  | .l => "list_iterator" | .t => "tuple_iterator"
abbrev pIt (h : Heap) (k : SK) (a : Addr) : Heap := h.push { cls := .type (itCls k), data := .fields #[.ref a, .int 0 0] }
abbrev pTu (h : Heap) (xs : Array Value) : Heap := h.push { cls := .type "tuple", data := .seq xs }
abbrev pZi (h : Heap) (TI TO : Addr) : Heap := h.push { cls := .type "zip", data := .fields #[.none, .bool false, .bool false, .ref TI, .ref TO] }
abbrev z2H (h : Heap) (k1 k2 : SK) (l1 l2 : Addr) : Heap :=
  let n := h.objs.size
  pZi (pTu (pTu (pIt (pIt h k1 l1) k2 l2) #[.ref n, .ref (pIt h k1 l1).objs.size]) #[.none, .none]) (pIt (pIt h k1 l1) k2 l2).objs.size (pTu (pIt (pIt h k1 l1) k2 l2) #[.ref n, .ref (pIt h k1 l1).objs.size]).objs.size
abbrev z2A (h : Heap) (k1 k2 : SK) (l1 l2 : Addr) : Addr := (pTu (pTu (pIt (pIt h k1 l1) k2 l2) #[.ref h.objs.size, .ref (pIt h k1 l1).objs.size]) #[.none, .none]).objs.size
theorem pyIter_sk {prog : Program} {w : World} {A : Around} {E : Value → Shared → Prop} {s : Shared} {k : SK} {l : Addr} {items : Array Value} {Q : Value → Shared → Prop} (hl : SeqIs s.heap k l items)
    (hQ : Q (.ref s.heap.objs.size) { s with heap := pIt s.heap k l }) : wpAny (model prog w) A (pyIter (.ref l)) Q E s := by
  cases k
  · exact wpAny_pyIter_list hl hQ
  · exact wpAny_pyIter_tuple hl hQ
theorem SeqIs.push {h : Heap} {k : SK} {l : Addr} {xs : Array Value} (q : SeqIs h k l xs) (o : Obj) : SeqIs (h.push o) k l xs := by
  cases k
  · exact Heap.IsList.push q _
  · exact Heap.IsTuple.push q _
theorem meets2 (k1 k2 : SK) (l1 l2 : Addr) (xs ys : Array Value) :
    Meets (Builtin.«zip.__new__» ⟨[.type "zip", .ref l1, .ref l2], []⟩) (fun _ R s => SeqIs s.heap k1 l1 xs ∧ SeqIs s.heap k2 l2 ys ∧
      R (.ok (.ret (.ref (z2A s.heap k1 k2 l1 l2)))) { s with heap := z2H s.heap k1 k2 l1 l2 }) :=
  .of_wp fun prog w A R s h => by
    obtain ⟨hp, g, d, tk, os⟩ := s; obtain ⟨hl1, hl2, h⟩ := h
    have hsub := sub_zip
    have hL1 : SeqIs (Shared.heap ⟨hp, g, d, tk, os⟩) k1 l1 xs := hl1
    have hL2 : SeqIs (Shared.heap ⟨pIt hp k1 l1, g, d, tk, os⟩) k2 l2 ys := SeqIs.push hl2 _
    wp_walk using pyIter_sk hL1, pyIter_sk hL2
    exact ⟨_, rfl, h⟩

theorem typeCall_zip_3 (a b c : Value) : checkTypeCall "zip" ⟨[a, b, c], []⟩ = pure () := by kernel_rfl
theorem newCall_zip_3 (a b c : Value) : checkBuiltinCall "zip.__new__" ⟨[.type "zip", a, b, c], []⟩ = pure () := by kernel_rfl
theorem args_object_init_4 (a b c d : Value) : argsOk "object.__init__" ⟨[a, b, c, d], []⟩ := by
  unfold argsOk; rw [signature?_of (id := "object.__init__") (n := ['_', '_', 't', 'i', 'n', 'i', '_', '_']) (o := ['t', 'c', 'e', 'j', 'b', 'o']) (by kernel_rfl) F.owner_object]; kernel_rfl
abbrev z3I (h : Heap) (k1 k2 k3 : SK) (l1 l2 l3 : Addr) : Heap := pIt (pIt (pIt h k1 l1) k2 l2) k3 l3
abbrev z3T (h : Heap) (k1 k2 k3 : SK) (l1 l2 l3 : Addr) : Heap := pTu (z3I h k1 k2 k3 l1 l2 l3) #[.ref h.objs.size, .ref (pIt h k1 l1).objs.size, .ref (pIt (pIt h k1 l1) k2 l2).objs.size]
abbrev z3O (h : Heap) (k1 k2 k3 : SK) (l1 l2 l3 : Addr) : Heap := pTu (z3T h k1 k2 k3 l1 l2 l3) #[.none, .none, .none]
abbrev z3H (h : Heap) (k1 k2 k3 : SK) (l1 l2 l3 : Addr) : Heap := pZi (z3O h k1 k2 k3 l1 l2 l3) (z3I h k1 k2 k3 l1 l2 l3).objs.size (z3T h k1 k2 k3 l1 l2 l3).objs.size
theorem meets3 (k1 k2 k3 : SK) (l1 l2 l3 : Addr) (xs ys zs : Array Value) :
    Meets (Builtin.«zip.__new__» ⟨[.type "zip", .ref l1, .ref l2, .ref l3], []⟩) (fun _ R s => SeqIs s.heap k1 l1 xs ∧ SeqIs s.heap k2 l2 ys ∧ SeqIs s.heap k3 l3 zs ∧
      R (.ok (.ret (.ref (z3O s.heap k1 k2 k3 l1 l2 l3).objs.size))) { s with heap := z3H s.heap k1 k2 k3 l1 l2 l3 }) :=
  .of_wp fun prog w A R s h => by
    obtain ⟨hp, g, d, tk, os⟩ := s; obtain ⟨hl1, hl2, hl3, h⟩ := h
    have hsub := sub_zip
    have hL1 : SeqIs (Shared.heap ⟨hp, g, d, tk, os⟩) k1 l1 xs := hl1
    have hL2 : SeqIs (Shared.heap ⟨pIt hp k1 l1, g, d, tk, os⟩) k2 l2 ys := SeqIs.push hl2 _
    have hL3 : SeqIs (Shared.heap ⟨pIt (pIt hp k1 l1) k2 l2, g, d, tk, os⟩) k3 l3 zs := SeqIs.push (SeqIs.push hl3 _) _
    wp_walk using pyIter_sk hL1, pyIter_sk hL2, pyIter_sk hL3
    exact ⟨_, rfl, h⟩
section
variable {prog : Program} {w : World} {A : Around} {E : Value → Shared → Prop} {s : Shared}
theorem it0 {h : Heap} {k : SK} {it a : Addr} (e : h.get? it = some { cls := .type (itCls k), data := .fields #[.ref a, .int 0 0] }) : ItAt h k it a 0 := by
  cases k
  · exact ⟨_, e, rfl, rfl⟩
  · exact ⟨_, e, rfl, rfl⟩
theorem call2 {k1 k2 : SK} {l1 l2 : Addr} {xs ys : Array Value} {Q : Value → Shared → Prop} (hl1 : SeqIs s.heap k1 l1 xs) (hl2 : SeqIs s.heap k2 l2 ys)
    (h : ∀ h', IsZip h' (s.heap.objs.size + 4) (s.heap.objs.size + 2) (s.heap.objs.size + 3) .none → IsTupA h' (s.heap.objs.size + 2) #[.ref s.heap.objs.size, .ref (s.heap.objs.size + 1)] →
      IsTupA h' (s.heap.objs.size + 3) #[.none, .none] → ItAt h' k1 s.heap.objs.size l1 0 → ItAt h' k2 (s.heap.objs.size + 1) l2 0 →
      (∀ c o, s.heap.get? c = some o → h'.get? c = some o) → Q (.ref (s.heap.objs.size + 4)) { s with heap := h' }) :
    wpAny (model prog w) A (call (.type "zip") [.ref l1, .ref l2]) Q E s := by
  refine callType_new F.called_zip (by decide) (F.typeCall_zip_2 _ _) (F.newCall_zip_2 _ _) (fun obj => F.args_object_init_3 obj _ _) F.entry_zip_new
    (meets2 k1 k2 l1 l2 xs ys) ⟨hl1, hl2, ?_⟩
  have z1 : (pIt s.heap k1 l1).objs.size = s.heap.objs.size + 1 := Heap.size_push ..
  have z2 : (pIt (pIt s.heap k1 l1) k2 l2).objs.size = s.heap.objs.size + 2 := by rw [Heap.size_push, z1]
  have z3 : (pTu (pIt (pIt s.heap k1 l1) k2 l2) #[.ref s.heap.objs.size, .ref (pIt s.heap k1 l1).objs.size]).objs.size = s.heap.objs.size + 3 := by rw [Heap.size_push, z2]
  have z4 : z2A s.heap k1 k2 l1 l2 = s.heap.objs.size + 4 := by rw [z2A, Heap.size_push, z3]
  have g5 : (z2H s.heap k1 k2 l1 l2).get? (z2A s.heap k1 k2 l1 l2) = some _ := Heap.get?_push_size _ rfl
  have g4 : (z2H s.heap k1 k2 l1 l2).get? (pTu (pIt (pIt s.heap k1 l1) k2 l2) #[.ref s.heap.objs.size, .ref (pIt s.heap k1 l1).objs.size]).objs.size = some _ := Heap.get?_push_of_some _ (Heap.get?_push_size _ rfl)
  have g3 : (z2H s.heap k1 k2 l1 l2).get? (pIt (pIt s.heap k1 l1) k2 l2).objs.size = some _ := Heap.get?_push_of_some _ (Heap.get?_push_of_some _ (Heap.get?_push_size _ rfl))
  have g2 : (z2H s.heap k1 k2 l1 l2).get? (pIt s.heap k1 l1).objs.size = some _ := Heap.get?_push_of_some _ (Heap.get?_push_of_some _ (Heap.get?_push_of_some _ (Heap.get?_push_size _ rfl)))
  have g1 : (z2H s.heap k1 k2 l1 l2).get? s.heap.objs.size = some _ := Heap.get?_push_of_some _ (Heap.get?_push_of_some _ (Heap.get?_push_of_some _ (Heap.get?_push_of_some _ (Heap.get?_push_size _ rfl))))
  show _ ∧ _
  rw [z2, z3, z4] at g5
  rw [z1, z2] at g3
  rw [z3] at g4
  rw [z1] at g2
  rw [z4]
  exact ⟨⟨_, g5, rfl⟩, h _ g5 g3 g4 (it0 g1) (it0 g2) fun c o x =>
    Heap.get?_push_of_some _ (Heap.get?_push_of_some _ (Heap.get?_push_of_some _ (Heap.get?_push_of_some _ (Heap.get?_push_of_some _ x))))⟩
theorem call3 {k1 k2 k3 : SK} {l1 l2 l3 : Addr} {xs ys zs : Array Value} {Q : Value → Shared → Prop} (hl1 : SeqIs s.heap k1 l1 xs) (hl2 : SeqIs s.heap k2 l2 ys) (hl3 : SeqIs s.heap k3 l3 zs)
    (h : ∀ h', IsZip h' (s.heap.objs.size + 5) (s.heap.objs.size + 3) (s.heap.objs.size + 4) .none → IsTupA h' (s.heap.objs.size + 3) #[.ref s.heap.objs.size, .ref (s.heap.objs.size + 1), .ref (s.heap.objs.size + 2)] →
      IsTupA h' (s.heap.objs.size + 4) #[.none, .none, .none] → ItAt h' k1 s.heap.objs.size l1 0 → ItAt h' k2 (s.heap.objs.size + 1) l2 0 → ItAt h' k3 (s.heap.objs.size + 2) l3 0 →
      (∀ c o, s.heap.get? c = some o → h'.get? c = some o) → Q (.ref (s.heap.objs.size + 5)) { s with heap := h' }) :
    wpAny (model prog w) A (call (.type "zip") [.ref l1, .ref l2, .ref l3]) Q E s := by
  refine callType_new F.called_zip (by decide) (typeCall_zip_3 _ _ _) (newCall_zip_3 _ _ _) (fun obj => args_object_init_4 obj _ _ _) F.entry_zip_new
    (meets3 k1 k2 k3 l1 l2 l3 xs ys zs) ⟨hl1, hl2, hl3, ?_⟩
  have z1 : (pIt s.heap k1 l1).objs.size = s.heap.objs.size + 1 := Heap.size_push ..
  have z2 : (pIt (pIt s.heap k1 l1) k2 l2).objs.size = s.heap.objs.size + 2 := by rw [Heap.size_push, z1]
  have z3 : (z3I s.heap k1 k2 k3 l1 l2 l3).objs.size = s.heap.objs.size + 3 := by rw [Heap.size_push, z2]
  have z4 : (z3T s.heap k1 k2 k3 l1 l2 l3).objs.size = s.heap.objs.size + 4 := by rw [Heap.size_push, z3]
  have z5 : (z3O s.heap k1 k2 k3 l1 l2 l3).objs.size = s.heap.objs.size + 5 := by rw [Heap.size_push, z4]
  have g6 : (z3H s.heap k1 k2 k3 l1 l2 l3).get? (z3O s.heap k1 k2 k3 l1 l2 l3).objs.size = some _ := Heap.get?_push_size _ rfl
  have g5 : (z3H s.heap k1 k2 k3 l1 l2 l3).get? (z3T s.heap k1 k2 k3 l1 l2 l3).objs.size = some _ := Heap.get?_push_of_some _ (Heap.get?_push_size _ rfl)
  have g4 : (z3H s.heap k1 k2 k3 l1 l2 l3).get? (z3I s.heap k1 k2 k3 l1 l2 l3).objs.size = some _ := Heap.get?_push_of_some _ (Heap.get?_push_of_some _ (Heap.get?_push_size _ rfl))
  have g3 : (z3H s.heap k1 k2 k3 l1 l2 l3).get? (pIt (pIt s.heap k1 l1) k2 l2).objs.size = some _ := Heap.get?_push_of_some _ (Heap.get?_push_of_some _ (Heap.get?_push_of_some _ (Heap.get?_push_size _ rfl)))
  have g2 : (z3H s.heap k1 k2 k3 l1 l2 l3).get? (pIt s.heap k1 l1).objs.size = some _ := Heap.get?_push_of_some _ (Heap.get?_push_of_some _ (Heap.get?_push_of_some _ (Heap.get?_push_of_some _ (Heap.get?_push_size _ rfl))))
  have g1 : (z3H s.heap k1 k2 k3 l1 l2 l3).get? s.heap.objs.size = some _ := Heap.get?_push_of_some _ (Heap.get?_push_of_some _ (Heap.get?_push_of_some _ (Heap.get?_push_of_some _ (Heap.get?_push_of_some _ (Heap.get?_push_size _ rfl)))))
  show _ ∧ _
  rw [z3, z4, z5] at g6
  rw [z4] at g5
  rw [z1, z2, z3] at g4
  rw [z2] at g3
  rw [z1] at g2
  rw [z5]
  exact ⟨⟨_, g6, rfl⟩, h _ g6 g4 g5 (it0 g1) (it0 g2) (it0 g3) fun c o x =>
    Heap.get?_push_of_some _ (Heap.get?_push_of_some _ (Heap.get?_push_of_some _ (Heap.get?_push_of_some _ (Heap.get?_push_of_some _ (Heap.get?_push_of_some _ x)))))⟩
end
end ZN

/-! DenZ4: zip(a, b), zip(a, b, c) in a loop's head. -/
namespace ZN
open PySem PySem.Spec PyProof.Rows L2 RZ
theorem apart2 (k1 k2 : SK) (n a b : Nat) (ha : a < n) (hb : b < n) : ApartT (n + 4) (n + 2) (n + 3) [(k1, n, a), (k2, n + 1, b)] := by
  refine ⟨?_, fun c hc => ?_⟩
  · show [n + 4, n + 2, n + 3, n, n + 1].Nodup
    simp only [List.nodup_cons, List.mem_cons, List.not_mem_nil, not_or, or_false, not_false_eq_true, List.nodup_nil, and_true]; omega
  · simp only [List.mem_cons, List.not_mem_nil, or_false] at hc
    rcases hc with rfl | rfl
    · show a ∉ [n + 4, n + 2, n + 3, n, n + 1]
      simp only [List.mem_cons, List.not_mem_nil, not_or, or_false]; omega
    · show b ∉ [n + 4, n + 2, n + 3, n, n + 1]
      simp only [List.mem_cons, List.not_mem_nil, not_or, or_false]; omega
theorem apart3 (k1 k2 k3 : SK) (n a b c : Nat) (ha : a < n) (hb : b < n) (hc : c < n) : ApartT (n + 5) (n + 3) (n + 4) [(k1, n, a), (k2, n + 1, b), (k3, n + 2, c)] := by
  refine ⟨?_, fun d hd => ?_⟩
  · show [n + 5, n + 3, n + 4, n, n + 1, n + 2].Nodup
    simp only [List.nodup_cons, List.mem_cons, List.not_mem_nil, not_or, or_false, not_false_eq_true, List.nodup_nil, and_true]; omega
  · simp only [List.mem_cons, List.not_mem_nil, or_false] at hd
    rcases hd with rfl | rfl | rfl
    · show a ∉ [n + 5, n + 3, n + 4, n, n + 1, n + 2]
      simp only [List.mem_cons, List.not_mem_nil, not_or, or_false]; omega
    · show b ∉ [n + 5, n + 3, n + 4, n, n + 1, n + 2]
      simp only [List.mem_cons, List.not_mem_nil, not_or, or_false]; omega
    · show c ∉ [n + 5, n + 3, n + 4, n, n + 1, n + 2]
      simp only [List.mem_cons, List.not_mem_nil, not_or, or_false]; omega
theorem ge2 (n c : Nat) (h : c ∈ [n + 4, n + 2, n + 3, n, n + 1]) : n ≤ c := by simp only [List.mem_cons, List.not_mem_nil, or_false] at h; omega
theorem ge3 (n c : Nat) (h : c ∈ [n + 5, n + 3, n + 4, n, n + 1, n + 2]) : n ≤ c := by simp only [List.mem_cons, List.not_mem_nil, or_false] at h; omega
def iZ2 (K : PySem.W.Frag) (ta : TA) : TI := fun σ H R => ta σ H fun vs H1 => ∃ k1 k2 a b xs ys, vs = [.ref a, .ref b] ∧ SqK K H1 k1 a xs ∧ SqK K H1 k2 b ys ∧ R (ItN K [(k1, a), (k2, b)]) H1
def iZ3 (K : PySem.W.Frag) (ta : TA) : TI := fun σ H R => ta σ H fun vs H1 => ∃ k1 k2 k3 a b c xs ys zs, vs = [.ref a, .ref b, .ref c] ∧ SqK K H1 k1 a xs ∧ SqK K H1 k2 b ys ∧ SqK K H1 k3 c zs ∧ R (ItN K [(k1, a), (k2, b), (k3, c)]) H1
theorem pi_zip2 {X : Cx} {e e2 : Expr} {ta : TA} {p pos tpos : Pos} {elts : List Expr} {kk : Nat} (hg : Gl X "zip") (hm : X.mg "zip" = none) (ha : PA X [e, e2] ta)
    (hs : starEach [e, e2] X.env = (false, eval e X.env) :: starEach [e2] X.env := by rfl) (hpl : (backTo pos (starEach [e2] X.env)).any (·.1) = false := by rfl) :
    PI X (.Tuple elts kk tpos) (.Call (.Name "zip" p) [e, e2] [] pos) (iZ2 X.K ta) := by
  refine ⟨fun pins s σ H R I h => ?_⟩
  refine Call_ (ld_blt I hg hm PyProof.Rows.boot_zip (PyProof.Rows.callWith_type1 (thn (ha.run pos pins s σ H _ I h) fun us s1 ⟨vs, H1, I1, r1, q1⟩ => ?_) hs hpl))
  obtain ⟨k1, k2, a, b, xs, ys, ex, qx, qy, q⟩ := q1
  subst ex
  cases r1 with
  | cons r rr =>
    cases rr with
    | cons r' rr =>
      cases rr
      cases r
      cases r'
      obtain ⟨its, rv, p1⟩ := qx.inv I1
      obtain ⟨its2, rv2, p2⟩ := qy.inv I1
      have la := p1.lt
      have lb := p2.lt
      refine call2 p1 p2 fun h' hz hTI hTO h1 h2 hk => wpAny_pyIter_zip hz ?_
      have I2 : Inv X pins σ H1 { s1 with heap := h' } := I1.kept (t' := s1.toks) hk
      refine ⟨s1.heap.objs.size + 4, _, _, _, H1, rfl, I2, turn_zipN (ts := [(k1, s1.heap.objs.size, a), (k2, s1.heap.objs.size + 1, b)]) (apart2 _ _ _ _ _ la lb) (by simp) (by show 2 ≤ sizeLine; decide), ⟨hz, hTI, ⟨_, hTO, rfl⟩, fun c hc => ?_⟩, fun c hc => ?_, q⟩
      · simp only [List.mem_cons, List.not_mem_nil, or_false] at hc
        rcases hc with rfl | rfl
        · exact h1
        · exact h2
      · have hle : s1.heap.objs.size ≤ c := ge2 _ _ hc
        exact I1.fpOk hle (I1.hok.fresh hle)
theorem pi_zip3 {X : Cx} {e e2 e3 : Expr} {ta : TA} {p pos tpos : Pos} {elts : List Expr} {kk : Nat} (hg : Gl X "zip") (hm : X.mg "zip" = none) (ha : PA X [e, e2, e3] ta)
    (hs : starEach [e, e2, e3] X.env = (false, eval e X.env) :: starEach [e2, e3] X.env := by rfl) (hpl : (backTo pos (starEach [e2, e3] X.env)).any (·.1) = false := by rfl) :
    PI X (.Tuple elts kk tpos) (.Call (.Name "zip" p) [e, e2, e3] [] pos) (iZ3 X.K ta) := by
  refine ⟨fun pins s σ H R I h => ?_⟩
  refine Call_ (ld_blt I hg hm PyProof.Rows.boot_zip (PyProof.Rows.callWith_type1 (thn (ha.run pos pins s σ H _ I h) fun us s1 ⟨vs, H1, I1, r1, q1⟩ => ?_) hs hpl))
  obtain ⟨k1, k2, k3, a, b, c, xs, ys, zs, ex, qx, qy, qz, q⟩ := q1
  subst ex
  cases r1 with
  | cons r rr =>
    cases rr with
    | cons r' rr =>
      cases rr with
      | cons r'' rr =>
        cases rr
        cases r
        cases r'
        cases r''
        obtain ⟨its, rv, p1⟩ := qx.inv I1
        obtain ⟨its2, rv2, p2⟩ := qy.inv I1
        obtain ⟨its3, rv3, p3⟩ := qz.inv I1
        have la := p1.lt
        have lb := p2.lt
        have lc := p3.lt
        refine call3 p1 p2 p3 fun h' hz hTI hTO h1 h2 h3 hk => wpAny_pyIter_zip hz ?_
        have I2 : Inv X pins σ H1 { s1 with heap := h' } := I1.kept (t' := s1.toks) hk
        refine ⟨s1.heap.objs.size + 5, _, _, _, H1, rfl, I2, turn_zipN (ts := [(k1, s1.heap.objs.size, a), (k2, s1.heap.objs.size + 1, b), (k3, s1.heap.objs.size + 2, c)]) (apart3 _ _ _ _ _ _ _ la lb lc) (by simp) (by show 3 ≤ sizeLine; decide), ⟨hz, hTI, ⟨_, hTO, rfl⟩, fun c hc => ?_⟩, fun c hc => ?_, q⟩
        · simp only [List.mem_cons, List.not_mem_nil, or_false] at hc
          rcases hc with rfl | rfl | rfl
          · exact h1
          · exact h2
          · exact h3
        · have hle : s1.heap.objs.size ≤ c := ge3 _ _ hc
          exact I1.fpOk hle (I1.hok.fresh hle)
end ZN

/-! DenZ5: enumerate of whatever is walked by an iterator. -/
namespace ZN
open PySem PySem.Spec PyProof.Rows L2 RZ
open PySem.Sem (wp)
section
variable {prog : Program} {w : World} {A : Around} {E : Value → Shared → Prop} {s : Shared}
theorem enumG_item {e it : Addr} {i : Nat} {old : Value} {ItS : Heap → Prop} {P : Value → Prop} {Q : Value → Shared → Prop}
    (hI : ∀ h h', ItS h → (∀ o, h.get? it = some o → h'.get? it = some o) → ItS h')
    (hn : ∀ (Q : Value → Shared → Prop), (∀ h' tk' u, ItS h' → Heap.SameBut it s.heap h' → P u → Q u { s with heap := h', toks := tk' }) → wpAny (model prog w) A (Builtin.SmallTypes.nextOf (.ref it)) Q E s)
    (he : IsEnum s.heap e it i old) (hne : e ≠ it)
    (hQ : ∀ h' tk tk' x, P x → IsEnumOut h' e it ((i : Int) + 1) x s.heap.objs.size → ItS h' →
      h'.get? s.heap.objs.size = some { cls := .type "tuple", data := .seq #[.int i tk, x] } → h'.objs.size = s.heap.objs.size + 1 →
      (∀ b o, b ≠ e → b ≠ it → s.heap.get? b = some o → h'.get? b = some o) → Q (.ref s.heap.objs.size) { s with heap := h', toks := tk' }) :
    wpAny (model prog w) A (Builtin.«enumerate.__next__» ⟨[.ref e], []⟩) (fun fin s' => ∃ v, fin = .done (.ret v) ∧ Q v s') E s := by
  obtain ⟨hp, g, d, tk0, os⟩ := s
  show wpAny _ _ (field (.ref e) 2 >>= _) _ _ _
  refine wpAny_bind (wpAny_field he rfl (x := .ref it) rfl ?_)
  refine wpAny_bind (hn _ fun h₁ tk x hit₁ hs₁ px => ?_)
  replace hs₁ : Heap.SameBut it hp h₁ := hs₁
  have he₁ : IsEnum h₁ e it i old := (hs₁.2 e hne).trans he
  show wpAny _ _ (field (.ref e) 3 >>= _) _ _ ⟨h₁, g, d, tk, os⟩
  refine wpAny_bind (wpAny_field he₁ rfl (x := rawInt i) rfl ?_)
  show wpAny _ _ (field (.ref e) 4 >>= _) _ _ ⟨h₁, g, d, tk, os⟩
  refine wpAny_bind (wpAny_field he₁ rfl (x := .none) rfl ?_)
  show wpAny _ _ (mkInt i >>= _) _ _ ⟨h₁, g, d, tk, os⟩
  refine wpAny_bind (wpAny_mkInt ?_)
  show wpAny _ _ (setField (.ref e) 3 (rawInt ((i : Int) + 1)) >>= _) _ _ ⟨h₁, g, d, tk + 1, os⟩
  refine wpAny_bind (wpAny_setField_rec he₁ (by simp) fun h₂ he₂ hs₂ => ?_)
  replace hs₂ : Heap.SameBut e h₁ h₂ := hs₂
  replace he₂ : IsEnum h₂ e it ((i : Int) + 1) old := he₂
  show wpAny _ _ (setField (.ref e) 4 .none >>= _) _ _ ⟨h₂, g, d, tk + 1, os⟩
  refine wpAny_bind (wpAny_setField_rec he₂ (by simp) fun h₃ he₃ hs₃ => ?_)
  replace hs₃ : Heap.SameBut e h₂ h₃ := hs₃
  replace he₃ : IsEnum h₃ e it ((i : Int) + 1) old := he₃
  show wpAny _ _ (newTuple [.int i tk, x] >>= _) _ _ ⟨h₃, g, d, tk + 1, os⟩
  refine wpAny_bind (wpAny_newTuple ?_)
  have he₄ : IsEnum (h₃.push { cls := .type "tuple", data := .seq #[.int i tk, x] }) e it ((i : Int) + 1) old := Heap.get?_push_of_some _ he₃
  generalize hh₄ : h₃.push { cls := .type "tuple", data := .seq #[.int i tk, x] } = h₄ at he₄
  have hsz : h₃.objs.size = hp.objs.size := by rw [hs₃.1, hs₂.1, hs₁.1]
  have hel : e < hp.objs.size := Heap.lt_size he
  have ht₄ : h₄.get? hp.objs.size = some { cls := .type "tuple", data := .seq #[.int i tk, x] } := by rw [← hh₄, ← hsz]; exact Heap.get?_push_size _ rfl
  have hz₄ : h₄.objs.size = hp.objs.size + 1 := by rw [← hh₄, Heap.size_push, hsz]
  have hk₄ : ∀ b o, b ≠ e → b ≠ it → hp.get? b = some o → h₄.get? b = some o := fun b o hbe hbi hb => by
    rw [← hh₄]; exact Heap.get?_push_of_some _ (hs₃.extBut b o hbe (hs₂.extBut b o hbe (hs₁.extBut b o hbi hb)))
  have hit₄ : ItS h₄ := hI _ _ hit₁ fun o q => by
    rw [← hh₄]; exact Heap.get?_push_of_some _ (hs₃.extBut it o (Ne.symm hne) (hs₂.extBut it o (Ne.symm hne) q))
  show wpAny _ _ (Builtin.SmallTypes.ownedTupleIsFree (.ref e) >>= _) _ _ ⟨h₄, g, d, tk + 1, os⟩
  rw [hsz]
  clear hh₄ he₃ hs₃ he₂ hs₂ he₁ hs₁ hit₁ hsz h₃ h₂ h₁
  refine wpAny_bind ?_
  · unfold Builtin.SmallTypes.ownedTupleIsFree
    refine wpAny_bind (wpAny_field he₄ rfl (x := .none) rfl (wpAny_pure ?_))
    simp only [if_true]
    refine wpAny_bind (wpAny_rule ?_)
    refine wpAny_bind (wpAny_field he₄ rfl (x := old) rfl ?_)
    refine wpAny_bind (wpAny_setField_rec he₄ (by simp) fun h₅ he₅ hs₅ => ?_)
    replace hs₅ : Heap.SameBut e h₄ h₅ := hs₅
    replace he₅ : IsEnum h₅ e it ((i : Int) + 1) x := he₅
    show wpAny _ _ (Builtin.SmallTypes.ownedTupleHandOut (.ref e) (.ref hp.objs.size) >>= _) _ _ ⟨h₅, g, d, tk + 1, os⟩
    refine wpAny_bind ?_
    · unfold Builtin.SmallTypes.ownedTupleHandOut
      refine wpAny_bind (wpAny_setField_rec he₅ (by simp) fun h₆ he₆ hs₆ => ?_)
      replace hs₆ : Heap.SameBut e h₅ h₆ := hs₆
      replace he₆ : IsEnumOut h₆ e it ((i : Int) + 1) x hp.objs.size := he₆
      refine wpAny_setField_rec he₆ (by simp) fun h₇ he₇ hs₇ => ?_
      replace hs₇ : Heap.SameBut e h₆ h₇ := hs₇
      replace he₇ : IsEnumOut h₇ e it ((i : Int) + 1) x hp.objs.size := he₇
      refine wpAny_bind (wpAny_letGo (wpAny_pure ⟨_, rfl, hQ h₇ tk _ x px he₇ ?_ ?_ ?_ ?_⟩))
      · exact hI _ _ hit₄ fun o q => hs₇.extBut _ _ (Ne.symm hne) (hs₆.extBut _ _ (Ne.symm hne) (hs₅.extBut _ _ (Ne.symm hne) q))
      · exact hs₇.extBut _ _ (Nat.ne_of_gt hel) (hs₆.extBut _ _ (Nat.ne_of_gt hel) (hs₅.extBut _ _ (Nat.ne_of_gt hel) ht₄))
      · rw [hs₇.1, hs₆.1, hs₅.1, hz₄]
      · exact fun b o hbe hbi hb => hs₇.extBut b o hbe (hs₆.extBut b o hbe (hs₅.extBut b o hbe (hk₄ b o hbe hbi hb)))
theorem pyNext_enumG_item {e it : Addr} {i : Nat} {old : Value} {ItS : Heap → Prop} {P : Value → Prop} {Q : Option Value → Shared → Prop}
    (hI : ∀ h h', ItS h → (∀ o, h.get? it = some o → h'.get? it = some o) → ItS h')
    (hn : ∀ (A : Around) (E : Value → Shared → Prop) (Q : Value → Shared → Prop), (∀ h' tk' u, ItS h' → Heap.SameBut it s.heap h' → P u → Q u { s with heap := h', toks := tk' }) → wpAny (model prog w) A (Builtin.SmallTypes.nextOf (.ref it)) Q E s)
    (he : IsEnum s.heap e it i old) (hne : e ≠ it)
    (hQ : ∀ h' tk tk' x, P x → IsEnumOut h' e it ((i : Int) + 1) x s.heap.objs.size → ItS h' →
      h'.get? s.heap.objs.size = some { cls := .type "tuple", data := .seq #[.int i tk, x] } → h'.objs.size = s.heap.objs.size + 1 →
      (∀ b o, b ≠ e → b ≠ it → s.heap.get? b = some o → h'.get? b = some o) → Q (some (.ref s.heap.objs.size)) { s with heap := h', toks := tk' }) :
    wpAny (model prog w) A (pyNext (.ref e)) Q E s := by
  have hT : s.TypeIs (.ref e) "enumerate" := ⟨_, he, rfl⟩
  unfold pyNext
  exact wpAny_bind (wpAny_attempt (wpAny_callSpecial?_slot (name := Str.ofString "__next__") hT F.slot_enumerate_next
    (wpAny_call_entry F.slot_enumerate_next hT F.entry_enumerate_next
      (enumG_item hI (hn _ _) he hne fun h' tk tk' x a b c d k l => wpAny_pure (hQ h' tk tk' x a b c d k l)) (F.args_enumerate_next_1 _))))
theorem pyNext_enumG_end {e it : Addr} {i : Nat} {old : Value} {Q : Option Value → Shared → Prop}
    (hn : ∀ (A' : Around) (E : Value → Shared → Prop) (Q : Value → Shared → Prop), A'.handled = A.handled → (∀ h' e, Heap.ExtBut it s.heap h' → (∃ o, h'.get? e = some o ∧ o.cls = .type "StopIteration") → E (.ref e) { s with heap := h' }) → wpAny (model prog w) A' (Builtin.SmallTypes.nextOf (.ref it)) Q E s)
    (he : IsEnum s.heap e it i old)
    (hQ : ∀ h', Heap.ExtBut it s.heap h' → Q none { s with heap := h' }) :
    wpAny (model prog w) A (pyNext (.ref e)) Q E s := by
  have hT : s.TypeIs (.ref e) "enumerate" := ⟨_, he, rfl⟩
  unfold pyNext
  refine wpAny_bind (wpAny_attempt (wpAny_callSpecial?_slot (name := Str.ofString "__next__") hT F.slot_enumerate_next
    (wpAny_call_entry F.slot_enumerate_next hT F.entry_enumerate_next ?_ (F.args_enumerate_next_1 _))))
  show wpAny _ _ (field (.ref e) 2 >>= _) _ _ _
  refine wpAny_bind (wpAny_field he rfl (x := .ref it) rfl ?_)
  refine wpAny_bind (hn _ _ _ rfl fun h' x he' hx' => ?_)
  obtain ⟨o, ho, hc⟩ := hx'
  refine wpAny_bind (wpAny_isInstance (T := "StopIteration") (b := true) ⟨o, ho, hc⟩ isSubtype_stop ?_)
  exact wpAny_pure (hQ _ he')
end
end ZN

/-! DenZ6: enumerate(tuple), enumerate(text). -/
namespace ZN
open PySem PySem.Spec PyProof.Rows L2 RZ
open PySem.Sem (wp)
open AutoSeq1 (wpAny_loadPart')
theorem meets_enumT (l : Addr) (items : Array Value) (n : Nat) (dct : Option Addr) (sl : Array (Option Value)) :
    Meets (Builtin.«enumerate.__new__» ⟨[.type "enumerate", .ref l], []⟩) (fun _ R s => s.heap.get? l = some { cls := .type "tuple", dict := dct, data := .seq items n, slots := sl } ∧
      R (.ok (.ret (.ref (pIt s.heap .t l).objs.size)))
        { s with heap := (pIt s.heap .t l).push { cls := .type "enumerate", data := .fields #[.none, .bool false, .ref s.heap.objs.size, rawInt 0, .none, .none] } }) :=
  .of_wp fun prog w A R s h => by
    obtain ⟨hp, g, d, tk, os⟩ := s; obtain ⟨hl, h⟩ := h
    have hsub := sub_enumerate
    have hL : Heap.IsTuple (Shared.heap ⟨hp, g, d, tk, os⟩) l items := ⟨_, hl, rfl, n, rfl⟩
    wp_walk using wpAny_loadPart' hl
    refine wpAny_stack_any fun st => wpAny_pure ?_
    split
    · rename_i c _ _ _ _ _
      cases (c == Value.type "enumerate")
      · wp_walk using wpAny_loadPart' hl, wpAny_pyIter_tuple hL
        exact ⟨_, rfl, h⟩
      · wp_walk using wpAny_loadPart' hl, wpAny_pyIter_tuple hL
        exact ⟨_, rfl, h⟩
    · wp_walk using wpAny_loadPart' hl, wpAny_pyIter_tuple hL
      exact ⟨_, rfl, h⟩
section
variable {prog : Program} {w : World} {A : Around} {E : Value → Shared → Prop} {s : Shared}
theorem call_enumT {l : Addr} {items : Array Value} {Q : Value → Shared → Prop} (hL : s.heap.IsTuple l items)
    (h : ∀ h', IsEnum h' (s.heap.objs.size + 1) s.heap.objs.size 0 .none → h'.IsTupleIter s.heap.objs.size l 0 → h'.objs.size = s.heap.objs.size + 2 →
      (∀ b o, s.heap.get? b = some o → h'.get? b = some o) → Q (.ref (s.heap.objs.size + 1)) { s with heap := h' }) :
    wpAny (model prog w) A (call (.type "enumerate") [.ref l]) Q E s := by
  obtain ⟨⟨c, dct, dt, sl⟩, hl, hc, n, hd⟩ := hL
  replace hc : c = .type "tuple" := hc
  replace hd : dt = .seq items n := hd
  subst hc hd
  refine callType_new F.called_enumerate (by decide) (F.typeCall_enumerate_1 _) (F.newCall_enumerate_1 _) (fun obj => F.args_object_init_2 obj _) F.entry_enumerate_new
    (meets_enumT l items n dct sl) ⟨hl, ?_⟩
  have hz : (pIt s.heap .t l).objs.size = s.heap.objs.size + 1 := Heap.size_push ..
  show _ ∧ _
  rw [hz]
  have he : IsEnum ((pIt s.heap .t l).push { cls := .type "enumerate", data := .fields #[.none, .bool false, .ref s.heap.objs.size, rawInt 0, .none, .none] }) (s.heap.objs.size + 1) s.heap.objs.size 0 .none := by
    have := Heap.get?_push_size (pIt s.heap .t l) (o := { cls := .type "enumerate", data := .fields #[.none, .bool false, .ref s.heap.objs.size, rawInt 0, .none, .none] }) rfl
    rw [hz] at this; exact this
  refine ⟨⟨_, he, rfl⟩, h _ he ⟨_, Heap.get?_push_of_some _ (Heap.get?_push_size _ rfl), rfl, rfl⟩ (by rw [Heap.size_push, hz]) fun b o x => Heap.get?_push_of_some _ (Heap.get?_push_of_some _ x)⟩
end
/-- the tuple at a, each item in a new pair -/
def IteT (K : PySem.W.Frag) (a : Addr) : It :=
  ⟨fun i H => ∃ (xs : List V) (x : V), SqT K H a xs ∧ xs[i]? = some x, fun i H v H' => ∃ T x, v = .ref T ∧ H T = none ∧ H' = upd H T (.tup [.int (i : Nat), x]) ∧ ∀ xs, SqT K H a xs → xs[i]? = some x, fun i H => ∃ xs : List V, SqT K H a xs ∧ xs.length ≤ i⟩
theorem turn_enumT {P : Program} {w : World} {K : PySem.W.Frag} {elts : List Expr} {kk : Nat} {tpos : Pos} (a e it : Addr) :
    Turn P w K (.Tuple elts kk tpos) (IteT K a) [e, it] e (fun i h => (∃ old, IsEnum h e it ((i : Nat) : Int) old) ∧ h.IsTupleIter it a i ∧ e ≠ it) where
  mem := by simp
  obj := fun i h st b hb => by
    obtain ⟨⟨old, he⟩, ⟨o, ho, hc, hd⟩, _⟩ := st
    have e' : b = e ∨ b = it := by simpa using hb
    rcases e' with z | z
    · rw [z]; exact ⟨_, he, fun v q => nomatch q⟩
    · rw [z]; exact ⟨o, ho, fun v q => by rw [hd] at q; cases q⟩
  keep := fun i h h' st k => let ⟨⟨old, he⟩, hi, hne⟩ := st; ⟨⟨old, k e (by simp) _ he⟩, hi.at fun o q => k it (by simp) o q, hne⟩
  item := by
    intro X hP hw hK hc i pins s σ H E I hf st hg
    subst hP hw hK
    obtain ⟨⟨old, he⟩, hit, hne⟩ := st
    obtain ⟨xs, x, hq, hx⟩ := hg
    obtain ⟨its, rv, p, hz⟩ := I.tuple hq
    obtain ⟨u, hu, ru⟩ := rv.get hx
    have hel : e < s.heap.objs.size := Heap.lt_size he
    have hil : it < s.heap.objs.size := by obtain ⟨_, q, _⟩ := hit; exact Heap.lt_size q
    refine pyNext_enumG_item (ItS := fun h => h.IsTupleIter it a (i + 1)) (P := fun x => x = u) (fun h h' q k => Heap.IsTupleIter.at q k) (fun A E Q k => nextOf_tuple_item hit p (x := u) (by simpa using hu) fun h' h1 h2 => k h' s.toks u h1 h2 rfl) he hne fun h' tk tk' x' ex ho hit' hT hsz hk => ?_
    subst ex
    refine ⟨_, rfl, wpAny_letOwnedTupleGo_enum (s := { s with heap := h', toks := tk' }) ho fun h'' he' sb => ?_⟩
    have hT2 : h''.get? s.heap.objs.size = some { cls := .type "tuple", data := .seq #[.int i tk, x'] } := (sb.2 _ (Nat.ne_of_gt hel)).trans hT
    have new : ObjOk X.prog X.w (upd H s.heap.objs.size (.tup [.int (i : Nat), x])) h'' s.heap.objs.size (.tup [.int (i : Nat), x]) :=
      ⟨by show 2 ≤ sizeLine; decide, [.int i tk, x'], .cons ⟨_, rfl⟩ (.cons ru .nil), ⟨_, hT2, rfl, _, rfl⟩⟩
    have I1 : Inv X pins σ (upd H s.heap.objs.size (.tup [.int (i : Nat), x])) { s with heap := h'', toks := tk' } :=
      I.turnedNew (ch := [e, it]) (fun b ob hb q => (sb.2 b (fun z => hb (by simp [z]))).trans (hk b ob (fun z => hb (by simp [z])) (fun z => hb (by simp [z])) q)) hf (Nat.le_refl _) new
    refine ⟨.ref s.heap.objs.size, _, I1, rfl, ⟨_, x, rfl, I.hok.fresh (Nat.le_refl _), rfl, fun ys hy => by rw [I.tuple_inj hy hq]; exact hx⟩, ⟨⟨x', ?_⟩, hit'.at fun o q => (sb.2 it (Ne.symm hne)).trans q, hne⟩, fun b hb => ?_⟩
    · have e1 : ((i + 1 : Nat) : Int) = (i : Int) + 1 := by omega
      rw [e1]; exact he'
    · have hb' : b < s.heap.objs.size := by
        have e' : b = e ∨ b = it := by simpa using hb
        rcases e' with z | z
        · rw [z]; exact hel
        · rw [z]; exact hil
      rw [upd_ne (Nat.ne_of_lt hb')]
      exact (hf b hb).1
  done := by
    intro X hP hw hK hc i pins s σ H E I hf st hg
    subst hP hw hK
    obtain ⟨⟨old, he⟩, hit, hne⟩ := st
    obtain ⟨xs, hq, hx⟩ := hg
    obtain ⟨its, rv, p, hz⟩ := I.tuple hq
    obtain ⟨f0, f1, f2, f3, f4, f5⟩ := hf it (by simp)
    have hl := rv.length
    exact pyNext_enumG_end (fun A' E Q hA k => nextOf_tuple_end (hA.trans (I.ok.hd hc)) hit p (by simp; omega) k) he fun h' eb => ⟨rfl, I.turned (t' := s.toks) (fun b o hb q => eb b o hb q) f0 f1 f3 f4 f5⟩
  self := fun A i s Q E st h => let ⟨⟨_, he⟩, _⟩ := st; wpAny_pyIter_enum he h
/-- enumerate(list) or enumerate(tuple) -/
def iEnumA (K : PySem.W.Frag) (ta : TA) : TI := fun σ H R => ta σ H fun vs H1 => ∃ a xs, vs = [.ref a] ∧ ((SqL K H1 a xs ∧ R (Ite K a) H1) ∨ (SqT K H1 a xs ∧ R (IteT K a) H1))
theorem pi_enumA {X : Cx} {e : Expr} {ta : TA} {p pos tpos : Pos} {elts : List Expr} {kk : Nat} (hg : Gl X "enumerate") (hm : X.mg "enumerate" = none) (ha : PA X [e] ta) (hs : starEach [e] X.env = [(false, eval e X.env)] := by rfl) :
    PI X (.Tuple elts kk tpos) (.Call (.Name "enumerate" p) [e] [] pos) (iEnumA X.K ta) := by
  refine ⟨fun pins s σ H R I h => ?_⟩
  refine Call_ (ld_blt I hg hm boot_enumerate (PyProof.Rows.callWith_type1 (thn (ha.run pos pins s σ H _ I h) fun us s1 ⟨vs, H1, I1, r1, q1⟩ => ?_) hs rfl))
  obtain ⟨a, xs, ex, q⟩ := q1
  subst ex
  cases r1 with
  | cons r rr =>
    cases rr
    cases r
    have fresh : ∀ b, b ∈ [s1.heap.objs.size + 1, s1.heap.objs.size] → FpOk X pins H1 b := fun b hb => by
      have e' : b = s1.heap.objs.size + 1 ∨ b = s1.heap.objs.size := by simpa using hb
      have hle : s1.heap.objs.size ≤ b := by
        rcases e' with z | z
        · rw [z]; exact Nat.le_add_right _ _
        · rw [z]; exact Nat.le_refl _
      exact I1.fpOk hle (I1.hok.fresh hle)
    rcases q with ⟨hq, q⟩ | ⟨hq, q⟩
    · obtain ⟨its, rv, p', hz⟩ := I1.list hq
      refine call_enumerate_list p'.isList fun h' he hit hsz hk => wpAny_pyIter_enum he ?_
      have I2 : Inv X pins σ H1 { s1 with heap := h' } := I1.kept (t' := s1.toks) hk
      exact ⟨s1.heap.objs.size + 1, [s1.heap.objs.size + 1, s1.heap.objs.size], _, _, H1, rfl, I2, turn_enum a (s1.heap.objs.size + 1) s1.heap.objs.size, ⟨⟨.none, he⟩, hit, Nat.succ_ne_self _⟩, fresh, q⟩
    · obtain ⟨its, rv, p', hz⟩ := I1.tuple hq
      refine call_enumT p' fun h' he hit hsz hk => wpAny_pyIter_enum he ?_
      have I2 : Inv X pins σ H1 { s1 with heap := h' } := I1.kept (t' := s1.toks) hk
      exact ⟨s1.heap.objs.size + 1, [s1.heap.objs.size + 1, s1.heap.objs.size], _, _, H1, rfl, I2, turn_enumT a (s1.heap.objs.size + 1) s1.heap.objs.size, ⟨⟨.none, he⟩, hit, Nat.succ_ne_self _⟩, fresh, q⟩
end ZN

/-! DenZ7: enumerate(text), text * int. -/
namespace ZN
open PySem PySem.Spec PyProof.Rows L2 RZ
/-- a text's signs, each in a new pair -/
def IteS (z : Str) : It :=
  ⟨fun i _ => i < z.cps.size, fun i H v H' => ∃ T c, v = .ref T ∧ H T = none ∧ z.cps[i]? = some c ∧ H' = upd H T (.tup [.int (i : Nat), .str ⟨#[c]⟩]), fun i _ => z.cps.size ≤ i⟩
theorem turn_enumS {P : Program} {w : World} {K : PySem.W.Frag} {elts : List Expr} {kk : Nat} {tpos : Pos} (z : Str) (t : Tok) (ty : String) (hty : ty = "str_ascii_iterator" ∨ ty = "str_iterator") (e it : Addr) :
    Turn P w K (.Tuple elts kk tpos) (IteS z) [e, it] e (fun i h => (∃ old, IsEnum h e it ((i : Nat) : Int) old) ∧ h.IsStrIter it ty z t i ∧ e ≠ it) where
  mem := by simp
  obj := fun i h st b hb => by
    obtain ⟨⟨old, he⟩, ⟨o, ho, hc, hd⟩, _⟩ := st
    have e' : b = e ∨ b = it := by simpa using hb
    rcases e' with q | q
    · rw [q]; exact ⟨_, he, fun v q => nomatch q⟩
    · rw [q]; exact ⟨o, ho, fun v q => by rw [hd] at q; cases q⟩
  keep := fun i h h' st k => let ⟨⟨old, he⟩, ⟨o, ho, r⟩, hne⟩ := st; ⟨⟨old, k e (by simp) _ he⟩, ⟨o, k it (by simp) o ho, r⟩, hne⟩
  item := by
    intro X hP hw hK hc i pins s σ H E I hf st hg
    subst hP hw hK
    obtain ⟨⟨old, he⟩, hit, hne⟩ := st
    have hx : z.cps[i]? = some z.cps[i] := Array.getElem?_eq_getElem hg
    have hel : e < s.heap.objs.size := Heap.lt_size he
    have hil : it < s.heap.objs.size := by obtain ⟨_, q, _⟩ := id hit; exact Heap.lt_size q
    have nx : ∀ (A : Around) (E : Value → Shared → Prop) (Q : Value → Shared → Prop), (∀ h' tk' u, h'.IsStrIter it ty z t (i + 1) → Heap.SameBut it s.heap h' → (∃ k, u = .str ⟨#[z.cps[i]]⟩ k) → Q u { s with heap := h', toks := tk' }) → wpAny (model X.prog X.w) A (Builtin.SmallTypes.nextOf (.ref it)) Q E s := fun A E Q k => by
      rcases hty with q | q
      · subst q; exact wpAny_nextOf_ascii_item hit hx fun h' h1 h2 => k h' (s.toks + 1) (.str ⟨#[z.cps[i]]⟩ s.toks) h1 h2 ⟨s.toks, rfl⟩
      · subst q; exact wpAny_nextOf_wide_item hit hx fun h' h1 h2 => k h' (s.toks + 1) (.str ⟨#[z.cps[i]]⟩ s.toks) h1 h2 ⟨s.toks, rfl⟩
    refine pyNext_enumG_item (ItS := fun h => h.IsStrIter it ty z t (i + 1)) (P := fun x => ∃ k, x = .str ⟨#[z.cps[i]]⟩ k) (fun h h' q k => let ⟨o, ho, r⟩ := q; ⟨o, k o ho, r⟩) nx he hne fun h' tk tk' x' ex ho hit' hT hsz hk => ?_
    obtain ⟨tz, rfl⟩ := ex
    refine ⟨_, rfl, wpAny_letOwnedTupleGo_enum (s := { s with heap := h', toks := tk' }) ho fun h'' he' sb => ?_⟩
    have hT2 : h''.get? s.heap.objs.size = some { cls := .type "tuple", data := .seq #[.int i tk, .str ⟨#[z.cps[i]]⟩ tz] } := (sb.2 _ (Nat.ne_of_gt hel)).trans hT
    have new : ObjOk X.prog X.w (upd H s.heap.objs.size (.tup [.int (i : Nat), .str ⟨#[z.cps[i]]⟩])) h'' s.heap.objs.size (.tup [.int (i : Nat), .str ⟨#[z.cps[i]]⟩]) :=
      ⟨by show 2 ≤ sizeLine; decide, [.int i tk, .str ⟨#[z.cps[i]]⟩ tz], .cons ⟨_, rfl⟩ (.cons ⟨_, rfl⟩ .nil), ⟨_, hT2, rfl, _, rfl⟩⟩
    have I1 : Inv X pins σ (upd H s.heap.objs.size (.tup [.int (i : Nat), .str ⟨#[z.cps[i]]⟩])) { s with heap := h'', toks := tk' } :=
      I.turnedNew (ch := [e, it]) (fun b ob hb q => (sb.2 b (fun y => hb (by simp [y]))).trans (hk b ob (fun y => hb (by simp [y])) (fun y => hb (by simp [y])) q)) hf (Nat.le_refl _) new
    refine ⟨.ref s.heap.objs.size, _, I1, rfl, ⟨s.heap.objs.size, z.cps[i], rfl, I.hok.fresh (Nat.le_refl _), hx, rfl⟩, ⟨⟨.str ⟨#[z.cps[i]]⟩ tz, ?_⟩, ?_, hne⟩, fun b hb => ?_⟩
    · have e1 : ((i + 1 : Nat) : Int) = (i : Int) + 1 := by omega
      rw [e1]; exact he'
    · obtain ⟨o, ho2, r⟩ := hit'
      exact ⟨o, (sb.2 it (Ne.symm hne)).trans ho2, r⟩
    · have hb' : b < s.heap.objs.size := by
        have e' : b = e ∨ b = it := by simpa using hb
        rcases e' with q | q
        · rw [q]; exact hel
        · rw [q]; exact hil
      rw [upd_ne (Nat.ne_of_lt hb')]
      exact (hf b hb).1
  done := by
    intro X hP hw hK hc i pins s σ H E I hf st hg
    subst hP hw hK
    obtain ⟨⟨old, he⟩, hit, hne⟩ := st
    obtain ⟨f0, f1, f2, f3, f4, f5⟩ := hf it (by simp)
    have hx : z.cps[i]? = none := Array.getElem?_eq_none hg
    refine pyNext_enumG_end (fun A' E Q hA k => ?_) he fun h' eb => ⟨rfl, I.turned (t' := s.toks) (fun b o hb q => eb b o hb q) f0 f1 f3 f4 f5⟩
    rcases hty with q | q
    · subst q; exact wpAny_nextOf_ascii_end (hA.trans (I.ok.hd hc)) hit hx k
    · subst q; exact wpAny_nextOf_wide_end (hA.trans (I.ok.hd hc)) hit hx k
  self := fun A i s Q E st h => let ⟨⟨_, he⟩, _⟩ := st; wpAny_pyIter_enum he h
/-- enumerate of a list, a tuple or a text -/
def iEnumB (K : PySem.W.Frag) (ta : TA) : TI := fun σ H R => ta σ H fun vs H1 => (∃ a xs, vs = [.ref a] ∧ ((SqL K H1 a xs ∧ R (Ite K a) H1) ∨ (SqT K H1 a xs ∧ R (IteT K a) H1))) ∨ ∃ z, vs = [.str z] ∧ R (IteS z) H1
theorem pi_enumB {X : Cx} {e : Expr} {ta : TA} {p pos tpos : Pos} {elts : List Expr} {kk : Nat} (hg : Gl X "enumerate") (hm : X.mg "enumerate" = none) (ha : PA X [e] ta) (hs : starEach [e] X.env = [(false, eval e X.env)] := by rfl) :
    PI X (.Tuple elts kk tpos) (.Call (.Name "enumerate" p) [e] [] pos) (iEnumB X.K ta) := by
  refine ⟨fun pins s σ H R I h => ?_⟩
  refine Call_ (ld_blt I hg hm boot_enumerate (PyProof.Rows.callWith_type1 (thn (ha.run pos pins s σ H _ I h) fun us s1 ⟨vs, H1, I1, r1, q1⟩ => ?_) hs rfl))
  have fresh : ∀ b, b ∈ [s1.heap.objs.size + 1, s1.heap.objs.size] → FpOk X pins H1 b := fun b hb => by
    have e' : b = s1.heap.objs.size + 1 ∨ b = s1.heap.objs.size := by simpa using hb
    have hle : s1.heap.objs.size ≤ b := by
      rcases e' with z | z
      · rw [z]; exact Nat.le_add_right _ _
      · rw [z]; exact Nat.le_refl _
    exact I1.fpOk hle (I1.hok.fresh hle)
  rcases q1 with ⟨a, xs, ex, q⟩ | ⟨z, ex, q⟩
  · subst ex
    cases r1 with
    | cons r rr =>
      cases rr
      cases r
      rcases q with ⟨hq, q⟩ | ⟨hq, q⟩
      · obtain ⟨its, rv, p', hz⟩ := I1.list hq
        refine call_enumerate_list p'.isList fun h' he hit hsz hk => wpAny_pyIter_enum he ?_
        have I2 : Inv X pins σ H1 { s1 with heap := h' } := I1.kept (t' := s1.toks) hk
        exact ⟨s1.heap.objs.size + 1, [s1.heap.objs.size + 1, s1.heap.objs.size], _, _, H1, rfl, I2, turn_enum a (s1.heap.objs.size + 1) s1.heap.objs.size, ⟨⟨.none, he⟩, hit, Nat.succ_ne_self _⟩, fresh, q⟩
      · obtain ⟨its, rv, p', hz⟩ := I1.tuple hq
        refine call_enumT p' fun h' he hit hsz hk => wpAny_pyIter_enum he ?_
        have I2 : Inv X pins σ H1 { s1 with heap := h' } := I1.kept (t' := s1.toks) hk
        exact ⟨s1.heap.objs.size + 1, [s1.heap.objs.size + 1, s1.heap.objs.size], _, _, H1, rfl, I2, turn_enumT a (s1.heap.objs.size + 1) s1.heap.objs.size, ⟨⟨.none, he⟩, hit, Nat.succ_ne_self _⟩, fresh, q⟩
  · subst ex
    cases r1 with
    | cons r rr =>
      cases rr
      obtain ⟨t, rfl⟩ := r
      refine call_enumerate_str fun h' he hit hsz hk => wpAny_pyIter_enum he ?_
      have I2 : Inv X pins σ H1 { s1 with heap := h' } := I1.kept (t' := s1.toks) hk
      have hty : strIterType z = "str_ascii_iterator" ∨ strIterType z = "str_iterator" := by
        unfold strIterType
        split
        · exact .inl rfl
        · exact .inr rfl
      exact ⟨s1.heap.objs.size + 1, [s1.heap.objs.size + 1, s1.heap.objs.size], _, _, H1, rfl, I2, turn_enumS z t (strIterType z) hty (s1.heap.objs.size + 1) s1.heap.objs.size, ⟨⟨.none, he⟩, hit, Nat.succ_ne_self _⟩, fresh, q⟩
end ZN

/-! DenZ8: sorted of lists and tuples; the least of pairs; parts from the end; len(set(..)). -/
namespace ZN
open PySem PySem.Spec PyProof.Rows PySem.W L2
section
variable {prog : Program} {w : World} {A : Around} {E : Value → Shared → Prop} {s : Shared}
/-- sorted(l), l a list or a tuple of data without lists: a new list -/
theorem sorted_seq {β : Type} {T : String} {l : Addr} {o : Obj} {items : Array Value} {n : Nat} {bs : List β} {enc : β → PyData} {R : Value → β → Prop} {Q : Value → Shared → Prop} (hT : T = "list" ∨ T = "tuple")
    (ho : s.heap.get? l = some o) (hc : o.cls = .type T) (hd : o.data = .seq items n) (e : EachIs R items.toList bs) (er : EachIs (fun v b => Reads s.heap v (enc b) []) items.toList bs)
    (hal : AllAlike (bs.map enc)) (hk : Sortable (bs.map enc)) (hL : bs.length ≤ sizeLine) (hu : ∀ b, b ∈ bs → A.units + 3 + (enc b).depth < cLine)
    (h : ∀ (h1 h' : Heap) (a : Addr) (out : List Value) (c : Nat), (∀ b o', s.heap.get? b = some o' → h1.get? b = some o') → h1.objs.size ≤ a → (∀ b o', h1.get? b = some o' → h'.get? b = some o') → h'.get? a = some (seqObj "list" out.toArray c) → out.length = bs.length →
      EachIs R out (bs.mergeSort (dataLe false enc)) → Q (.ref a) { s with heap := h' }) : wpAny (model prog w) A (call (.builtin "sorted") [.ref l]) Q E s := by
  have hz : items.size ≤ sizeLine := by
    have := e.length
    rw [Array.length_toList] at this
    omega
  refine Calls.call_function_entry kind_sorted plain_sorted entry_sorted (args_sorted1 _) ?_
  unfold Builtin.«sorted»
  refine wpAny_bind (m := checkCount "sorted" 1 1 _) (wpAny_pure ?_)
  refine wpAny_bind (wpAny_collect_seq (hsz := hz) l hT ho hc hd fun h1 k1 => ?_)
  refine wpAny_bind (wpAny_newList ?_ (by rw [Array.length_toList]; exact hz))
  have hget : (h1.push { cls := .type "list", data := .seq items.toList.toArray }).get? h1.objs.size = some (seqObj "list" items.toList.toArray 0) := Heap.get?_push_size _ rfl
  have er' : EachIs (fun v b => ∃ as, Reads (h1.push { cls := .type "list", data := .seq items.toList.toArray }) v (enc b) as ∧ h1.objs.size ∉ as) items.toList bs :=
    er.mono fun v b r => ⟨[], Reads.keeps (fun b o q => Heap.get?_push_of_some _ (k1 b o q)) r, by simp⟩
  refine wpAny_bind (wpAny_holding (list_sort_data (s := { s with heap := h1.push { cls := .type "list", data := .seq items.toList.toArray } }) hget e er' hal hk hL (fun b hb => ?_) fun out hl ho' => ?_))
  · have := hu b hb
    show A.units + 1 + 1 + _ < _
    omega
  · refine wpAny_pure ⟨_, rfl, ?_⟩
    obtain ⟨c, hc'⟩ := sortedHeap_at (h := h1.push { cls := .type "list", data := .seq items.toList.toArray }) (a := h1.objs.size) (vs := items.toList) (n := 0) (out := List.toArray out) hget
    refine h h1 _ h1.objs.size out c k1 (Nat.le_refl _) (fun b o' q => ?_) hc' hl ho'
    have hlt := Heap.lt_size q
    rw [sortedHeap_old (Nat.ne_of_lt hlt) (by rw [Heap.size_push]; exact Nat.lt_succ_of_lt hlt)]
    exact Heap.get?_push_of_some _ q
end
/-! ### as rules of the layer -/
/-- a list or a tuple -/
def SqA (K : PySem.W.Frag) (H : Hp) (a : Addr) (xs : List V) : Prop := SqL K H a xs ∨ SqT K H a xs
def rSortI (K : PySem.W.Frag) : List V → Hp → VK → Prop := fun vs H Q => ∃ (a : Addr) (ns : List Int), vs = [V.ref a] ∧ SqA K H a (ns.map V.int) ∧ ∀ p, H p = none → Q (.ref p) (upd H p (.lst ((ns.mergeSort leI).map V.int)))
/-- x is a tuple of these ints -/
def RowV (K : PySem.W.Frag) (H : Hp) (p : V × List Int) : Prop := ∃ t, p.1 = .ref t ∧ SqT K H t (p.2.map V.int)
def rSortR (K : PySem.W.Frag) : List V → Hp → VK → Prop := fun vs H Q => ∃ (a : Addr) (ps : List (V × List Int)), vs = [V.ref a] ∧ SqA K H a (ps.map (·.1)) ∧ (∀ p ∈ ps, RowV K H p ∧ p.2 ≠ []) ∧
  ∀ q, H q = none → Q (.ref q) (upd H q (.lst ((ps.mergeSort fun x y => leR x.2 y.2).map (·.1))))
section
variable {X : Cx}
theorem vals_each : ∀ {xs : List V} {us : List Value}, Vals xs us → EachIs (fun u x => RelV x u) us xs
  | _, _, .nil => .nil
  | _, _, .cons h t => .cons h (vals_each t)
theorem each_vals : ∀ {xs : List V} {us : List Value}, EachIs (fun u x => RelV x u) us xs → Vals xs us
  | _, _, .nil => .nil
  | _, _, .cons h t => .cons h (each_vals t)
theorem each_mapR {α β γ : Type} {R : α → γ → Prop} (f : β → γ) : ∀ {us : List α} {bs : List β}, EachIs R us (bs.map f) → EachIs (fun u b => R u (f b)) us bs
  | _, [], .nil => .nil
  | _, _ :: _, .cons h t => .cons h (each_mapR f t)
theorem each_unmap {α β γ : Type} {R : α → γ → Prop} (f : β → γ) : ∀ {us : List α} {bs : List β}, EachIs (fun u b => R u (f b)) us bs → EachIs R us (bs.map f)
  | _, [], .nil => .nil
  | _, _ :: _, .cons h t => .cons h (each_unmap f t)
theorem sqA_at {pins : List (Addr × Obj)} {σ : L2.St} {H : Hp} {s : Shared} {a : Addr} {xs : List V} (I : Inv X pins σ H s) (h : SqA X.K H a xs) : ∃ (T : String) (o : Obj) (its : List Value) (n : Nat), (T = "list" ∨ T = "tuple") ∧ s.heap.get? a = some o ∧ o.cls = .type T ∧ o.data = .seq its.toArray n ∧ Vals xs its ∧ xs.length ≤ sizeLine := by
  rcases h with h | h
  · obtain ⟨its, r, ⟨o, n, e, c, _, d⟩, z⟩ := I.list h
    exact ⟨_, o, its, n, .inl rfl, e, c, d, r, z⟩
  · obtain ⟨its, r, ⟨o, e, c, n, d⟩, z⟩ := I.tuple h
    exact ⟨_, o, its, n, .inr rfl, e, c, d, r, z⟩
theorem laid_list {pins : List (Addr × Obj)} {σ : L2.St} {H : Hp} {s : Shared} {h1 h' : Heap} {a : Addr} {xs : List V} {us : List Value} {c : Nat} {Q : VK} (I : Inv X pins σ H s) (k1 : ∀ b o, s.heap.get? b = some o → h1.get? b = some o) (ha : h1.objs.size ≤ a)
    (k2 : ∀ b o, h1.get? b = some o → h'.get? b = some o) (hg : h'.get? a = some (seqObj "list" us.toArray c)) (r : Vals xs us) (hz : xs.length ≤ sizeLine) (q : ∀ p, H p = none → Q (.ref p) (upd H p (.lst xs))) : EP X pins σ Q (.ref a) { s with heap := h' } := by
  have I1 : Inv X pins σ H { s with heap := h1 } := I.kept (t' := s.toks) k1
  exact ⟨.ref a, upd H a (.lst xs), I1.laid (t' := s.toks) k2 ha ⟨hz, us, c, r, hg⟩, rfl, q a (I1.hok.fresh ha)⟩
theorem depth_row : ∀ r : List Int, PyData.depthAll (r.map PyData.int) = 0
  | [] => by simp [PyData.depthAll]
  | x :: r => by
    simp only [List.map_cons, PyData.depthAll, depth_row r]
    simp [PyData.depth]
theorem cr_sortI (hu : X.A.units + 64 < cLine) : CallR X (.builtin "sorted") (rSortI X.K) := by
  intro pins s σ H vs us Q I r h
  obtain ⟨a, ns, rfl, hs, q⟩ := h
  obtain ⟨T, o, its, n, hT, ho, hc, hd, rv, hz⟩ := sqA_at I hs
  rw [Vals.ref1 r]
  have e := each_mapR V.int (vals_each rv)
  refine sorted_seq (β := Int) (bs := ns) (enc := PyData.int) (R := fun v b => RelV (.int b) v) hT ho hc hd e (e.mono fun v b hv => ?_) (AllAlike.of fun b b' => ?_) (Sortable.others fun b => ⟨(fun z => nomatch z), fun xs z => nomatch z⟩) (by rw [List.length_map] at hz; exact hz) (fun b _ => ?_) fun h1 h' p out c k1 hp k2 hg hl eo => ?_
  · obtain ⟨t, rfl⟩ := hv
    exact .int _ _
  · simp [alike]
  · show X.A.units + 3 + 0 < _
    omega
  · have el : dataLe false PyData.int = leI := dataLe_int (β := Int) id
    rw [el] at eo
    refine laid_list I k1 hp k2 hg (each_vals (each_unmap V.int eo)) ?_ q
    rw [List.length_map, List.length_mergeSort]
    rw [List.length_map] at hz
    exact hz
theorem row_reads {pins : List (Addr × Obj)} {σ : L2.St} {H : Hp} {s : Shared} (I : Inv X pins σ H s) {p : V × List Int} {u : Value} (hp : RowV X.K H p) (r : RelV p.1 u) : Reads s.heap u (encR p.2) [] := by
  obtain ⟨t, e, ht⟩ := hp
  rw [e] at r
  obtain rfl : u = .ref t := r
  obtain ⟨its, rv, ⟨o, ho, hc, n, hd⟩, _⟩ := I.tuple ht
  have all : ∀ (ns : List Int) (us : List Value), Vals (ns.map V.int) us → ReadsAll s.heap us (ns.map PyData.int) [] := by
    intro ns
    induction ns with
    | nil => intro us h; cases h; exact .nil
    | cons n ns ih =>
      intro us h
      rw [List.map_cons] at h
      cases h with
      | cons h1 h2 =>
        obtain ⟨t, rfl⟩ := h1
        exact .cons (as := []) (bs := []) (.int n t) (ih _ h2)
  exact .tuple ho hc hd (all _ _ rv)
theorem each_rows {pins : List (Addr × Obj)} {σ : L2.St} {H : Hp} {s : Shared} (I : Inv X pins σ H s) : ∀ {ps : List (V × List Int)} {us : List Value}, (∀ p ∈ ps, RowV X.K H p ∧ p.2 ≠ []) → EachIs (fun u (p : V × List Int) => RelV p.1 u) us ps → EachIs (fun u p => Reads s.heap u (encR p.2) []) us ps
  | _, _, _, .nil => .nil
  | _, _, h, .cons r t => .cons (row_reads I (h _ List.mem_cons_self).1 r) (each_rows I (fun p hp => h p (List.mem_cons_of_mem _ hp)) t)
theorem cr_sortR (hu : X.A.units + 64 < cLine) : CallR X (.builtin "sorted") (rSortR X.K) := by
  intro pins s σ H vs us Q I r h
  obtain ⟨a, ps, rfl, hs, hr, q⟩ := h
  obtain ⟨T, o, its, n, hT, ho, hc, hd, rv, hz⟩ := sqA_at I hs
  rw [Vals.ref1 r]
  have e := each_mapR (fun p : V × List Int => p.1) (vals_each rv)
  have hz' : ps.length ≤ sizeLine := by rw [List.length_map] at hz; exact hz
  refine sorted_seq (β := V × List Int) (bs := ps) (enc := fun p => encR p.2) (R := fun v b => RelV b.1 v) hT ho hc hd e (each_rows I hr e) (AllAlike.of fun b b' => ?_) (.inl fun d hd => ?_) hz' (fun b _ => ?_) fun h1 h' p out c k1 hp k2 hg hl eo => ?_
  · show alike (.tuple _) (.tuple _) = true
    simp only [alike]
    exact alike_ints _ _
  · obtain ⟨b, hb, rfl⟩ := List.mem_map.mp hd
    cases q2 : b.2 with
    | nil => exact absurd q2 (hr b hb).2
    | cons x r => exact ⟨.int x, r.map .int, by simp only [encR, q2, List.map_cons]⟩
  · have : (encR b.2).depth ≤ 1 := by
      simp only [encR, PyData.depth, depth_row]
      omega
    omega
  · exact laid_list I k1 hp k2 hg (each_vals (each_unmap (fun p : V × List Int => p.1) eo)) (by rw [List.length_map, List.length_mergeSort]; exact hz') q
/-! ### the least, the greatest of rows -/
theorem minD_rows : ∀ (rs : List (List Int)) (r : List Int), minD (encR r) (rs.map encR) = encR (minRow r rs)
  | [], _ => rfl
  | y :: rs, r => by
    unfold minD minRow
    rw [List.map_cons, List.foldl_cons, List.foldl_cons]
    split
    · exact minD_rows rs y
    · exact minD_rows rs r
def rMinR (K : PySem.W.Frag) : List V → Hp → VK → Prop := fun vs H Q => ∃ (a : Addr) (p : V × List Int) (ps : List (V × List Int)), vs = [V.ref a] ∧ SqL K H a ((p :: ps).map (·.1)) ∧ (∀ q ∈ p :: ps, RowV K H q) ∧
  ∀ q ∈ p :: ps, q.2 = minRow p.2 (ps.map (·.2)) → Q q.1 H
theorem reads_all {pins : List (Addr × Obj)} {σ : L2.St} {H : Hp} {s : Shared} (I : Inv X pins σ H s) : ∀ {ps : List (V × List Int)} {us : List Value}, (∀ p ∈ ps, RowV X.K H p) → EachIs (fun u (p : V × List Int) => RelV p.1 u) us ps → ReadsAll s.heap us (ps.map fun p => encR p.2) []
  | _, _, _, .nil => .nil
  | _, _, h, .cons r t => .cons (as := []) (bs := []) (row_reads I (h _ List.mem_cons_self) r) (reads_all I (fun p hp => h p (List.mem_cons_of_mem _ hp)) t)
theorem each_get {α β : Type} {R : α → β → Prop} : ∀ {us : List α} {bs : List β}, EachIs R us bs → ∀ (i : Nat) u, us[i]? = some u → ∃ b, bs[i]? = some b ∧ R u b
  | _, _, .nil, i, u, h => by simp at h
  | _, _, .cons r t, 0, u, h => by simp at h; subst h; exact ⟨_, rfl, r⟩
  | _, _, .cons r t, i + 1, u, h => by
    obtain ⟨b, h1, h2⟩ := each_get t i u (by simpa using h)
    exact ⟨b, by simpa using h1, h2⟩
theorem encR_inj {a b : List Int} (h : encR a = encR b) : a = b := by
  have h : a.map PyData.int = b.map PyData.int := by
    unfold encR at h
    injection h
  exact (List.map_inj_right fun x y e => by injection e).mp h
theorem cr_minR (hc : X.calm = true) (hu : X.A.units + 64 < cLine) : CallR X (.builtin "min") (rMinR X.K) := by
  intro pins s σ H vs us Q I r h
  obtain ⟨a, p, ps, rfl, hs, hr, q⟩ := h
  obtain ⟨its, rv, ⟨o, n, ho, hcl, hdn, hd⟩, hz⟩ := I.list hs
  rw [Vals.ref1 r]
  have e := each_mapR (fun p : V × List Int => p.1) (vals_each rv)
  have ra := reads_all I hr e
  have al : ∀ x ∈ (p :: ps).map (fun p => encR p.2), ∃ r, x = encR r := fun x hx => by
    obtain ⟨b, _, rfl⟩ := List.mem_map.mp hx
    exact ⟨b.2, rfl⟩
  have dp : PyData.depthAll ((p :: ps).map fun p => encR p.2) ≤ 1 := by
    generalize (p :: ps) = l
    induction l with
    | nil => simp [PyData.depthAll]
    | cons y l ih =>
      simp only [List.map_cons, PyData.depthAll, encR, PyData.depth, depth_row] at ih ⊢
      omega
  refine min_list_data (x := encR p.2) (xs := (ps.map (·.2)).map encR) (as := []) (I.ok.hd hc) ⟨o, ho, hcl, n, hd⟩ ?_ ⟨fun x hx y hy => ?_, fun x hx => ?_⟩ ?_ fun i v h' tk bs hv rd k => ?_
  · have e2 : encR p.2 :: (ps.map (·.2)).map encR = (p :: ps).map fun p => encR p.2 := by simp
    rw [e2]
    simpa using ra
  · have e2 : encR p.2 :: (ps.map (·.2)).map encR = (p :: ps).map fun p => encR p.2 := by simp
    rw [e2] at hx hy
    obtain ⟨r1, rfl⟩ := al x hx
    obtain ⟨r2, rfl⟩ := al y hy
    show alike (.tuple _) (.tuple _) = true
    simp only [alike]
    exact alike_ints _ _
  · have e2 : encR p.2 :: (ps.map (·.2)).map encR = (p :: ps).map fun p => encR p.2 := by simp
    rw [e2] at hx
    obtain ⟨r1, rfl⟩ := al x hx
    exact fun z => nomatch z
  · have e2 : encR p.2 :: (ps.map (·.2)).map encR = (p :: ps).map fun p => encR p.2 := by simp
    rw [e2]
    show X.A.units + 1 + _ < _
    omega
  · rw [minD_rows] at rd
    have hv' : its[i]? = some v := by simpa using hv
    obtain ⟨b, hb, rb⟩ := each_get e i v hv'
    have hm : b ∈ p :: ps := List.mem_of_getElem? hb
    have I1 : Inv X pins σ H { s with heap := h', toks := tk } := I.kept k
    have r1 := row_reads I1 (hr b hm) rb
    exact ⟨b.1, H, I1, rb, q b hm (encR_inj (Reads.unique r1 _ _ rd).1)⟩
end
end ZN

/-! DenZ9: xs[::-1] of lists and tuples; len(set(xs)). -/
namespace ZN
open PySem PySem.Spec PyProof.Rows PySem.W L2
section
variable {prog : Program} {w : World} {A : Around} {E : Value → Shared → Prop} {s : Shared}
theorem back_adjust (n : Nat) : Builtin.Slice.sliceAdjust none none (-1) (n : Int) = ((n : Int) - 1, -1) := by
  unfold Builtin.Slice.sliceAdjust
  rfl
theorem back_places (n : Nat) : Builtin.Slice.slicePlaces ((n : Int) - 1) (-1) (-1) = n := by
  unfold Builtin.Slice.slicePlaces
  rw [if_neg (by decide)]
  by_cases h : n = 0
  · subst h; rfl
  · rw [if_pos (by omega)]
    have : -(-1 : Int) = 1 := by decide
    rw [this, Int.ediv_one]
    omega
theorem fm_all {α β : Type} {f : α → Option β} {g : α → β} : ∀ {l : List α}, (∀ a ∈ l, f a = some (g a)) → l.filterMap f = l.map g
  | [], _ => rfl
  | a :: l, h => by
    rw [List.filterMap_cons, h a List.mem_cons_self, List.map_cons, fm_all fun b hb => h b (List.mem_cons_of_mem _ hb)]
theorem back_pick (xs : Array Value) : ((List.range xs.size).filterMap fun (m : Nat) => xs[(((xs.size : Int) - 1) + (m : Int) * (-1)).toNat]?).toArray = xs.toList.reverse.toArray := by
  congr 1
  rw [fm_all (g := fun m => xs.toList.getD (xs.size - 1 - m) .none) fun m hm => ?_]
  · refine List.ext_getElem (by simp) fun i h1 h2 => ?_
    have hi : i < xs.size := by simpa using h1
    rw [List.getElem_map, List.getElem_range, List.getElem_reverse, List.getD_eq_getElem?_getD, List.getElem?_eq_getElem (by rw [Array.length_toList]; omega)]
    simp
  · have hm := List.mem_range.mp hm
    have e : (((xs.size : Int) - 1) + (m : Int) * (-1)).toNat = xs.size - 1 - m := by omega
    rw [e, List.getD_eq_getElem?_getD, Array.getElem?_toList, Array.getElem?_eq_getElem (by omega)]
    rfl
theorem sliceApplied_back {sl : Addr} {vl vu vs : Value} {n : Nat} {Q : Int × Int × Nat → Shared → Prop} (hs : s.heap.IsSliceOf sl vl vu vs) (pl : IsPart vl none) (pu : IsPart vu none) (ps : IsPart vs (some (-1)))
    (h : Q ((n : Int) - 1, -1, n) s) : wpAny (model prog w) A (Builtin.Slice.sliceApplied (.ref sl) (pure (n : Int))) Q E s := by
  obtain ⟨os, hos, hcs, hds⟩ := id hs
  unfold Builtin.Slice.sliceApplied Builtin.Slice.sliceFields
  refine wpAny_bind (wpAny_bind (wpAny_field hos hds (x := vl) rfl (wpAny_bind (wpAny_field hos hds (x := vu) rfl (wpAny_bind (wpAny_field hos hds (x := vs) rfl (wpAny_pure ?_)))))))
  refine wpAny_bind (HT.slicePart_ ps ?_)
  show wpAny _ _ (if ((-1 : Int) == 0) = true then _ else _) _ _ s
  rw [if_neg (by decide)]
  refine wpAny_bind (HT.slicePart_ pl (wpAny_bind (HT.slicePart_ pu (wpAny_bind (wpAny_pure ?_)))))
  show wpAny _ _ (match Builtin.Slice.sliceAdjust none none (-1) (n : Int) with | (a, b) => pure (a, (-1 : Int), Builtin.Slice.slicePlaces a b (-1))) _ _ s
  rw [back_adjust n]
  show wpAny _ _ (pure ((n : Int) - 1, (-1 : Int), Builtin.Slice.slicePlaces ((n : Int) - 1) (-1) (-1))) _ _ s
  rw [back_places]
  exact wpAny_pure h
theorem getItem_tuple_back {t sl : Addr} {items : Array Value} {vl vu vs : Value} {Q : Value → Shared → Prop} (ht : IsTup s.heap t items) (hs : s.heap.IsSliceOf sl vl vu vs) (pl : IsPart vl none) (pu : IsPart vu none) (ps : IsPart vs (some (-1)))
    (h : Q (.ref s.heap.objs.size) { s with heap := s.heap.push { cls := .type "tuple", data := .seq items.toList.reverse.toArray } }) (hz : items.size ≤ sizeLine) : wpAny (model prog w) A (getItem (.ref t) (.ref sl)) Q E s := by
  have hz2 : sizeOk (.seq items.toList.reverse.toArray) := by
    show items.toList.reverse.toArray.size ≤ sizeLine
    rw [List.size_toArray, List.length_reverse, Array.length_toList]
    exact hz
  obtain ⟨os, hos, hcs, hds⟩ := id hs
  have hty : s.TypeIs (.ref sl) "slice" := ⟨os, hos, hcs⟩
  unfold getItem
  try with_reducible refine wpAny_holding ?_
  first | refine wpAny_bind (wpAny_pure ?_) | skip
  refine wpAny_bind (wpAny_sequenceKey ht.typeIs (by decide) ?_)
  refine wpAny_bind (wpAny_callSpecial?_slot (name := Str.ofString "__getitem__") ht.typeIs PyProof.Rows.slot_tuple_getitem
    (wpAny_call_entry PyProof.Rows.slot_tuple_getitem ht.typeIs PyProof.Rows.entry_tuple_getitem ?_ (PyProof.Rows.args_tuple_getitem _ _)))
  show wpAny _ _ (Builtin.Tuple.tupleItemsOf (.ref t) >>= _) _ _ s
  refine wpAny_bind (tupleItemsOf_ ht ?_)
  refine wpAny_bind (wpAny_typeOf hty ?_)
  rw [if_pos (by decide)]
  refine wpAny_bind (sliceApplied_back hs pl pu ps ?_)
  have no : ¬ ((((items.size : Int) - 1) == 0 && (-1 : Int) == 1 && items.size == items.size) = true) := by
    rw [show ((-1 : Int) == 1) = false from rfl, Bool.and_false, Bool.false_and]
    exact Bool.false_ne_true
  show wpAny _ _ (if (((items.size : Int) - 1) == 0 && (-1 : Int) == 1 && items.size == items.size) = true then _ else _) _ _ s
  rw [if_neg no, back_pick]
  first
    | exact wpAny_bind (m := Builtin.Tuple.tupleExact _) (wpAny_newObj_type (wpAny_pure ⟨_, rfl, wpAny_pure h⟩) hz2)
    | exact wpAny_bind (m := Builtin.Tuple.tupleExact _) (wpAny_newObj_type (wpAny_bind (wpAny_pure (wpAny_pure ⟨_, rfl, wpAny_pure h⟩))) hz2)
    | exact wpAny_bind (wpAny_bind (m := Builtin.Tuple.tupleExact _) (wpAny_newObj_type (wpAny_pure (wpAny_pure ⟨_, rfl, wpAny_pure h⟩)) hz2))
    | exact wpAny_bind (wpAny_bind (m := Builtin.Tuple.tupleExact _) (wpAny_newObj_type (wpAny_pure ⟨_, rfl, wpAny_pure h⟩) hz2))
end
section
variable {X : Cx}
def tRev (K : PySem.W.Frag) (te : TE) : TE := fun σ H Q => te σ H fun x H1 => ∃ a xs, x = .ref a ∧
  ((SqL K H1 a xs ∧ ∀ p, H1 p = none → Q (.ref p) (upd H1 p (.lst xs.reverse))) ∨ (SqT K H1 a xs ∧ ∀ p, H1 p = none → Q (.ref p) (upd H1 p (.tup xs.reverse))))
theorem pe_rev {e : Expr} {te : TE} {k : Nat} {p1 p2 p3 pos : Pos} (he : PE X e te) : PE X (.Subscript e (.Slice none none (some (.UnaryOp .USub (.Constant (.int 1) k p1) p2)) p3) pos) (tRev X.K te) := by
  have third : PO X (some (.UnaryOp .USub (.Constant (.int 1) k p1) p2)) (tPart (tUn (rU fun i => .int (-i)) (tC (.int 1)))) := po_some (pe_un un_neg pe_int)
  constructor
  intro pins s σ H Q I h
  refine Subscript_ (thn (he.run pins s σ H _ I h) fun v s1 got => ?_)
  obtain ⟨x, H1, I1, r1, a, xs, rfl, q⟩ := got
  obtain rfl : v = .ref a := r1
  refine wpAny_Slice (thn (po_none.run pins s1 σ H1 (fun o H2 => o = none ∧ H2 = H1) I1 ⟨rfl, rfl⟩) fun v1 s2 got1 => ?_)
  obtain ⟨o1, H2, I2, k1, eo1, rfl⟩ := got1
  refine thn (po_none.run pins s2 σ H2 (fun o H3 => o = none ∧ H3 = H2) I2 ⟨rfl, rfl⟩) fun v2 s3 got2 => ?_
  obtain ⟨o2, H3, I3, k2, eo2, rfl⟩ := got2
  refine thn (third.run pins s3 σ H3 (fun o H4 => o = some (-1) ∧ H4 = H3) I3 ⟨1, rfl, -1, rfl, rfl, rfl⟩) fun v3 s4 got3 => ?_
  obtain ⟨o3, H4, I4, k3, eo3, rfl⟩ := got3
  subst eo1 eo2 eo3
  have I5 : Inv X pins σ H4 { s4 with heap := s4.heap.push { cls := .type "slice", data := .fields #[v1, v2, v3] } } := I4.kept (t' := s4.toks) fun b ob q => Heap.get?_push_of_some _ q
  show wpAny (model X.prog X.w) X.A (subscriptTail e (.Slice none none (some (.UnaryOp .USub (.Constant (.int 1) k p1) p2)) p3) (.ref a) (.ref s4.heap.objs.size)) (EP X pins σ Q) X.xe { s4 with heap := s4.heap.push { cls := .type "slice", data := .fields #[v1, v2, v3] } }
  rcases q with ⟨hx, q⟩ | ⟨hx, q⟩
  · obtain ⟨its, r, ht, hz⟩ := I5.list hx
    have hlen := r.length
    refine tail_any (ops := [.ref a, .ref s4.heap.objs.size]) ht.isList.typeIs PySem.slot_list_getitem.lookup ?_ (by with_unfolding_all rfl)
    refine wpAny_getItem_list_slice ht.isList (Heap.IsSliceOf.new _ v1 v2 v3) k1 k2 k3 (by decide) ?_ (by rw [List.size_toArray]; omega)
    rw [PySem.W.krv_pick]
    exact ⟨.ref _, _, I5.laid (t' := s4.toks) (o := .lst xs.reverse) (fun b ob q => Heap.get?_push_of_some _ q) (Nat.le_refl _) ⟨by rw [List.length_reverse]; exact hz, _, 0, r.reverse, Heap.get?_push_size _ rfl⟩, rfl, q _ (I5.hok.fresh (Nat.le_refl _))⟩
  · obtain ⟨its, r, ht, hz⟩ := I5.tuple hx
    have hlen := r.length
    refine tail_any (ops := [.ref a, .ref s4.heap.objs.size]) ht.typeIs PyProof.Rows.slot_tuple_getitem.lookup ?_ (by with_unfolding_all rfl)
    refine getItem_tuple_back ht (Heap.IsSliceOf.new _ v1 v2 v3) k1 k2 k3 ?_ (by rw [List.size_toArray]; omega)
    exact ⟨.ref _, _, I5.laid (t' := s4.toks) (o := .tup xs.reverse) (fun b ob q => Heap.get?_push_of_some _ q) (Nat.le_refl _) ⟨by rw [List.length_reverse]; exact hz, _, r.reverse, IsTup.new _ _⟩, rfl, q _ (I5.hok.fresh (Nat.le_refl _))⟩
end
/-! ### len(set(xs)), xs a tuple of ints -/
theorem mem_nub : ∀ {xs : List Int} {k : Int}, k ∈ nub xs ↔ k ∈ xs
  | [], _ => Iff.rfl
  | x :: xs, k => by
    unfold nub
    split
    · rename_i h
      rw [mem_nub, List.mem_cons]
      refine ⟨.inr, fun q => ?_⟩
      rcases q with rfl | q
      · exact h
      · exact q
    · rw [List.mem_cons, List.mem_cons, mem_nub]
theorem nodup_nub : ∀ xs : List Int, (nub xs).Nodup
  | [] => List.nodup_nil
  | x :: xs => by
    unfold nub
    split
    · exact nodup_nub xs
    · rename_i h
      exact List.nodup_cons.mpr ⟨fun q => h (mem_nub.mp q), nodup_nub xs⟩
theorem nub_len_le : ∀ xs : List Int, (nub xs).length ≤ xs.length
  | [] => Nat.le_refl _
  | x :: xs => by
    unfold nub
    have := nub_len_le xs
    split <;> simp only [List.length_cons] <;> omega
theorem len_le_sub : ∀ {l m : List Int}, l.Nodup → (∀ x ∈ l, x ∈ m) → l.length ≤ m.length
  | [], m, _, _ => Nat.zero_le _
  | a :: l, m, h, s => by
    have ha := s a List.mem_cons_self
    obtain ⟨h1, h2⟩ := List.nodup_cons.mp h
    have := len_le_sub (l := l) (m := m.erase a) h2 fun x hx => (List.mem_erase_of_ne (fun e => h1 (by rw [← e]; exact hx))).mpr (s x (List.mem_cons_of_mem _ hx))
    rw [List.length_erase_of_mem ha] at this
    have : 0 < m.length := List.length_pos_of_mem ha
    simp only [List.length_cons]
    omega
section
variable {X : Cx}
def tLenSet (K : PySem.W.Frag) (ta : TE) : TE := fun σ H Q => ta σ H fun x H1 => ∃ (l : Addr) (ns : List Int), x = V.ref l ∧ SqT K H1 l (ns.map V.int) ∧ ns.length ≤ 1000 ∧ Q (.int (nub ns).length) H1
theorem pe_lenSet {a : Expr} {ta : TE} {p p2 q pos : Pos} (hc : X.calm = true) (hg : Gl X "len") (hm : X.mg "len" = none) (hg2 : Gl X "set") (hm2 : X.mg "set" = none) (ha : PE X a ta)
    (na : starEach [a] X.env = (false, eval a X.env) :: starEach [] X.env := by rfl) : PE X (.Call (.Name "len" p) [.Call (.Name "set" p2) [a] [] q] [] pos) (tLenSet X.K ta) := by
  constructor
  intro pins s σ H Q I h
  refine Call_ (ld_blt I hg hm PySem.boot_len ?_)
  refine PyProof.Rows.callWith_builtin1 (PyProof.Rows.args_cons ?_ rfl) rfl rfl
  refine Call_ (ld_blt I hg2 hm2 PyProof.Rows.boot_set ?_)
  refine PyProof.Rows.callWith_type1 (PyProof.Rows.args_cons (thn (ha.run pins s σ H _ I h) fun v s1 got => PyProof.Rows.args_nil ?_) na) na rfl
  obtain ⟨x, H1, I1, r1, l, ns, rfl, hq, hl, q1⟩ := got
  obtain rfl : v = .ref l := r1
  obtain ⟨its, r, pl, hz⟩ := I1.tuple hq
  obtain ⟨o, ho, hcl, n, hd⟩ := pl
  refine call_set_tupI ns (I1.ok.hd hc) ⟨o, ho, hcl, n, hd⟩ (by simpa using r.ints) (by unfold scanBound; omega) fun h' tk c hS hcn hk => ?_
  refine PyProof.Rows.args_nil ?_
  obtain ⟨o2, es, ep, t, ho2, hex, hd2, _, nd, mem, _, hf, hn, _⟩ := hS
  have el : es.size = (nub ns).length := by
    have e0 : es.size = (es.toList.map keyOf).length := by rw [List.length_map, Array.length_toList]
    have e1 : ∀ k, k ∈ es.toList.map keyOf ↔ k ∈ ns := fun k => by rw [← mem k, decide_eq_true_iff]
    rw [e0]
    refine Nat.le_antisymm (len_le_sub nd fun k hk => mem_nub.mpr ((e1 k).mp hk)) (len_le_sub (nodup_nub ns) fun k hk => (e1 k).mpr (mem_nub.mp hk))
  have I2 : Inv X pins σ H1 { s1 with heap := h', toks := tk } := I1.kept hk
  refine call_len_set ho2 hex hd2 hf (by have := nub_len_le ns; rw [el]; omega) ⟨.int (nub ns).length, H1, I2.tok _, ⟨_, by rw [el]⟩, q1⟩
end
end ZN

/-! DenZ10: tuple * 1 is the tuple itself. -/
namespace ZN
open PySem PySem.Spec PyProof.Rows PySem.W L2
theorem tuple_mul1 (l : Addr) (items : Array Value) (n : Nat) (sl : Array (Option Value)) (dd : Option Addr) (u : Tok) :
    Meets (Builtin.«tuple.__mul__» ⟨[.ref l, .int 1 u], []⟩) (fun _ R s => s.heap.get? l = some { cls := .type "tuple", dict := dd, data := .seq items n, slots := sl } ∧ R (.ok (.ret (Value.ref l))) s) :=
  .of_wp fun prog w A R s h => by
    obtain ⟨hp, g, d, tk, os⟩ := s
    obtain ⟨hl, h⟩ := h
    have f1 := AutoSeq1.idx_int
    have c0 : (decide ((1 : Int) < -(2 ^ 63)) || decide ((1 : Int) ≥ 2 ^ 63)) = false := by decide
    have c1 : (items.isEmpty || (1 : Int) == 1) = true := by rw [Bool.or_eq_true]; exact .inr rfl
    wp_walk using wpAny_loadPart' hl
    repeat (first
      | (refine wpAny_ite_false (decide_eq_false (by rw [c0]; exact Bool.false_ne_true)) ?_; wp_walk using wpAny_loadPart' hl)
      | (refine wpAny_ite_true (decide_eq_true c1) ?_; wp_walk using wpAny_loadPart' hl))
    exact ⟨_, rfl, h⟩
def rRepT1 (K : PySem.W.Frag) : R2 := fun x y H Q => ∃ l xs, x = .ref l ∧ y = .int 1 ∧ SqT K H l xs ∧ Q (.ref l) H
section
variable {X : Cx}
theorem op_repT1 : OpR X (binaryOp .Mult) (rRepT1 X.K) := by
  intro pins s σ H x y v u Q I rx ry h
  obtain ⟨l, xs, rfl, rfl, hT, q⟩ := h
  cases rx
  obtain ⟨t, rfl⟩ := ry
  obtain ⟨its, r, ⟨⟨cls, dd, data, sl⟩, ho, hc, n, hd⟩, hs⟩ := I.tuple hT
  simp only at hc hd
  subst hc hd
  refine wpAny_binaryOp_repeat_ref (T := "tuple") (U := "int") (by decide) ⟨_, ho, rfl⟩ (fun s' => typeIs_int s' 1 t) noFill_tuple_mul F.fills_int_mul F.slot_int_rmul repeat_tuple F.slot_int_index.lookup
    (call_meets F.slot_int_rmul (typeIs_int s 1 t) F.entry_int_rmul (F.args_int_rmul_2 _ _) (int_rmul_tuple 1 t l its.toArray n dd sl)
      ⟨ho, rfl, ⟨_, ho, rfl⟩, call_meets F.slot_tuple_mul ⟨_, ho, rfl⟩ F.entry_tuple_mul (F.args_tuple_mul_2 _ _) (tuple_mul1 l its.toArray n sl dd t) ⟨ho, ?_⟩⟩)
  exact ⟨.ref l, H, I, rfl, q⟩
end
end ZN

/-! Den2: how plain data lie in the abstract heap; what is kept; readings. -/
namespace Den
open PySem PySem.Spec PyProof.Rows L2

variable [Lams]
/-- no table of code objects -/
def NT (o : HO) : Prop := ∀ ps, o ≠ .tbl ps
theorem nt_lst {xs : List V} : NT (.lst xs) := fun _ z => nomatch z
theorem nt_tup {xs : List V} : NT (.tup xs) := fun _ z => nomatch z
theorem nt_frz {o : Obj} {u : HO} : NT (.frz o u) := fun _ z => nomatch z
theorem nt_code {c : Addr} {q : Str} : NT (LamX.CodeO c q) := LamX.codeO_ne
/-- the n-th changeable thing stands at a -/
def At (φ : List Addr) (μ : Mem) (a : Addr) : Prop := ∃ (i : Nat) (c : Cell), μ[i]? = some (some c) ∧ φ[i]? = some a
/-- what may still change, or is being made -/
def Live (φ : List Addr) (μ : Mem) (B : Addr → Prop) (a : Addr) : Prop := B a ∨ At φ μ a
mutual
def RdV (K : PySem.W.Frag) (H : Hp) (L : Addr → Prop) (φ : List Addr) : D → V → Prop
  | .non, v => v = .non
  | .bl b, v => v = .bl b
  | .int i, v => v = .int i
  | .str x, v => v = .str x
  | .tup ds, v => ∃ a vs, v = .ref a ∧ SqT K H a vs ∧ RdL K H L φ ds vs
  | .lst ds, v => ∃ a vs, v = .ref a ∧ H a = some (.lst vs) ∧ ¬ L a ∧ RdL K H L φ ds vs
  | .fls ds, v => ∃ a vs, v = .ref a ∧ ((H a = some (.lst vs) ∧ ¬ L a) ∨ (∃ o, H a = some (.frz o (.lst vs))) ∨
      ∃ (o : Obj) (its : Array Value) (n : Nat), K.lookup a = some o ∧ o.cls = .type "list" ∧ o.dict = none ∧ o.data = .seq its n ∧ its.size ≤ sizeLine ∧ Vals vs its.toList) ∧ RdL K H L φ ds vs
  | .glo x, v => v = .ref (He.ga K x)
  | .cel n, v => ∃ a, φ[n]? = some a ∧ v = .ref a
  | .exc, v => v = .ref Lams.exa
def RdL (K : PySem.W.Frag) (H : Hp) (L : Addr → Prop) (φ : List Addr) : List D → List V → Prop
  | [], vs => vs = []
  | d :: ds, vs => ∃ w ws, vs = w :: ws ∧ RdV K H L φ d w ∧ RdL K H L φ ds ws
end
/-- what a thing holds -/
def Cell.ds : Cell → List D
  | .lst xs => xs
  | .obj _ fs => fs.map (·.2)
/-- the thing in the heap, the values that it holds -/
def HoOf (K : PySem.W.Frag) : Cell → HO → List V → Prop
  | .lst _, o, vs => o = .lst vs
  | .obj c fs, o, vs => ∃ dx gs, o = .ins (He.ga K c) dx gs ∧ gs.map (·.1) = fs.map (·.1) ∧ gs.map (·.2) = vs
def CellOk (K : PySem.W.Frag) (H : Hp) (L : Addr → Prop) (φ : List Addr) (a : Addr) (c : Cell) : Prop := ∃ o vs, H a = some o ∧ HoOf K c o vs ∧ RdL K H L φ c.ds vs
theorem HoOf.kind {K : PySem.W.Frag} {c : Cell} {o : HO} {vs : List V} (h : HoOf K c o vs) : (∃ ws, o = .lst ws) ∨ ∃ C dx gs, o = .ins C dx gs := by
  cases c with
  | lst xs => exact .inl ⟨vs, h⟩
  | obj c fs => obtain ⟨dx, gs, e, _⟩ := h; exact .inr ⟨_, _, _, e⟩
theorem HoOf.nt {K : PySem.W.Frag} {c : Cell} {o : HO} {vs : List V} (h : HoOf K c o vs) : NT o := by
  rcases h.kind with ⟨ws, rfl⟩ | ⟨C, dx, gs, rfl⟩
  · exact nt_lst
  · exact fun _ z => nomatch z
structure MemOk (K : PySem.W.Frag) (H : Hp) (φ : List Addr) (μ : Mem) (B : Addr → Prop) : Prop where
  len : φ.length = μ.length
  inj : ∀ (i j : Nat) (a : Addr) (c c' : Cell), μ[i]? = some (some c) → μ[j]? = some (some c') → φ[i]? = some a → φ[j]? = some a → i = j
  cell : ∀ (i : Nat) (c : Cell) (a : Addr), μ[i]? = some (some c) → φ[i]? = some a → CellOk K H (Live φ μ B) φ a c ∧ ¬ B a
  bt : ∀ a, B a → ∃ o, H a = some o ∧ NT o
  tabs : LamX.Tabs (lamT K) H
structure Ext (H : Hp) (φ : List Addr) (μ : Mem) (H' : Hp) (φ' : List Addr) (μ' : Mem) : Prop where
  pre : ∃ l, φ' = φ ++ l
  dead : ∀ i : Nat, i < φ.length → μ[i]? = some none → μ'[i]? = some none
  fresh : ∀ (i : Nat) (a : Addr) (o : HO), φ.length ≤ i → φ'[i]? = some a → H a = some o → ¬ NT o
  keep : ∀ a o, H a = some o → NT o → ¬ At φ μ a → H' a = some o
  there : ∀ a o, H a = some o → NT o → ∃ o', H' a = some o' ∧ NT o'
  tup : ∀ a xs, H a = some (.tup xs) → H' a = some (.tup xs)
  frz : ∀ a o u, H a = some (.frz o u) → H' a = some (.frz o u)
section
variable {K : PySem.W.Frag} {H H1 H2 H' : Hp} {φ φ1 φ2 φ' : List Addr} {μ μ1 μ2 μ' : Mem} {B B' : Addr → Prop} {d : D} {v : V} {ds : List D} {vs : List V}
theorem Ext.refl : Ext H φ μ H φ μ := ⟨⟨[], by simp⟩, fun _ _ h => h, fun i a o h1 h2 => (by rw [List.getElem?_eq_none h1] at h2; cases h2), fun _ _ h _ _ => h, fun _ o h n => ⟨o, h, n⟩, fun _ _ h => h, fun _ _ _ h => h⟩
/-- a thing of the later heap that may change, and stood before, could change before -/
theorem Ext.back (e : Ext H φ μ H' φ' μ') (hl : φ.length = μ.length) {a : Addr} {o : HO} (h : H a = some o) (nt : NT o) (l : At φ' μ' a) : At φ μ a := by
  obtain ⟨i, c, h1, h2⟩ := l
  by_cases hi : i < φ.length
  · obtain ⟨l, hp⟩ := e.pre
    have q : φ[i]? = some a := by rw [hp, List.getElem?_append_left hi] at h2; exact h2
    have hm : i < μ.length := by omega
    cases z : μ[i]? with
    | none => rw [List.getElem?_eq_none_iff] at z; omega
    | some y =>
      cases y with
      | none => rw [e.dead i hi z] at h1; cases h1
      | some c' => exact ⟨i, c', z, q⟩
  · exact absurd nt (e.fresh i a o (by omega) h2 h)
theorem Ext.nlive (e : Ext H φ μ H' φ' μ') (hl : φ.length = μ.length) (hB : ∀ a, B' a → B a ∨ H a = none) {a : Addr} {o : HO} (h : H a = some o) (nt : NT o) (n : ¬ Live φ μ B a) : ¬ Live φ' μ' B' a := fun l =>
  n (l.elim (fun l => .inl ((hB a l).elim id fun z => by rw [h] at z; cases z)) fun l => .inr (e.back hl h nt l))
theorem Ext.trans (e : Ext H φ μ H1 φ1 μ1) (hl : φ.length = μ.length) (f : Ext H1 φ1 μ1 H2 φ2 μ2) : Ext H φ μ H2 φ2 μ2 := by
  obtain ⟨l1, p1⟩ := e.pre
  obtain ⟨l2, p2⟩ := f.pre
  have le : φ.length ≤ φ1.length := by rw [p1, List.length_append]; omega
  refine ⟨⟨l1 ++ l2, by rw [p2, p1, List.append_assoc]⟩, fun i hi h => f.dead i (by omega) (e.dead i hi h), fun i a o hi h ho nt => ?_, fun a o h nt n => ?_, fun a o h nt => ?_, fun a xs h => f.tup a xs (e.tup a xs h), fun a o u h => f.frz a o u (e.frz a o u h)⟩
  · by_cases h1 : i < φ1.length
    · rw [p2, List.getElem?_append_left h1] at h
      exact e.fresh i a o hi h ho nt
    · obtain ⟨o', q, nt'⟩ := e.there a o ho nt
      exact f.fresh i a o' (by omega) h q nt'
  · exact f.keep a o (e.keep a o h nt n) nt fun l => n (e.back hl h nt l)
  · obtain ⟨o', q, nt'⟩ := e.there a o h nt
    exact f.there a o' q nt'
/-- the same, but the things of U may have been changed -/
structure ExtU (U : Addr → Prop) (H : Hp) (φ : List Addr) (μ : Mem) (H' : Hp) (φ' : List Addr) (μ' : Mem) : Prop where
  pre : ∃ l, φ' = φ ++ l
  dead : ∀ i : Nat, i < φ.length → μ[i]? = some none → μ'[i]? = some none
  fresh : ∀ (i : Nat) (a : Addr) (o : HO), φ.length ≤ i → φ'[i]? = some a → H a = some o → ¬ NT o
  keep : ∀ a o, H a = some o → NT o → ¬ At φ μ a → ¬ U a → H' a = some o
  there : ∀ a o, H a = some o → NT o → ∃ o', H' a = some o' ∧ NT o'
  tup : ∀ a xs, H a = some (.tup xs) → H' a = some (.tup xs)
  frz : ∀ a o u, H a = some (.frz o u) → H' a = some (.frz o u)
theorem Ext.toU {U : Addr → Prop} (e : Ext H φ μ H' φ' μ') : ExtU U H φ μ H' φ' μ' := ⟨e.pre, e.dead, e.fresh, fun a o h nt n _ => e.keep a o h nt n, e.there, e.tup, e.frz⟩
theorem ExtU.back {U : Addr → Prop} (e : ExtU U H φ μ H' φ' μ') (hl : φ.length = μ.length) {a : Addr} {o : HO} (h : H a = some o) (nt : NT o) (l : At φ' μ' a) : At φ μ a := by
  obtain ⟨i, c, h1, h2⟩ := l
  by_cases hi : i < φ.length
  · obtain ⟨l, hp⟩ := e.pre
    have q : φ[i]? = some a := by rw [hp, List.getElem?_append_left hi] at h2; exact h2
    have hm : i < μ.length := by omega
    cases z : μ[i]? with
    | none => rw [List.getElem?_eq_none_iff] at z; omega
    | some y =>
      cases y with
      | none => rw [e.dead i hi z] at h1; cases h1
      | some c' => exact ⟨i, c', z, q⟩
  · exact absurd nt (e.fresh i a o (by omega) h2 h)
theorem ExtU.nlive {U : Addr → Prop} (e : ExtU U H φ μ H' φ' μ') (hl : φ.length = μ.length) (hB : ∀ a, B' a → B a ∨ H a = none) {a : Addr} {o : HO} (h : H a = some o) (nt : NT o) (n : ¬ Live φ μ B a) : ¬ Live φ' μ' B' a := fun l =>
  n (l.elim (fun l => .inl ((hB a l).elim id fun z => by rw [h] at z; cases z)) fun l => .inr (e.back hl h nt l))
theorem ExtU.trans {U : Addr → Prop} (e : ExtU U H φ μ H1 φ1 μ1) (hl : φ.length = μ.length) (f : Ext H1 φ1 μ1 H2 φ2 μ2) : ExtU U H φ μ H2 φ2 μ2 := by
  obtain ⟨l1, p1⟩ := e.pre
  obtain ⟨l2, p2⟩ := f.pre
  have le : φ.length ≤ φ1.length := by rw [p1, List.length_append]; omega
  refine ⟨⟨l1 ++ l2, by rw [p2, p1, List.append_assoc]⟩, fun i hi h => f.dead i (by omega) (e.dead i hi h), fun i a o hi h ho nt => ?_, fun a o h nt n u => ?_, fun a o h nt => ?_, fun a xs h => f.tup a xs (e.tup a xs h), fun a o u h => f.frz a o u (e.frz a o u h)⟩
  · by_cases h1 : i < φ1.length
    · rw [p2, List.getElem?_append_left h1] at h
      exact e.fresh i a o hi h ho nt
    · obtain ⟨o', q, nt'⟩ := e.there a o ho nt
      exact f.fresh i a o' (by omega) h q nt'
  · exact f.keep a o (e.keep a o h nt n u) nt fun l => n (e.back hl h nt l)
  · obtain ⟨o', q, nt'⟩ := e.there a o h nt
    exact f.there a o' q nt'
/-- a thing of U is changed -/
theorem ExtU.change {U : Addr → Prop} (e : ExtU U H φ μ H' φ' μ') {p : Addr} {o' : HO} (hU : U p) (ntup : ∀ xs, H p ≠ some (.tup xs)) (nfrz : ∀ u x, H p ≠ some (.frz u x)) (nt : NT o') : ExtU U H φ μ (upd H' p o') φ' μ' := by
  refine ⟨e.pre, e.dead, e.fresh, fun a u h n m k => ?_, fun a u h n => ?_, fun a xs h => ?_, fun a u x h => ?_⟩
  · rw [upd_ne (fun z => k (by rw [z]; exact hU))]; exact e.keep a u h n m k
  · by_cases z : a = p
    · exact ⟨o', by rw [z, upd_same], nt⟩
    · rw [upd_ne z]; exact e.there a u h n
  · rw [upd_ne (fun z => by rw [z] at h; exact ntup xs h)]; exact e.tup a xs h
  · rw [upd_ne (fun z => by rw [z] at h; exact nfrz u x h)]; exact e.frz a u x h
mutual
theorem RdV.monoU {U : Addr → Prop} (e : ExtU U H φ μ H' φ' μ') (hU : ∀ a, U a → B a) (hl : φ.length = μ.length) (hB : ∀ a, B' a → B a ∨ H a = none) : ∀ {d : D} {v : V}, RdV K H (Live φ μ B) φ d v → RdV K H' (Live φ' μ' B') φ' d v
  | .non, _, h => h
  | .bl _, _, h => h
  | .int _, _, h => h
  | .str _, _, h => h
  | .tup ds, v, h => by
    simp only [RdV] at h ⊢
    obtain ⟨a, vs, e1, h1, h2⟩ := h
    refine ⟨a, vs, e1, ?_, RdL.monoU e hU hl hB h2⟩
    rcases h1 with (h1 | ⟨o, h1⟩) | h1
    · exact .inl (.inl (e.tup a vs h1))
    · exact .inl (.inr ⟨o, e.frz a o _ h1⟩)
    · exact .inr h1
  | .lst ds, v, h => by
    simp only [RdV] at h ⊢
    obtain ⟨a, vs, e1, h1, h2, h3⟩ := h
    exact ⟨a, vs, e1, e.keep a _ h1 nt_lst (fun l => h2 (.inr l)) (fun l => h2 (.inl (hU _ l))), e.nlive hl hB h1 nt_lst h2, RdL.monoU e hU hl hB h3⟩
  | .fls ds, v, h => by
    simp only [RdV] at h ⊢
    obtain ⟨a, vs, e1, h1, h3⟩ := h
    refine ⟨a, vs, e1, ?_, RdL.monoU e hU hl hB h3⟩
    rcases h1 with ⟨h1, h2⟩ | ⟨o, h1⟩ | h1
    · exact .inl ⟨e.keep a _ h1 nt_lst (fun l => h2 (.inr l)) (fun l => h2 (.inl (hU _ l))), e.nlive hl hB h1 nt_lst h2⟩
    · exact .inr (.inl ⟨o, e.frz a o _ h1⟩)
    · exact .inr (.inr h1)
  | .glo _, _, h => h
  | .exc, _, h => h
  | .cel n, v, h => by
    simp only [RdV] at h ⊢
    obtain ⟨a, h1, h2⟩ := h
    obtain ⟨l, p⟩ := e.pre
    exact ⟨a, by rw [p, List.getElem?_append_left (by have := (List.getElem?_eq_some_iff.mp h1).1; exact this)]; exact h1, h2⟩
theorem RdL.monoU {U : Addr → Prop} (e : ExtU U H φ μ H' φ' μ') (hU : ∀ a, U a → B a) (hl : φ.length = μ.length) (hB : ∀ a, B' a → B a ∨ H a = none) : ∀ {ds : List D} {vs : List V}, RdL K H (Live φ μ B) φ ds vs → RdL K H' (Live φ' μ' B') φ' ds vs
  | [], _, h => h
  | d :: ds, vs, h => by
    simp only [RdL] at h ⊢
    obtain ⟨w, ws, e1, h1, h2⟩ := h
    exact ⟨w, ws, e1, RdV.monoU e hU hl hB h1, RdL.monoU e hU hl hB h2⟩
end
theorem RdV.monoB (e : Ext H φ μ H' φ' μ') (hl : φ.length = μ.length) (hB : ∀ a, B' a → B a ∨ H a = none) {d : D} {v : V} (h : RdV K H (Live φ μ B) φ d v) : RdV K H' (Live φ' μ' B') φ' d v := RdV.monoU (U := B) e.toU (fun _ h => h) hl hB h
theorem RdL.monoB (e : Ext H φ μ H' φ' μ') (hl : φ.length = μ.length) (hB : ∀ a, B' a → B a ∨ H a = none) {ds : List D} {vs : List V} (h : RdL K H (Live φ μ B) φ ds vs) : RdL K H' (Live φ' μ' B') φ' ds vs := RdL.monoU (U := B) e.toU (fun _ h => h) hl hB h
theorem RdV.mono (e : Ext H φ μ H' φ' μ') (hl : φ.length = μ.length) {d : D} {v : V} (h : RdV K H (Live φ μ B) φ d v) : RdV K H' (Live φ' μ' B) φ' d v := RdV.monoB e hl (fun _ h => .inl h) h
theorem RdL.mono (e : Ext H φ μ H' φ' μ') (hl : φ.length = μ.length) {ds : List D} {vs : List V} (h : RdL K H (Live φ μ B) φ ds vs) : RdL K H' (Live φ' μ' B) φ' ds vs := RdL.monoB e hl (fun _ h => .inl h) h
theorem CellOk.mono (e : Ext H φ μ H' φ' μ') (hl : φ.length = μ.length) {a : Addr} {c : Cell} (n : ¬ At φ μ a) (h : CellOk K H (Live φ μ B) φ a c) : CellOk K H' (Live φ' μ' B) φ' a c := by
  obtain ⟨o, vs, h1, ho, h2⟩ := h
  exact ⟨o, vs, e.keep a _ h1 ho.nt n, ho, RdL.mono e hl h2⟩
theorem RdL.length : ∀ {ds : List D} {vs : List V} {L : Addr → Prop}, RdL K H L φ ds vs → ds.length = vs.length
  | [], _, _, h => by simp only [RdL] at h; subst h; rfl
  | d :: ds, _, _, h => by
    simp only [RdL] at h
    obtain ⟨w, ws, rfl, _, h2⟩ := h
    rw [List.length_cons, List.length_cons, RdL.length h2]
theorem RdL.get : ∀ {ds : List D} {vs : List V} {L : Addr → Prop} {i : Nat} {d : D}, RdL K H L φ ds vs → ds[i]? = some d → ∃ v, vs[i]? = some v ∧ RdV K H L φ d v
  | [], _, _, _, _, _, e => by simp at e
  | x :: xs, _, _, i, d, h, e => by
    simp only [RdL] at h
    obtain ⟨w, ws, rfl, h1, h2⟩ := h
    cases i with
    | zero => simp at e; subst e; exact ⟨w, rfl, h1⟩
    | succ i =>
      obtain ⟨v, h3, h4⟩ := RdL.get h2 (by simpa using e)
      exact ⟨v, by simpa using h3, h4⟩
theorem RdL.append : ∀ {ds es : List D} {vs ws : List V} {L : Addr → Prop}, RdL K H L φ ds vs → RdL K H L φ es ws → RdL K H L φ (ds ++ es) (vs ++ ws)
  | [], _, _, _, _, h, q => by simp only [RdL] at h; subst h; exact q
  | d :: ds, _, _, _, _, h, q => by
    simp only [RdL] at h
    obtain ⟨w, ws, rfl, h1, h2⟩ := h
    rw [List.cons_append, List.cons_append]
    simp only [RdL]
    exact ⟨_, _, rfl, h1, RdL.append h2 q⟩
theorem RdL.take : ∀ {ds : List D} {vs : List V} {L : Addr → Prop} (n : Nat), RdL K H L φ ds vs → RdL K H L φ (ds.take n) (vs.take n)
  | [], _, _, _, h => by simp only [RdL] at h; subst h; simp [RdL]
  | d :: ds, _, _, 0, h => by simp [RdL]
  | d :: ds, _, _, n + 1, h => by
    simp only [RdL] at h
    obtain ⟨w, ws, rfl, h1, h2⟩ := h
    rw [List.take_succ_cons, List.take_succ_cons]
    simp only [RdL]
    exact ⟨_, _, rfl, h1, RdL.take n h2⟩
theorem RdL.drop : ∀ {ds : List D} {vs : List V} {L : Addr → Prop} (n : Nat), RdL K H L φ ds vs → RdL K H L φ (ds.drop n) (vs.drop n)
  | [], _, _, _, h => by simp only [RdL] at h; subst h; simp [RdL]
  | d :: ds, _, _, 0, h => by simpa using h
  | d :: ds, _, _, n + 1, h => by
    simp only [RdL] at h
    obtain ⟨w, ws, rfl, h1, h2⟩ := h
    rw [List.drop_succ_cons, List.drop_succ_cons]
    exact RdL.drop n h2
theorem RdL.set : ∀ {ds : List D} {vs : List V} {L : Addr → Prop} (n : Nat), RdL K H L φ ds vs → RdV K H L φ d v → RdL K H L φ (ds.set n d) (vs.set n v)
  | [], _, _, _, h, _ => by simp only [RdL] at h; subst h; simp [RdL]
  | x :: ds, _, _, 0, h, q => by
    simp only [RdL] at h
    obtain ⟨w, ws, rfl, h1, h2⟩ := h
    rw [List.set_cons_zero, List.set_cons_zero]
    simp only [RdL]
    exact ⟨_, _, rfl, q, h2⟩
  | x :: ds, _, _, n + 1, h, q => by
    simp only [RdL] at h
    obtain ⟨w, ws, rfl, h1, h2⟩ := h
    rw [List.set_cons_succ, List.set_cons_succ]
    simp only [RdL]
    exact ⟨_, _, rfl, h1, RdL.set n h2 q⟩
theorem RdL.rep {L : Addr → Prop} (h : RdL K H L φ ds vs) : ∀ k : Nat, RdL K H L φ (List.replicate k ds).flatten (List.replicate k vs).flatten
  | 0 => by simp [RdL]
  | k + 1 => by
    rw [List.replicate_succ, List.replicate_succ, List.flatten_cons, List.flatten_cons]
    exact h.append (RdL.rep h k)
theorem RdL.cons {L : Addr → Prop} (h : RdV K H L φ d v) (q : RdL K H L φ ds vs) : RdL K H L φ (d :: ds) (v :: vs) := by
  simp only [RdL]
  exact ⟨_, _, rfl, h, q⟩
theorem RdL.nil {L : Addr → Prop} : RdL K H L φ [] [] := by simp only [RdL]
/-- nothing but new things: all that is tracked stands -/
theorem Ext.grow (h : ∀ a o, H a = some o → H' a = some o) : Ext H φ μ H' φ μ :=
  ⟨⟨[], by simp⟩, fun _ _ h => h, fun i a o h1 h2 => (by rw [List.getElem?_eq_none h1] at h2; cases h2), fun a o q _ _ => h a o q, fun a o q nt => ⟨o, h a o q, nt⟩, fun a xs q => h a _ q, fun a o u q => h a _ q⟩
/-- nothing but new things, tables of code objects grown -/
theorem Ext.growN (h : LamX.ExtN H H') : Ext H φ μ H' φ μ :=
  ⟨⟨[], by simp⟩, fun _ _ h => h, fun i a o h1 h2 => (by rw [List.getElem?_eq_none h1] at h2; cases h2), fun a o q n _ => h a o q n, fun a o q nt => ⟨o, h a o q nt, nt⟩, fun a xs q => h a _ q nt_tup, fun a o u q => h a _ q nt_frz⟩
theorem MemOk.growN (m : MemOk K H φ μ B) (h : LamX.ExtN H H') (t : LamX.Tabs (lamT K) H') : MemOk K H' φ μ B := by
  have e : Ext H φ μ H' φ μ := Ext.growN h
  refine ⟨m.len, m.inj, fun i c a h1 h2 => ?_, fun a q => ?_, t⟩
  · obtain ⟨q, n⟩ := m.cell i c a h1 h2
    refine ⟨?_, n⟩
    obtain ⟨o, vs, q1, ho, q2⟩ := q
    exact ⟨o, vs, h a _ q1 ho.nt, ho, RdL.mono e m.len q2⟩
  · obtain ⟨o, q1, q2⟩ := m.bt a q
    exact ⟨o, h a o q1 q2, q2⟩
theorem MemOk.grow (m : MemOk K H φ μ B) (h : ∀ a o, H a = some o → H' a = some o) : MemOk K H' φ μ B := m.growN (fun a o q _ => h a o q) (m.tabs.ext h)
/-- a list is changed: the tables stay -/
theorem tabs_updC {T : List (Addr × Str)} {a : Addr} {o o' : HO} {c : Cell} {xs : List V} (hH : H a = some o') (hc : HoOf K c o' xs) (t : LamX.Tabs T H) : LamX.Tabs T (upd H a o) := fun p hp => by
  obtain ⟨ps, h1, h2, h3⟩ := t p hp
  have n1 : ∀ us, o' ≠ .tbl us := hc.nt
  have n2 : ∀ c q, o' ≠ LamX.CodeO c q := fun c q z => by
    unfold LamX.CodeO at z
    rcases hc.kind with ⟨ws, e⟩ | ⟨C, dx, gs, e⟩ <;> (rw [e] at z; cases z)
  refine ⟨ps, by rw [upd_ne (fun z => by rw [z, hH] at h1; exact n1 _ (Option.some.inj h1))]; exact h1, h2, fun pos cv hc => ?_⟩
  obtain ⟨c, e1, e2⟩ := h3 pos cv hc
  refine ⟨c, e1, ?_⟩
  rw [upd_ne (fun z => by rw [z, hH] at e2; exact n2 _ _ (Option.some.inj e2))]
  exact e2
theorem tabs_upd {T : List (Addr × Str)} {a : Addr} {o : HO} {xs : List V} (hH : H a = some (.lst xs)) (t : LamX.Tabs T H) : LamX.Tabs T (upd H a o) := tabs_updC (K := []) (c := .lst []) hH rfl t
theorem upd_keep {p : Addr} {o : HO} (hp : H p = none) : ∀ a u, H a = some u → upd H p o a = some u := fun a u h => by
  rw [upd_ne (ne_of_none h hp)]; exact h
end

/-! ### the names' values -/
structure Abs (K : PySem.W.Frag) (H : Hp) (σ : L2.St) (φ : List Addr) (ρ : DEnv) (μ : Mem) (B : Addr → Prop) : Prop where
  mem : MemOk K H φ μ B
  len : ρ.length = σ.length
  env : ∀ (i : Nat) (d : D), ρ[i]? = some (some d) → ∃ v, σ[i]? = some (some v) ∧ RdV K H (Live φ μ B) φ d v
/-- what lies of an exception -/
def ExnV (K : PySem.W.Frag) (x : Exn) (cls : Value) (dx : Option Addr) (H : Hp) : Prop := cls = .ref (He.ga K x.cls) ∧ (x.flds = [] → dx = none)
section
variable (K : PySem.W.Frag) (W : XK) (B : Addr → Prop)
def DenV (H : Hp) (φ : List Addr) (μ : Mem) (r : R D) (Q : VK) : Prop := match r with
  | .ok d μ' => ∀ v H' φ', Ext H φ μ H' φ' μ' → MemOk K H' φ' μ' B → RdV K H' (Live φ' μ' B) φ' d v → Q v H'
  | .er x μ' => ∀ H' φ', Ext H φ μ H' φ' μ' → MemOk K H' φ' μ' B → ∀ cls dx, ExnV K x cls dx H' → W cls dx H'
  | .no => False
def DenB (H : Hp) (φ : List Addr) (μ : Mem) (r : R Bool) (Q : Bool → Hp → Prop) : Prop := match r with
  | .ok b μ' => ∀ H' φ', Ext H φ μ H' φ' μ' → MemOk K H' φ' μ' B → Q b H'
  | .er x μ' => ∀ H' φ', Ext H φ μ H' φ' μ' → MemOk K H' φ' μ' B → ∀ cls dx, ExnV K x cls dx H' → W cls dx H'
  | .no => False
def DenU (H : Hp) (φ : List Addr) (μ : Mem) (r : R Unit) (Q : Hp → Prop) : Prop := match r with
  | .ok _ μ' => ∀ H' φ', Ext H φ μ H' φ' μ' → MemOk K H' φ' μ' B → Q H'
  | .er x μ' => ∀ H' φ', Ext H φ μ H' φ' μ' → MemOk K H' φ' μ' B → ∀ cls dx, ExnV K x cls dx H' → W cls dx H'
  | .no => False
def DenF (H : Hp) (φ : List Addr) (μ : Mem) (r : R Fl) (Dn : Ends) : Prop := match r with
  | .ok (.nx ρ) μ' => ∀ σ' H' φ', Ext H φ μ H' φ' μ' → Abs K H' σ' φ' ρ μ' B → Dn.nx σ' H'
  | .ok (.bk ρ) μ' => ∀ σ' H' φ', Ext H φ μ H' φ' μ' → Abs K H' σ' φ' ρ μ' B → Dn.bk σ' H'
  | .ok (.ct ρ) μ' => ∀ σ' H' φ', Ext H φ μ H' φ' μ' → Abs K H' σ' φ' ρ μ' B → Dn.ct σ' H'
  | .ok (.rt d) μ' => ∀ v H' φ', Ext H φ μ H' φ' μ' → MemOk K H' φ' μ' B → RdV K H' (Live φ' μ' B) φ' d v → Dn.rt v H'
  | .er x μ' => ∀ H' φ', Ext H φ μ H' φ' μ' → MemOk K H' φ' μ' B → ∀ cls dx, ExnV K x cls dx H' → W cls dx H'
  | .no => False
end
section
variable {K : PySem.W.Frag} {W : XK} {B : Addr → Prop} {H H1 H' : Hp} {φ φ1 φ' : List Addr} {μ μ1 μ' : Mem} {σ : L2.St} {ρ : DEnv}
theorem Abs.ext (a : Abs K H σ φ ρ μ B) (e : Ext H φ μ H' φ' μ') (m : MemOk K H' φ' μ' B) : Abs K H' σ φ' ρ μ' B :=
  ⟨m, a.len, fun i d h => let ⟨v, h1, h2⟩ := a.env i d h; ⟨v, h1, RdV.mono e a.mem.len h2⟩⟩
theorem Abs.set (a : Abs K H σ φ ρ μ B) {i : Nat} {d : D} {v : V} (r : RdV K H (Live φ μ B) φ d v) : Abs K H (σ.set i (some v)) φ (ρ.set i (some d)) μ B := by
  refine ⟨a.mem, by simpa using a.len, fun j e h => ?_⟩
  by_cases hj : i = j
  · subst hj
    have hl : i < ρ.length := by
      have q := (List.getElem?_eq_some_iff.mp h).1
      simpa using q
    rw [List.getElem?_set_self hl] at h
    cases h
    exact ⟨v, by rw [List.getElem?_set_self (by rw [← a.len]; exact hl)], r⟩
  · rw [List.getElem?_set_ne hj] at h
    obtain ⟨w, h1, h2⟩ := a.env j e h
    exact ⟨w, by rw [List.getElem?_set_ne hj]; exact h1, h2⟩
theorem wipeD_length (ρ : DEnv) : ∀ vs : List Nat, (wipeD ρ vs).length = ρ.length
  | [] => rfl
  | v :: vs => by unfold wipeD; rw [List.length_set, wipeD_length ρ vs]
theorem wipe_both {ρ : DEnv} {σ : L2.St} : ∀ {vs : List Nat} {i : Nat} {d : D}, (wipeD ρ vs)[i]? = some (some d) → ρ[i]? = some (some d) ∧ ∀ v, σ[i]? = some (some v) → (L2.wipe σ vs)[i]? = some (some v)
  | [], _, _, h => ⟨h, fun _ q => q⟩
  | v :: vs, i, d, h => by
    unfold wipeD at h
    by_cases hi : v = i
    · subst hi
      by_cases hv : v < (wipeD ρ vs).length
      · rw [List.getElem?_set_self hv] at h; cases h
      · rw [List.getElem?_eq_none (by simpa using hv)] at h; cases h
    · rw [List.getElem?_set_ne hi] at h
      obtain ⟨h1, h2⟩ := wipe_both (σ := σ) h
      refine ⟨h1, fun w q => ?_⟩
      unfold L2.wipe
      rw [List.getElem?_set_ne hi]
      exact h2 w q
theorem Abs.wiped (a : Abs K H σ φ ρ μ B) (vs : List Nat) : Abs K H (L2.wipe σ vs) φ (wipeD ρ vs) μ B :=
  ⟨a.mem, by rw [wipeD_length, L2.wipe_length]; exact a.len, fun i d h => by
    obtain ⟨h1, h2⟩ := wipe_both (σ := σ) h
    obtain ⟨v, q1, q2⟩ := a.env i d h1
    exact ⟨v, h2 v q1, q2⟩⟩
theorem DenV.shift (e : Ext H φ μ H1 φ1 μ1) (hl : φ.length = μ.length) {r : R D} {Q : VK} (h : DenV K W B H φ μ r Q) : DenV K W B H1 φ1 μ1 r Q := by
  cases r with
  | ok d m => exact fun v H' φ' f m' rd => h v H' φ' (e.trans hl f) m' rd
  | er x m => exact fun H' φ' f m' cls dx q => h H' φ' (e.trans hl f) m' cls dx q
  | no => exact h
theorem DenB.shift (e : Ext H φ μ H1 φ1 μ1) (hl : φ.length = μ.length) {r : R Bool} {Q : Bool → Hp → Prop} (h : DenB K W B H φ μ r Q) : DenB K W B H1 φ1 μ1 r Q := by
  cases r with
  | ok d m => exact fun H' φ' f m' => h H' φ' (e.trans hl f) m'
  | er x m => exact fun H' φ' f m' cls dx q => h H' φ' (e.trans hl f) m' cls dx q
  | no => exact h
theorem DenU.shift (e : Ext H φ μ H1 φ1 μ1) (hl : φ.length = μ.length) {r : R Unit} {Q : Hp → Prop} (h : DenU K W B H φ μ r Q) : DenU K W B H1 φ1 μ1 r Q := by
  cases r with
  | ok d m => exact fun H' φ' f m' => h H' φ' (e.trans hl f) m'
  | er x m => exact fun H' φ' f m' cls dx q => h H' φ' (e.trans hl f) m' cls dx q
  | no => exact h
theorem DenF.shift (e : Ext H φ μ H1 φ1 μ1) (hl : φ.length = μ.length) {r : R Fl} {Dn : Ends} (h : DenF K W B H φ μ r Dn) : DenF K W B H1 φ1 μ1 r Dn := by
  cases r with
  | ok f m =>
    cases f with
    | nx ρ => exact fun σ' H' φ' f a => h σ' H' φ' (e.trans hl f) a
    | bk ρ => exact fun σ' H' φ' f a => h σ' H' φ' (e.trans hl f) a
    | ct ρ => exact fun σ' H' φ' f a => h σ' H' φ' (e.trans hl f) a
    | rt d => exact fun v H' φ' f m' rd => h v H' φ' (e.trans hl f) m' rd
  | er x m => exact fun H' φ' f m' cls dx q => h H' φ' (e.trans hl f) m' cls dx q
  | no => exact h
/-- behind a value: what goes on, at the later state -/
theorem DenV.imp {r : R D} {Q Q' : VK} (h : DenV K W B H φ μ r Q) (f : ∀ v H1, Q v H1 → Q' v H1) : DenV K W B H φ μ r Q' := by
  cases r with
  | ok d m => exact fun v H' φ' e m' rd => f _ _ (h v H' φ' e m' rd)
  | er x m => exact h
  | no => exact h
theorem DenV.bindV (hl : φ.length = μ.length) {r : R D} {f : D → Mem → R D} {Q : VK} (h : DenV K W B H φ μ (r.bind f) Q) :
    DenV K W B H φ μ r (fun v H1 => ∃ φ1 μ1 d, Ext H φ μ H1 φ1 μ1 ∧ MemOk K H1 φ1 μ1 B ∧ RdV K H1 (Live φ1 μ1 B) φ1 d v ∧ DenV K W B H1 φ1 μ1 (f d μ1) Q) := by
  cases r with
  | ok d m => exact fun v H' φ' e m' rd => ⟨φ', m, d, e, m', rd, DenV.shift e hl h⟩
  | er x m => exact h
  | no => exact h
theorem DenB.bindV (hl : φ.length = μ.length) {r : R D} {f : D → Mem → R Bool} {Q : Bool → Hp → Prop} (h : DenB K W B H φ μ (r.bind f) Q) :
    DenV K W B H φ μ r (fun v H1 => ∃ φ1 μ1 d, Ext H φ μ H1 φ1 μ1 ∧ MemOk K H1 φ1 μ1 B ∧ RdV K H1 (Live φ1 μ1 B) φ1 d v ∧ DenB K W B H1 φ1 μ1 (f d μ1) Q) := by
  cases r with
  | ok d m => exact fun v H' φ' e m' rd => ⟨φ', m, d, e, m', rd, DenB.shift e hl h⟩
  | er x m => exact h
  | no => exact h
theorem DenU.bindV (hl : φ.length = μ.length) {r : R D} {f : D → Mem → R Unit} {Q : Hp → Prop} (h : DenU K W B H φ μ (r.bind f) Q) :
    DenV K W B H φ μ r (fun v H1 => ∃ φ1 μ1 d, Ext H φ μ H1 φ1 μ1 ∧ MemOk K H1 φ1 μ1 B ∧ RdV K H1 (Live φ1 μ1 B) φ1 d v ∧ DenU K W B H1 φ1 μ1 (f d μ1) Q) := by
  cases r with
  | ok d m => exact fun v H' φ' e m' rd => ⟨φ', m, d, e, m', rd, DenU.shift e hl h⟩
  | er x m => exact h
  | no => exact h
theorem DenF.bindV (hl : φ.length = μ.length) {r : R D} {f : D → Mem → R Fl} {Dn : Ends} (h : DenF K W B H φ μ (r.bind f) Dn) :
    DenV K W B H φ μ r (fun v H1 => ∃ φ1 μ1 d, Ext H φ μ H1 φ1 μ1 ∧ MemOk K H1 φ1 μ1 B ∧ RdV K H1 (Live φ1 μ1 B) φ1 d v ∧ DenF K W B H1 φ1 μ1 (f d μ1) Dn) := by
  cases r with
  | ok d m => exact fun v H' φ' e m' rd => ⟨φ', m, d, e, m', rd, DenF.shift e hl h⟩
  | er x m => exact h
  | no => exact h
theorem DenV.bindB (hl : φ.length = μ.length) {r : R Bool} {f : Bool → Mem → R D} {Q : VK} (h : DenV K W B H φ μ (r.bind f) Q) :
    DenB K W B H φ μ r (fun b H1 => ∃ φ1 μ1, Ext H φ μ H1 φ1 μ1 ∧ MemOk K H1 φ1 μ1 B ∧ DenV K W B H1 φ1 μ1 (f b μ1) Q) := by
  cases r with
  | ok d m => exact fun H' φ' e m' => ⟨φ', m, e, m', DenV.shift e hl h⟩
  | er x m => exact h
  | no => exact h
theorem DenB.bindB (hl : φ.length = μ.length) {r : R Bool} {f : Bool → Mem → R Bool} {Q : Bool → Hp → Prop} (h : DenB K W B H φ μ (r.bind f) Q) :
    DenB K W B H φ μ r (fun b H1 => ∃ φ1 μ1, Ext H φ μ H1 φ1 μ1 ∧ MemOk K H1 φ1 μ1 B ∧ DenB K W B H1 φ1 μ1 (f b μ1) Q) := by
  cases r with
  | ok d m => exact fun H' φ' e m' => ⟨φ', m, e, m', DenB.shift e hl h⟩
  | er x m => exact h
  | no => exact h
theorem DenF.bindB (hl : φ.length = μ.length) {r : R Bool} {f : Bool → Mem → R Fl} {Dn : Ends} (h : DenF K W B H φ μ (r.bind f) Dn) :
    DenB K W B H φ μ r (fun b H1 => ∃ φ1 μ1, Ext H φ μ H1 φ1 μ1 ∧ MemOk K H1 φ1 μ1 B ∧ DenF K W B H1 φ1 μ1 (f b μ1) Dn) := by
  cases r with
  | ok d m => exact fun H' φ' e m' => ⟨φ', m, e, m', DenF.shift e hl h⟩
  | er x m => exact h
  | no => exact h
theorem DenF.bindU (hl : φ.length = μ.length) {r : R Unit} {f : Unit → Mem → R Fl} {Dn : Ends} (h : DenF K W B H φ μ (r.bind f) Dn) :
    DenU K W B H φ μ r (fun H1 => ∃ φ1 μ1, Ext H φ μ H1 φ1 μ1 ∧ MemOk K H1 φ1 μ1 B ∧ DenF K W B H1 φ1 μ1 (f () μ1) Dn) := by
  cases r with
  | ok d m => exact fun H' φ' e m' => ⟨φ', m, e, m', DenF.shift e hl h⟩
  | er x m => exact h
  | no => exact h
theorem DenB.imp {r : R Bool} {Q Q' : Bool → Hp → Prop} (h : DenB K W B H φ μ r Q) (f : ∀ v H1, Q v H1 → Q' v H1) : DenB K W B H φ μ r Q' := by
  cases r with
  | ok d m => exact fun H' φ' e m' => f _ _ (h H' φ' e m')
  | er x m => exact h
  | no => exact h
/-- it is there: nothing changed -/
theorem DenV.here (m : MemOk K H φ μ B) {d : D} {v : V} {Q : VK} (h : DenV K W B H φ μ (.ok d μ) Q) (r : RdV K H (Live φ μ B) φ d v) : Q v H := h v H φ .refl m r
/-- something new has been laid -/
theorem DenV.new (m : MemOk K H φ μ B) {d : D} {v : V} {Q : VK} (h : DenV K W B H φ μ (.ok d μ) Q) {p : Addr} {o : HO} (hp : H p = none) (r : RdV K (upd H p o) (Live φ μ B) φ d v) : Q v (upd H p o) :=
  h v _ φ (.grow (upd_keep hp)) (m.grow (upd_keep hp)) r
theorem MemOk.nlive (m : MemOk K H φ μ B) {p : Addr} (hp : H p = none) : ¬ Live φ μ B p := fun l => by
  rcases l with l | ⟨i, c, h1, h2⟩
  · obtain ⟨o, q, _⟩ := m.bt p l
    rw [hp] at q; cases q
  · obtain ⟨q, _⟩ := m.cell i c p h1 h2
    obtain ⟨o, vs, e, _⟩ := q
    rw [hp] at e; cases e
/-- a new thing that may be changed -/
theorem new_cell (m : MemOk K H φ μ B) {p : Addr} {o : HO} {vs : List V} {c0 : Cell} (hp : H p = none) (ho : HoOf K c0 o vs) (rl : RdL K H (Live φ μ B) φ c0.ds vs) :
    Ext H φ μ (upd H p o) (φ ++ [p]) (μ ++ [some c0]) ∧ MemOk K (upd H p o) (φ ++ [p]) (μ ++ [some c0]) B := by
  have ml : φ.length = μ.length := m.len
  have e : Ext H φ μ (upd H p o) (φ ++ [p]) (μ ++ [some c0]) := by
    refine ⟨⟨[p], rfl⟩, fun i hi h => ?_, fun i a u h1 h2 h3 => ?_, fun a u h _ _ => upd_keep hp a u h, fun a u h nt => ⟨u, upd_keep hp a u h, nt⟩, fun a xs h => upd_keep hp a _ h, fun a u x h => upd_keep hp a _ h⟩
    · rw [List.getElem?_append_left (by omega)]
      exact h
    · have hi : i = φ.length := by
        have := (List.getElem?_eq_some_iff.mp h2).1
        simp at this; omega
      rw [hi, List.getElem?_append_right (Nat.le_refl _), Nat.sub_self] at h2
      cases h2
      rw [hp] at h3
      cases h3
  have nB : ¬ B p := fun z => (by obtain ⟨u, q, _⟩ := m.bt p z; rw [hp] at q; cases q)
  refine ⟨e, by simp [m.len], fun i j a c c' h1 h2 h3 h4 => ?_, fun i c a h1 h2 => ?_, fun a h1 => ?_, m.tabs.ext (upd_keep hp)⟩
  · have lt : ∀ {i : Nat} {c : Cell}, (μ ++ [some c0])[i]? = some (some c) → i < μ.length ∨ i = μ.length := fun {i c} h => by
      have := (List.getElem?_eq_some_iff.mp h).1
      simp at this; omega
    have get : ∀ {i : Nat} {c : Cell}, i < μ.length → (μ ++ [some c0])[i]? = some (some c) → (φ ++ [p])[i]? = some a → a ≠ p := fun {i c} hi h h' => by
      rw [List.getElem?_append_left hi] at h
      rw [List.getElem?_append_left (by rw [ml]; exact hi)] at h'
      intro z
      subst z
      obtain ⟨⟨u, ws, q1, _⟩, _⟩ := m.cell i c a h h'
      rw [hp] at q1; cases q1
    have top : ∀ {i : Nat}, i = μ.length → (φ ++ [p])[i]? = some a → a = p := fun {i} hi h => by
      rw [hi, ← ml, List.getElem?_append_right (Nat.le_refl _), Nat.sub_self] at h
      cases h; rfl
    rcases lt h1 with l1 | l1
    · rcases lt h2 with l2 | l2
      · rw [List.getElem?_append_left l1] at h1
        rw [List.getElem?_append_left l2] at h2
        rw [List.getElem?_append_left (by rw [ml]; exact l1)] at h3
        rw [List.getElem?_append_left (by rw [ml]; exact l2)] at h4
        exact m.inj i j a c c' h1 h2 h3 h4
      · exact absurd (top l2 h4) (get l1 h1 h3)
    · rcases lt h2 with l2 | l2
      · exact absurd (top l1 h3) (get l2 h2 h4)
      · rw [l1, l2]
  · by_cases hi : i < μ.length
    · rw [List.getElem?_append_left hi] at h1
      rw [List.getElem?_append_left (by rw [ml]; exact hi)] at h2
      obtain ⟨⟨u, ws, q1, hu, q2⟩, n⟩ := m.cell i c a h1 h2
      exact ⟨⟨u, ws, upd_keep hp a _ q1, hu, RdL.mono e ml q2⟩, n⟩
    · have hi' : i = μ.length := by
        have := (List.getElem?_eq_some_iff.mp h1).1
        simp at this; omega
      rw [hi', List.getElem?_append_right (Nat.le_refl _), Nat.sub_self] at h1
      rw [hi', ← ml, List.getElem?_append_right (Nat.le_refl _), Nat.sub_self] at h2
      cases h1
      cases h2
      exact ⟨⟨o, vs, upd_same, ho, RdL.mono e ml rl⟩, nB⟩
  · obtain ⟨u, q1, q2⟩ := m.bt a h1
    exact ⟨u, upd_keep hp a u q1, q2⟩
theorem set_get {μ : Mem} {n i : Nat} {c : Option Cell} {d : Option Cell} (h : (μ.set n c)[i]? = some d) : (i = n ∧ d = c ∧ n < μ.length) ∨ (i ≠ n ∧ μ[i]? = some d) := by
  by_cases hi : n = i
  · subst hi
    have hl : n < μ.length := by
      have := (List.getElem?_eq_some_iff.mp h).1
      simpa using this
    rw [List.getElem?_set_self hl] at h
    exact .inl ⟨rfl, (Option.some.inj h).symm, hl⟩
  · rw [List.getElem?_set_ne hi] at h
    exact .inr ⟨fun e => hi e.symm, h⟩
theorem write_any (m : MemOk K H φ μ B) {n : Nat} {a : Addr} {c0 c1 : Cell} {o0 o1 : HO} {vs ws : List V} (hn : μ[n]? = some (some c0)) (ha : φ[n]? = some a) (hH : H a = some o0) (h0 : HoOf K c0 o0 vs) (h1' : HoOf K c1 o1 ws) (rl : RdL K H (Live φ μ B) φ c1.ds ws) :
    Ext H φ μ (upd H a o1) φ (μ.set n (some c1)) ∧ MemOk K (upd H a o1) φ (μ.set n (some c1)) B := by
  have at0 : At φ μ a := ⟨n, _, hn, ha⟩
  have e : Ext H φ μ (upd H a o1) φ (μ.set n (some c1)) := by
    refine ⟨⟨[], by simp⟩, fun i hi h => ?_, fun i b o h1 h2 => (by rw [List.getElem?_eq_none h1] at h2; cases h2), fun b o h nt hb => ?_, fun b o h nt => ?_, fun b us h => ?_, fun b o u h => ?_⟩
    · have hne : n ≠ i := fun z => by rw [← z, hn] at h; cases h
      rw [List.getElem?_set_ne hne]; exact h
    · rw [upd_ne (fun z => hb (by rw [z]; exact at0))]; exact h
    · by_cases z : b = a
      · exact ⟨_, by rw [z, upd_same], h1'.nt⟩
      · exact ⟨o, by rw [upd_ne z]; exact h, nt⟩
    · rw [upd_ne (fun z => by rw [z, hH] at h; rcases h0.kind with ⟨_, q⟩ | ⟨_, _, _, q⟩ <;> (rw [q] at h; cases h))]; exact h
    · rw [upd_ne (fun z => by rw [z, hH] at h; rcases h0.kind with ⟨_, q⟩ | ⟨_, _, _, q⟩ <;> (rw [q] at h; cases h))]; exact h
  have sg : ∀ {i : Nat} {c : Cell}, (μ.set n (some c1))[i]? = some (some c) → ∃ c', μ[i]? = some (some c') := fun {i c} h => by
    rcases set_get h with ⟨h1, _, _⟩ | ⟨_, h1⟩
    · exact ⟨_, by rw [h1]; exact hn⟩
    · exact ⟨c, h1⟩
  refine ⟨e, by rw [List.length_set]; exact m.len, fun i j b c c' h1 h2 h3 h4 => ?_, fun i c b h1 h2 => ?_, fun b h => ?_, tabs_updC hH h0 m.tabs⟩
  · obtain ⟨c1, g1⟩ := sg h1
    obtain ⟨c2, g2⟩ := sg h2
    exact m.inj i j b c1 c2 g1 g2 h3 h4
  · rcases set_get h1 with ⟨g1, g2, _⟩ | ⟨g1, g2⟩
    · cases g2
      rw [g1, ha] at h2
      cases h2
      exact ⟨⟨o1, ws, upd_same, h1', RdL.mono e m.len rl⟩, (m.cell n _ a hn ha).2⟩
    · obtain ⟨q, nb⟩ := m.cell i c b g2 h2
      refine ⟨?_, nb⟩
      have hne : b ≠ a := fun z => g1 (m.inj i n a c _ g2 hn (by rw [← z]; exact h2) ha)
      obtain ⟨u, us, q1, hu, q2⟩ := q
      exact ⟨u, us, by rw [upd_ne hne]; exact q1, hu, RdL.mono e m.len q2⟩
  · obtain ⟨o, q1, q2⟩ := m.bt b h
    exact e.there b o q1 q2
theorem write_cell (m : MemOk K H φ μ B) {n : Nat} {a : Addr} {xs ys : List D} {vs ws : List V} (hn : μ[n]? = some (some (.lst xs))) (ha : φ[n]? = some a) (hH : H a = some (.lst vs)) (rl : RdL K H (Live φ μ B) φ ys ws) :
    Ext H φ μ (upd H a (.lst ws)) φ (μ.set n (some (.lst ys))) ∧ MemOk K (upd H a (.lst ws)) φ (μ.set n (some (.lst ys))) B := write_any (c0 := .lst xs) (c1 := .lst ys) m hn ha hH (o1 := .lst ws) rfl rfl rl
end
end Den

/-! DenS: text * int. -/
namespace Den
open PySem PySem.Spec PyProof.Rows L2
theorem repS_len (a : Str) (n : Nat) : (List.replicate n a.cps).foldl (· ++ ·) #[] = ((List.replicate n a.cps.toList).flatten).toArray := by
  have go : ∀ (m : Nat) (b : Array Nat), (List.replicate m a.cps).foldl (· ++ ·) b = b ++ ((List.replicate m a.cps.toList).flatten).toArray := by
    intro m
    induction m with
    | zero => intro b; simp
    | succ m ih =>
      intro b
      rw [List.replicate_succ, List.foldl_cons, ih, List.replicate_succ, List.flatten_cons]
      apply Array.toList_inj.mp
      simp
  rw [go]
  simp
theorem flat_len (n : Nat) (l : List Nat) : (List.replicate n l).flatten.length = n * l.length := by
  induction n with
  | zero => simp
  | succ n ih => rw [List.replicate_succ, List.flatten_cons, List.length_append, ih, Nat.succ_mul]; omega
theorem op_mulS {X : Cx} : OpR X (binaryOp .Mult) (fun x y H Q => ∃ a k, x = .str a ∧ y = .int k ∧ -(2 ^ 63) ≤ k ∧ k < 2 ^ 63 ∧ a.length * k.toNat ≤ 16777216 ∧ Q (.str (repS a k.toNat)) H) := by
  intro pins s σ H x y v u Q I rx ry h
  obtain ⟨a, k, rfl, rfl, h1, h2, hz, q⟩ := h
  obtain ⟨t, rfl⟩ := rx
  obtain ⟨t2, rfl⟩ := ry
  have hr : (decide (k < -(2 ^ 63 : Int)) || decide (k ≥ 2 ^ 63)) = false := by
    rw [decide_eq_false (by omega), decide_eq_false (by omega)]
    rfl
  refine PySem.P.mul_str hr (fun hk _ hb => ?_) (fun hk _ => ?_) ?_
  · have hk' : 0 < k := by omega
    have e1 : ((a.length : Int)) * k ≤ 16777216 := by
      have gen : ∀ m : Nat, m ≤ 16777216 → ((m : Nat) : Int) ≤ 16777216 := fun m h => by omega
      have : ((a.length * k.toNat : Nat) : Int) ≤ 16777216 := gen _ hz
      rw [Int.natCast_mul] at this
      rw [show ((k.toNat : Nat) : Int) = k from Int.toNat_of_nonneg (by omega)] at this
      exact this
    have e2 : (a.length : Int) ≤ (2 ^ 63 - 1) / k := (Int.le_ediv_iff_mul_le hk').mpr (Int.le_trans e1 (by decide))
    omega
  · exact decide_eq_false (by rw [sizeLine_eq]; omega)
  · split
    · rename_i hk
      have e0 : k.toNat = 0 := by omega
      have e1 : repS a k.toNat = Str.empty := by rw [e0]; rfl
      rw [e1] at q
      exact ⟨by decide, ⟨.str Str.empty, H, I.tok _, ⟨_, rfl⟩, q⟩⟩
    · split
      · rename_i hk hc
        have e1 : repS a k.toNat = a := by
          simp only [Bool.or_eq_true, beq_iff_eq] at hc
          rcases hc with hc | hc
          · subst hc
            show (⟨((List.replicate 1 a.cps.toList).flatten).toArray⟩ : Str) = a
            simp
          · have hn : a.cps.toList = [] := List.eq_nil_of_length_eq_zero (by rw [Array.length_toList]; exact hc)
            have hf : (List.replicate k.toNat ([] : List Nat)).flatten = [] := by simp
            unfold repS
            rw [hn, hf]
            have : a.cps = #[] := Array.toList_inj.mp hn
            cases a
            simp_all
        rw [e1] at q
        exact ⟨.str a, H, I, ⟨_, rfl⟩, q⟩
      · rw [repS_len]
        refine ⟨?_, ⟨.str (repS a k.toNat), H, I.tok _, ⟨_, rfl⟩, q⟩⟩
        show (((List.replicate k.toNat a.cps.toList).flatten).toArray).size ≤ sizeLine
        rw [List.size_toArray, flat_len, Array.length_toList, sizeLine_eq]
        have : a.length = a.cps.size := rfl
        rw [Nat.mul_comm]
        rw [this] at hz
        omega
end Den

/-! Den3: each operation of the interpreter stands over the hand layer's rule. -/
namespace Den
open PySem PySem.Spec PyProof.Rows L2
variable [Lams]

theorem fits_iff {n : Nat} : fits n = true ↔ n ≤ sizeLine := by unfold fits; rw [sizeLine_eq]; simp
section
variable {K : PySem.W.Frag} {W : XK} {B : Addr → Prop} {H H1 H' : Hp} {φ φ1 φ' : List Addr} {μ μ1 μ' : Mem} {L : Addr → Prop} {d e : D} {v w : V} {ds es : List D} {vs ws : List V}
theorem rdV_int {i : Int} (h : RdV K H L φ (.int i) v) : v = .int i := by simpa only [RdV] using h
theorem rdV_str {i : Str} (h : RdV K H L φ (.str i) v) : v = .str i := by simpa only [RdV] using h
theorem rdV_bl {i : Bool} (h : RdV K H L φ (.bl i) v) : v = .bl i := by simpa only [RdV] using h
theorem rdV_non (h : RdV K H L φ .non v) : v = .non := by simpa only [RdV] using h
theorem rdV_tup (h : RdV K H L φ (.tup ds) v) : ∃ a vs, v = .ref a ∧ SqT K H a vs ∧ RdL K H L φ ds vs := by simpa only [RdV] using h
theorem rdV_lst (h : RdV K H L φ (.lst ds) v) : ∃ a vs, v = .ref a ∧ H a = some (.lst vs) ∧ ¬ L a ∧ RdL K H L φ ds vs := by simpa only [RdV] using h
theorem rd_int {i : Int} : RdV K H L φ (.int i) (.int i) := by simp only [RdV]
theorem rd_bl {i : Bool} : RdV K H L φ (.bl i) (.bl i) := by simp only [RdV]
theorem rd_str {i : Str} : RdV K H L φ (.str i) (.str i) := by simp only [RdV]
theorem rd_non : RdV K H L φ .non .non := by simp only [RdV]
/-- a list to be read -/
theorem asLst_rd (m : MemOk K H φ μ B) (h : RdV K H (Live φ μ B) φ d v) (q : asLst μ d = some ds) : ∃ a vs, v = .ref a ∧ H a = some (.lst vs) ∧ RdL K H (Live φ μ B) φ ds vs := by
  cases d with
  | lst xs =>
    simp only [asLst, Option.some.injEq] at q
    subst q
    obtain ⟨a, vs, e, h1, _, h2⟩ := rdV_lst h
    exact ⟨a, vs, e, h1, h2⟩
  | cel n =>
    simp only [RdV] at h
    obtain ⟨a, h1, rfl⟩ := h
    simp only [asLst] at q
    split at q
    · rename_i xs hx
      cases q
      obtain ⟨⟨_, vs, e1, rfl, e2⟩, _⟩ := m.cell n _ a hx h1
      exact ⟨a, vs, rfl, e1, e2⟩
    · cases q
  | _ => simp [asLst] at q
theorem asSeq_rd (m : MemOk K H φ μ B) (h : RdV K H (Live φ μ B) φ d v) (q : asSeq μ d = some ds) : ∃ a vs, v = .ref a ∧ (SqL K H a vs ∨ SqT K H a vs) ∧ RdL K H (Live φ μ B) φ ds vs := by
  cases d with
  | tup xs =>
    simp only [asSeq, Option.some.injEq] at q
    subst q
    obtain ⟨a, vs, e, h1, h2⟩ := rdV_tup h
    exact ⟨a, vs, e, .inr h1, h2⟩
  | _ =>
    obtain ⟨a, vs, e, h1, h2⟩ := asLst_rd m h (by simpa only [asSeq] using q)
    exact ⟨a, vs, e, .inl (.of h1), h2⟩
/-- a new list, a new tuple -/
theorem rd_newL (m : MemOk K H φ μ B) {p : Addr} (hp : H p = none) (h : RdL K H (Live φ μ B) φ ds vs) : RdV K (upd H p (.lst vs)) (Live φ μ B) φ (.lst ds) (.ref p) := by
  simp only [RdV]
  exact ⟨p, vs, rfl, upd_same, m.nlive hp, RdL.mono (.grow (upd_keep hp)) m.len h⟩
theorem rd_newT (m : MemOk K H φ μ B) {p : Addr} (hp : H p = none) (h : RdL K H (Live φ μ B) φ ds vs) : RdV K (upd H p (.tup vs)) (Live φ μ B) φ (.tup ds) (.ref p) := by
  simp only [RdV]
  exact ⟨p, vs, rfl, .of upd_same, RdL.mono (.grow (upd_keep hp)) m.len h⟩
theorem intsOf_rd : ∀ {ds : List D} {vs : List V} {ns : List Int}, RdL K H L φ ds vs → intsOf ds = some ns → vs = ns.map V.int
  | [], vs, ns, h, q => by simp only [RdL] at h; simp only [intsOf, Option.some.injEq] at q; subst h; subst q; rfl
  | .int i :: ds, vs, ns, h, q => by
    simp only [RdL] at h
    obtain ⟨w, ws, rfl, h1, h2⟩ := h
    simp only [intsOf, Option.map_eq_some_iff] at q
    obtain ⟨r, q1, rfl⟩ := q
    rw [rdV_int h1, intsOf_rd h2 q1, List.map_cons]
  | .non :: _, _, _, _, q | .bl _ :: _, _, _, _, q | .str _ :: _, _, _, _, q | .tup _ :: _, _, _, _, q | .lst _ :: _, _, _, _, q | .fls _ :: _, _, _, _, q | .glo _ :: _, _, _, _, q | .cel _ :: _, _, _, _, q => by simp [intsOf] at q
theorem blsOf_rd : ∀ {ds : List D} {vs : List V} {ns : List Bool}, RdL K H L φ ds vs → blsOf ds = some ns → vs = ns.map V.bl
  | [], vs, ns, h, q => by simp only [RdL] at h; simp only [blsOf, Option.some.injEq] at q; subst h; subst q; rfl
  | .bl i :: ds, vs, ns, h, q => by
    simp only [RdL] at h
    obtain ⟨w, ws, rfl, h1, h2⟩ := h
    simp only [blsOf, Option.map_eq_some_iff] at q
    obtain ⟨r, q1, rfl⟩ := q
    rw [rdV_bl h1, blsOf_rd h2 q1, List.map_cons]
  | .non :: _, _, _, _, q | .int _ :: _, _, _, _, q | .str _ :: _, _, _, _, q | .tup _ :: _, _, _, _, q | .lst _ :: _, _, _, _, q | .fls _ :: _, _, _, _, q | .glo _ :: _, _, _, _, q | .cel _ :: _, _, _, _, q => by simp [blsOf] at q
mutual
theorem py_rd : ∀ {d : D} {v : V} {p : PyData}, RdV K H L φ d v → d.py = some p → Dp K H v p
  | .non, v, p, h, q => by simp only [D.py, Option.some.injEq] at q; subst q; rw [rdV_non h]; exact .non
  | .bl b, v, p, h, q => by simp only [D.py, Option.some.injEq] at q; subst q; rw [rdV_bl h]; exact .bl b
  | .int i, v, p, h, q => by simp only [D.py, Option.some.injEq] at q; subst q; rw [rdV_int h]; exact .int i
  | .str x, v, p, h, q => by simp only [D.py, Option.some.injEq] at q; subst q; rw [rdV_str h]; exact .str x
  | .tup ds, v, p, h, q => by
    simp only [D.py, Option.map_eq_some_iff] at q
    obtain ⟨ps, q1, rfl⟩ := q
    obtain ⟨a, vs, rfl, h1, h2⟩ := rdV_tup h
    exact .tup h1 (pys_rd h2 q1)
  | .lst ds, v, p, h, q => by
    simp only [D.py, Option.map_eq_some_iff] at q
    obtain ⟨ps, q1, rfl⟩ := q
    obtain ⟨a, vs, rfl, h1, _, h2⟩ := rdV_lst h
    exact .lst (.of h1) (pys_rd h2 q1)
  | .fls _, _, _, _, q => by simp [D.py] at q
  | .glo _, _, _, _, q => by simp [D.py] at q
  | .cel _, _, _, _, q => by simp [D.py] at q
theorem pys_rd : ∀ {ds : List D} {vs : List V} {ps : List PyData}, RdL K H L φ ds vs → pys ds = some ps → DpAll K H vs ps
  | [], vs, ps, h, q => by simp only [RdL] at h; simp only [pys, Option.some.injEq] at q; subst h; subst q; exact .nil
  | d :: ds, vs, ps, h, q => by
    simp only [RdL] at h
    obtain ⟨w, ws, rfl, h1, h2⟩ := h
    simp only [pys] at q
    cases e1 : d.py with
    | none => simp [e1] at q
    | some a =>
      cases e2 : pys ds with
      | none => simp [e1, e2] at q
      | some b =>
        simp only [e1, e2, Option.some.injEq] at q
        subst q
        exact .cons (py_rd h1 e1) (pys_rd h2 e2)
end
theorem pyM_rd (m : MemOk K H φ μ B) {p : PyData} (h : RdV K H (Live φ μ B) φ d v) (q : pyM μ d = some p) : Dp K H v p := by
  cases d with
  | cel n =>
    have q' : (asLst μ (.cel n)).bind (fun xs => (pys xs).map .list) = some p := by
      simp only [pyM] at q
      simp only [asLst]
      split at q
      · rename_i xs hx
        simp only [hx, Option.bind_some]
        exact q
      · cases q
    cases e : asLst μ (.cel n) with
    | none => rw [e] at q'; cases q'
    | some xs =>
      rw [e] at q'
      simp only [Option.bind_some, Option.map_eq_some_iff] at q'
      obtain ⟨ps, q1, rfl⟩ := q'
      obtain ⟨a, vs, rfl, h1, h2⟩ := asLst_rd m h e
      exact .lst (.of h1) (pys_rd h2 q1)
  | _ => exact py_rd h (by simpa only [pyM] using q)
/-! flat values -/
def toV : D → V
  | .non => .non
  | .bl b => .bl b
  | .int i => .int i
  | .str x => .str x
  | _ => .non
theorem flat_rd (f : flat d = true) (h : RdV K H L φ d v) : v = toV d ∧ flatV (toV d) = true := by
  cases d with
  | non => exact ⟨rdV_non h, rfl⟩
  | bl b => exact ⟨rdV_bl h, rfl⟩
  | int i => exact ⟨rdV_int h, rfl⟩
  | str x => exact ⟨rdV_str h, rfl⟩
  | _ => simp [flat] at f
theorem eqF_toV (f : flat d = true) (g : flat e = true) : eqV (toV d) (toV e) = eqF d e := by
  cases d <;> cases e <;> first | rfl | (exfalso; simp [flat] at f; done) | (exfalso; simp [flat] at g; done)
theorem flats_rd : ∀ {ds : List D} {vs : List V}, ds.all flat = true → RdL K H L φ ds vs → vs = ds.map toV ∧ vs.all flatV = true
  | [], vs, _, h => by simp only [RdL] at h; subst h; exact ⟨rfl, rfl⟩
  | d :: ds, vs, f, h => by
    simp only [RdL] at h
    obtain ⟨w, ws, rfl, h1, h2⟩ := h
    rw [List.all_cons, Bool.and_eq_true] at f
    obtain ⟨e1, e2⟩ := flat_rd f.1 h1
    obtain ⟨e3, e4⟩ := flats_rd f.2 h2
    subst e1; subst e3
    exact ⟨rfl, by rw [List.all_cons, e2, e4]; rfl⟩
theorem inV_toV (f : flat e = true) : ∀ {ds : List D}, ds.all flat = true → inV (toV e) (ds.map toV) = ds.any fun z => eqF z e
  | [], _ => rfl
  | d :: ds, g => by
    rw [List.all_cons, Bool.and_eq_true] at g
    have ih := inV_toV f g.2
    unfold inV at ih ⊢
    rw [List.map_cons, List.any_cons, List.any_cons, eqF_toV g.1 f, ih]
end

/-! ### readings by plain functions -/
def rD2 (K : PySem.W.Frag) (W : XK) (f : D → D → Mem → R D) : R2 := fun x y H Q => ∃ B φ μ d e, MemOk K H φ μ B ∧ RdV K H (Live φ μ B) φ d x ∧ RdV K H (Live φ μ B) φ e y ∧ DenV K W B H φ μ (f d e μ) Q
def rDL (K : PySem.W.Frag) (W : XK) (f : List D → Mem → R D) : List V → Hp → VK → Prop := fun xs H Q => ∃ B φ μ ds, MemOk K H φ μ B ∧ RdL K H (Live φ μ B) φ ds xs ∧ DenV K W B H φ μ (f ds μ) Q
def rD1 (K : PySem.W.Frag) (W : XK) (f : D → Mem → R D) : V → Hp → VK → Prop := fun x H Q => ∃ B φ μ d, MemOk K H φ μ B ∧ RdV K H (Live φ μ B) φ d x ∧ DenV K W B H φ μ (f d μ) Q
section
variable {X : Cx} {W : XK}
theorem op_fdivA : OpR X (binaryOp .FloorDiv) (rI (fun _ j => j ≠ 0 ∧ j.natAbs.log2 < 9000) fun i j => .int (i.fdiv j)) := opI fun _ _ _ _ _ _ _ hc q => floordiv_int hc.1 q (.inl (PyProof.noPylong_of_log2 hc.2))
theorem CMulOk.ok {i j : Int} (h : mulOk i j = true) : IntMulOk i j := by
  unfold mulOk at h
  simp only [Bool.or_eq_true, Bool.and_eq_true, decide_eq_true_eq] at h
  rcases h with (h | h) | h
  · exact CMulW.ok h
  · exact CMul.ok (.inl h)
  · exact CMul.ok (.inr h)
theorem op_mulA : OpR X (binaryOp .Mult) (rI (fun i j => mulOk i j = true) fun i j => .int (i * j)) := opI fun _ _ _ _ _ _ _ hc q => mul_int q (CMulOk.ok hc)
theorem add_bin : OpR X (binaryOp .Add) (rD2 X.K W (binD .Add)) := by
  intro pins s σ H x y v u Q I rx ry h
  obtain ⟨B, φ, μ, d, e, m, h1, h2, h⟩ := h
  have lists : ∀ {ds es}, asLst μ d = some ds → asLst μ e = some es → DenV X.K W B H φ μ (if fits (ds.length + es.length) then .ok (.lst (ds ++ es)) μ else .no) Q → wpAny (model X.prog X.w) X.A (binaryOp .Add v u) (EP X pins σ Q) X.xe s := fun {ds es} q1 q2 h => by
    obtain ⟨a, vs, rfl, e1, r1⟩ := asLst_rd m h1 q1
    obtain ⟨b, ws, rfl, e2, r2⟩ := asLst_rd m h2 q2
    split at h
    · rename_i hz
      rw [fits_iff, r1.length, r2.length] at hz
      exact op_cat pins s σ H _ _ v u Q I rx ry ⟨a, b, vs, ws, rfl, rfl, e1, e2, hz, fun p hp => DenV.new m h hp (rd_newL m hp (r1.append r2))⟩
    · exact h.elim
  have gen : DenV X.K W B H φ μ (match asLst μ d, asLst μ e with | some xs, some ys => if fits (xs.length + ys.length) then .ok (.lst (xs ++ ys)) μ else .no | _, _ => .no) Q → wpAny (model X.prog X.w) X.A (binaryOp .Add v u) (EP X pins σ Q) X.xe s := fun h => by
    cases q1 : asLst μ d with
    | none => simp only [q1] at h; exact h.elim
    | some ds =>
      cases q2 : asLst μ e with
      | none => simp only [q1, q2] at h; exact h.elim
      | some es => simp only [q1, q2] at h; exact lists q1 q2 h
  cases d with
  | int i =>
    cases e with
    | int j =>
      rw [rdV_int h1] at rx; rw [rdV_int h2] at ry
      exact op_add pins s σ H _ _ v u Q I rx ry ⟨i, j, rfl, rfl, DenV.here m h rd_int⟩
    | _ => exact gen h
  | str a =>
    cases e with
    | str b =>
      rw [rdV_str h1] at rx; rw [rdV_str h2] at ry
      simp only [binD] at h
      split at h
      · rename_i hz
        exact op_add_str pins s σ H _ _ v u Q I rx ry ⟨a, b, rfl, rfl, fits_iff.mp hz, DenV.here m h rd_str⟩
      · exact h.elim
    | _ => exact gen h
  | tup ds =>
    cases e with
    | tup es =>
      obtain ⟨a, vs, rfl, e1, r1⟩ := rdV_tup h1
      obtain ⟨b, ws, rfl, e2, r2⟩ := rdV_tup h2
      simp only [binD] at h
      split at h
      · rename_i hz
        rw [fits_iff, r1.length, r2.length] at hz
        refine op_catA pins s σ H _ _ v u Q I rx ry ⟨a, b, vs, ws, rfl, rfl, e1, e2, hz, fun hn => ?_, fun _ hn => ?_, fun _ _ p hp => DenV.new m h hp (rd_newT m hp (r1.append r2))⟩
        · subst hn
          have hd : ds = [] := List.length_eq_zero_iff.mp r1.length
          subst hd
          exact DenV.here m h h2
        · subst hn
          have hd : es = [] := List.length_eq_zero_iff.mp r2.length
          subst hd
          rw [List.append_nil] at h
          exact DenV.here m h h1
      · exact h.elim
    | _ => exact gen h
  | _ => exact gen h
theorem op_bin (op : Operator) : OpR X (binaryOp op) (rD2 X.K W (binD op)) := by
  intro pins s σ H x y v u Q I rx ry h
  cases op with
  | Add => exact add_bin pins s σ H x y v u Q I rx ry h
  | Sub =>
    obtain ⟨B, φ, μ, d, e, m, h1, h2, h⟩ := h
    cases d with
    | int i =>
      cases e with
      | int j =>
        rw [rdV_int h1] at rx; rw [rdV_int h2] at ry
        exact op_sub pins s σ H _ _ v u Q I rx ry ⟨i, j, rfl, rfl, DenV.here m h rd_int⟩
      | _ => exact h.elim
    | _ => exact h.elim
  | Mult =>
    obtain ⟨B, φ, μ, d, e, m, h1, h2, h⟩ := h
    have gen : ∀ {k : Int}, e = .int k → DenV X.K W B H φ μ (match asLst μ d with | some xs => if decide (-(2 ^ 63) ≤ k) && decide (k < 2 ^ 63) && fits (xs.length * k.toNat) then .ok (.lst (List.replicate k.toNat xs).flatten) μ else .no | none => .no) Q →
        wpAny (model X.prog X.w) X.A (binaryOp .Mult v u) (EP X pins σ Q) X.xe s := fun {k} ek g => by
      subst ek
      clear h
      rw [rdV_int h2] at ry
      cases q1 : asLst μ d with
      | none => simp only [q1] at g; exact g.elim
      | some ds =>
        simp only [q1] at g
        obtain ⟨a, vs, rfl, e1, r1⟩ := asLst_rd m h1 q1
        split at g
        · rename_i hz
          simp only [Bool.and_eq_true, decide_eq_true_eq, fits_iff, r1.length] at hz
          exact op_rep pins s σ H _ _ v u Q I rx ry ⟨a, k, vs, rfl, rfl, e1, hz.1.1, hz.1.2, hz.2, fun p hp => DenV.new m g hp (rd_newL m hp (r1.rep _))⟩
        · exact g.elim
    cases e with
    | int j =>
      cases d with
      | int i =>
        rw [rdV_int h1] at rx; rw [rdV_int h2] at ry
        simp only [binD] at h
        split at h
        · rename_i hz
          exact op_mulA pins s σ H _ _ v u Q I rx ry ⟨i, j, rfl, rfl, hz, DenV.here m h rd_int⟩
        · exact h.elim
      | str z =>
        rw [rdV_str h1] at rx; rw [rdV_int h2] at ry
        simp only [binD] at h
        split at h
        · rename_i hz
          simp only [Bool.and_eq_true, decide_eq_true_eq, fits_iff] at hz
          exact op_mulS pins s σ H _ _ v u Q I rx ry ⟨z, j, rfl, rfl, hz.1.1, hz.1.2, hz.2, DenV.here m h rd_str⟩
        · exact h.elim
      | tup xs =>
        rw [rdV_int h2] at ry
        obtain ⟨a, vs, rfl, e1, r1⟩ := rdV_tup h1
        simp only [binD] at h
        split at h
        · rename_i hz
          subst hz
          exact ZN.op_repT1 pins s σ H _ _ v u Q I rx ry ⟨a, vs, rfl, rfl, e1, DenV.here m h h1⟩
        · split at h
          · rename_i hz
            simp only [Bool.and_eq_true, decide_eq_true_eq, Bool.not_eq_true', List.isEmpty_eq_false_iff] at hz
            refine op_repT pins s σ H _ _ v u Q I rx ry ⟨a, j, vs, rfl, rfl, e1, fun hn => ?_, hz.1.1.2, hz.1.2, by rw [← r1.length]; exact hz.2, fun p hp => DenV.new m h hp (rd_newT m hp (r1.rep _))⟩
            subst hn
            exact hz.1.1.1 (List.length_eq_zero_iff.mp r1.length)
          · exact h.elim
      | _ => exact gen rfl h
    | _ => cases d <;> exact h.elim
  | FloorDiv =>
    obtain ⟨B, φ, μ, d, e, m, h1, h2, h⟩ := h
    cases d with
    | int i =>
      cases e with
      | int j =>
        rw [rdV_int h1] at rx; rw [rdV_int h2] at ry
        simp only [binD] at h
        split at h
        · rename_i hz
          simp only [Bool.and_eq_true, decide_eq_true_eq] at hz
          exact op_fdivA pins s σ H _ _ v u Q I rx ry ⟨i, j, rfl, rfl, hz, DenV.here m h rd_int⟩
        · exact h.elim
      | _ => exact h.elim
    | _ => exact h.elim
  | Mod =>
    obtain ⟨B, φ, μ, d, e, m, h1, h2, h⟩ := h
    cases d with
    | int i =>
      cases e with
      | int j =>
        rw [rdV_int h1] at rx; rw [rdV_int h2] at ry
        simp only [binD] at h
        split at h
        · rename_i hz
          exact op_modN pins s σ H _ _ v u Q I rx ry ⟨i, j, rfl, rfl, hz, DenV.here m h rd_int⟩
        · exact h.elim
      | _ => exact h.elim
    | _ => exact h.elim
  | Pow =>
    obtain ⟨B, φ, μ, d, e, m, h1, h2, h⟩ := h
    cases d with
    | int i =>
      cases e with
      | int j =>
        rw [rdV_int h1] at rx; rw [rdV_int h2] at ry
        simp only [binD] at h
        split at h
        · rename_i hz
          simp only [Bool.and_eq_true, decide_eq_true_eq] at hz
          exact op_pow pins s σ H _ _ v u Q I rx ry ⟨i, j, rfl, rfl, ⟨hz.1.1, hz.1.2, hz.2⟩, DenV.here m h rd_int⟩
        · exact h.elim
      | _ => exact h.elim
    | _ => exact h.elim
  | _ =>
    obtain ⟨B, φ, μ, d, e, m, h1, h2, h⟩ := h
    cases d <;> exact h.elim
end
end Den

/-! Den4: comparisons, truth, built-ins, items, slices. -/
namespace Den
open PySem PySem.Spec PyProof.Rows L2
variable [Lams]

def isNonB : D → Bool
  | .non => true
  | _ => false
def cmpV (op : CmpOp) (x y : D) (μ : Mem) : R D := (cmpD op x y μ).bind fun t μ => .ok (.bl t) μ
section
variable {X : Cx} {W : XK} {K : PySem.W.Frag} {B : Addr → Prop} {H : Hp} {φ : List Addr} {μ : Mem}
theorem cmpV_out (m : MemOk K H φ μ B) {op : CmpOp} {d e : D} {Q : VK} (h : DenV K W B H φ μ (cmpV op d e μ) Q) : ∃ b, cmpB op d e μ = some b ∧ Q (.bl b) H := by
  unfold cmpV cmpD at h
  cases q : cmpB op d e μ with
  | none => simp only [q] at h; exact h.elim
  | some b => simp only [q] at h; exact ⟨b, rfl, DenV.here m h rd_bl⟩
theorem ok_none_iff {K : PySem.W.Frag} {L : Addr → Prop} {d : D} {v : V} (h : RdV K H L φ d v) : decide (v = .non) = isNonB d := by
  cases d with
  | non => rw [rdV_non h]; simp [isNonB]
  | bl b => rw [rdV_bl h]; simp [isNonB]
  | int b => rw [rdV_int h]; simp [isNonB]
  | str b => rw [rdV_str h]; simp [isNonB]
  | tup ds => obtain ⟨a, vs, rfl, _⟩ := rdV_tup h; simp [isNonB]
  | lst ds => obtain ⟨a, vs, rfl, _⟩ := rdV_lst h; simp [isNonB]
  | fls ds => simp only [RdV] at h; obtain ⟨a, vs, rfl, _⟩ := h; simp [isNonB]
  | glo x => simp only [RdV] at h; subst h; simp [isNonB]
  | exc => simp only [RdV] at h; subst h; simp [isNonB]
  | cel n => simp only [RdV] at h; obtain ⟨a, _, rfl⟩ := h; simp [isNonB]
theorem isD_non {d : D} : isD d .non = some (isNonB d) := by cases d <;> rfl
theorem op_cmp (op : CmpOp) (hu : X.A.units + 64 < cLine) : OpR X (compareOp op) (rD2 X.K W (cmpV op)) := by
  intro pins s σ H x y v u Q I rx ry h
  obtain ⟨B, φ, μ, d, e, m, h1, h2, h⟩ := h
  obtain ⟨b, hb, q⟩ := cmpV_out m h
  cases op with
  | Eq =>
    simp only [cmpB, eqD] at hb
    cases q1 : pyM μ d with
    | none => simp [q1] at hb
    | some p1 =>
      cases q2 : pyM μ e with
      | none => simp [q1, q2] at hb
      | some p2 =>
        simp only [q1, q2] at hb
        split at hb
        · rename_i hs
          rw [Bool.and_eq_true] at hs
          cases hb
          exact op_eqD hu pins s σ H _ _ v u Q I rx ry ⟨p1, p2, pyM_rd m h1 q1, pyM_rd m h2 q2, hs.1, hs.2, q⟩
        · cases hb
  | NotEq =>
    simp only [cmpB, eqD] at hb
    cases q1 : pyM μ d with
    | none => simp [q1] at hb
    | some p1 =>
      cases q2 : pyM μ e with
      | none => simp [q1, q2] at hb
      | some p2 =>
        simp only [q1, q2] at hb
        split at hb
        · rename_i hs
          rw [Bool.and_eq_true] at hs
          simp only [Option.map_some, Option.some.injEq] at hb
          subst hb
          exact op_neD hu pins s σ H _ _ v u Q I rx ry ⟨p1, p2, pyM_rd m h1 q1, pyM_rd m h2 q2, hs.1, hs.2, q⟩
        · cases hb
  | In =>
    simp only [cmpB] at hb
    have seq : ∀ {ys}, asSeq μ e = some ys → (if flat d && ys.all flat then some (ys.any fun z => eqF z d) else none) = some b → wpAny (model X.prog X.w) X.A (compareOp .In v u) (EP X pins σ Q) X.xe s := fun {ys} q1 q2 => by
      split at q2
      · rename_i hs
        rw [Bool.and_eq_true] at hs
        cases q2
        obtain ⟨a, ws, rfl, r1, r2⟩ := asSeq_rd m h2 q1
        obtain ⟨e1, e2⟩ := flat_rd hs.1 h1
        obtain ⟨e3, e4⟩ := flats_rd hs.2 r2
        subst e1
        refine op_in_seq pins s σ H _ _ v u Q I rx ry ⟨a, ws, rfl, r1, e2, e4, ?_⟩
        rw [e3, inV_toV hs.1 hs.2]
        exact q
      · cases q2
    cases e with
    | str z =>
      cases d with
      | str a =>
        rw [rdV_str h1] at rx; rw [rdV_str h2] at ry
        simp only [inD, Option.some.injEq] at hb
        subst hb
        exact op_in_str pins s σ H _ _ v u Q I rx ry ⟨a, z, rfl, rfl, q⟩
      | _ => simp [inD] at hb
    | _ =>
      simp only [inD] at hb
      split at hb
      · rename_i ys q1
        exact seq q1 hb
      · cases hb
  | NotIn =>
    simp only [cmpB] at hb
    have seq : ∀ {ys}, asSeq μ e = some ys → (if flat d && ys.all flat then some (ys.any fun z => eqF z d) else none).map (!·) = some b → wpAny (model X.prog X.w) X.A (compareOp .NotIn v u) (EP X pins σ Q) X.xe s := fun {ys} q1 q2 => by
      split at q2
      · rename_i hs
        rw [Bool.and_eq_true] at hs
        simp only [Option.map_some, Option.some.injEq] at q2
        subst q2
        obtain ⟨a, ws, rfl, r1, r2⟩ := asSeq_rd m h2 q1
        obtain ⟨e1, e2⟩ := flat_rd hs.1 h1
        obtain ⟨e3, e4⟩ := flats_rd hs.2 r2
        subst e1
        refine op_notIn_seq pins s σ H _ _ v u Q I rx ry ⟨a, ws, rfl, r1, e2, e4, ?_⟩
        rw [e3, inV_toV hs.1 hs.2]
        exact q
      · cases q2
    cases e with
    | str z =>
      cases d with
      | str a =>
        rw [rdV_str h1] at rx; rw [rdV_str h2] at ry
        simp only [inD, Option.map_some, Option.some.injEq] at hb
        subst hb
        exact op_notIn_str pins s σ H _ _ v u Q I rx ry ⟨a, z, rfl, rfl, q⟩
      | _ => simp [inD] at hb
    | _ =>
      simp only [inD] at hb
      split at hb
      · rename_i ys q1
        exact seq q1 hb
      · cases hb
  | Is =>
    simp only [cmpB] at hb
    cases e with
    | non =>
      rw [isD_non] at hb
      cases hb
      rw [← ok_none_iff h1] at q
      rw [rdV_non h2] at ry
      exact op_isN pins s σ H _ _ v u Q I rx ry ⟨rfl, q⟩
    | bl c =>
      cases d with
      | bl a =>
        rw [rdV_bl h1] at rx; rw [rdV_bl h2] at ry
        simp only [isD, Option.some.injEq] at hb
        subst hb
        exact op_isBl pins s σ H _ _ v u Q I rx ry ⟨a, c, rfl, rfl, q⟩
      | _ => simp [isD] at hb
    | _ => simp [isD] at hb
  | IsNot =>
    simp only [cmpB] at hb
    cases e with
    | non =>
      rw [isD_non] at hb
      simp only [Option.map_some, Option.some.injEq] at hb
      subst hb
      rw [← ok_none_iff h1] at q
      rw [rdV_non h2] at ry
      exact op_notN pins s σ H _ _ v u Q I rx ry ⟨rfl, q⟩
    | bl c =>
      cases d with
      | bl a =>
        rw [rdV_bl h1] at rx; rw [rdV_bl h2] at ry
        simp only [isD, Option.map_some, Option.some.injEq] at hb
        subst hb
        exact op_notBl pins s σ H _ _ v u Q I rx ry ⟨a, c, rfl, rfl, q⟩
      | _ => simp [isD] at hb
    | _ => simp [isD] at hb
  | Lt =>
    cases d with
    | int i =>
      cases e with
      | int j =>
        rw [rdV_int h1] at rx; rw [rdV_int h2] at ry
        simp only [cmpB, Option.some.injEq] at hb
        subst hb
        exact op_lt pins s σ H _ _ v u Q I rx ry ⟨i, j, rfl, rfl, q⟩
      | _ => simp [cmpB] at hb
    | tup ds =>
      cases e with
      | tup es =>
        obtain ⟨a, vs, rfl, e1, r1⟩ := rdV_tup h1
        obtain ⟨c, ws, rfl, e2, r2⟩ := rdV_tup h2
        simp only [cmpB] at hb
        cases q1 : intsOf ds with
        | none => simp [q1] at hb
        | some ns =>
          cases q2 : intsOf es with
          | none => simp [q1, q2] at hb
          | some ms =>
            simp only [q1, q2, Option.some.injEq] at hb
            subst hb
            have t1 := intsOf_rd r1 q1
            have t2 := intsOf_rd r2 q2
            subst t1 t2
            exact op_ltT (by omega) pins s σ H _ _ v u Q I rx ry ⟨a, c, ns, ms, rfl, rfl, e1, e2, q⟩
      | _ => simp [cmpB] at hb
    | _ => simp [cmpB] at hb
  | LtE =>
    cases d with
    | int i =>
      cases e with
      | int j =>
        rw [rdV_int h1] at rx; rw [rdV_int h2] at ry
        simp only [cmpB, Option.some.injEq] at hb
        subst hb
        exact op_le pins s σ H _ _ v u Q I rx ry ⟨i, j, rfl, rfl, q⟩
      | _ => simp [cmpB] at hb
    | _ => simp [cmpB] at hb
  | Gt =>
    cases d with
    | int i =>
      cases e with
      | int j =>
        rw [rdV_int h1] at rx; rw [rdV_int h2] at ry
        simp only [cmpB, Option.some.injEq] at hb
        subst hb
        exact op_gt pins s σ H _ _ v u Q I rx ry ⟨i, j, rfl, rfl, q⟩
      | _ => simp [cmpB] at hb
    | _ => simp [cmpB] at hb
  | GtE =>
    cases d with
    | int i =>
      cases e with
      | int j =>
        rw [rdV_int h1] at rx; rw [rdV_int h2] at ry
        simp only [cmpB, Option.some.injEq] at hb
        subst hb
        exact op_ge pins s σ H _ _ v u Q I rx ry ⟨i, j, rfl, rfl, q⟩
      | _ => simp [cmpB] at hb
    | _ => simp [cmpB] at hb
/-- truth -/
theorem tru_rd (m : MemOk K H φ μ B) {d : D} {v : V} {b : Bool} (h : RdV K H (Live φ μ B) φ d v) (q : truB μ d = some b) : TruV K v H b := by
  cases d with
  | non => rw [rdV_non h]; simp only [truB, Option.some.injEq] at q; subst q; rfl
  | bl c => rw [rdV_bl h]; simp only [truB, Option.some.injEq] at q; subst q; rfl
  | int i => rw [rdV_int h]; simp only [truB, Option.some.injEq] at q; subst q; rfl
  | str x =>
    rw [rdV_str h]
    simp only [truB] at q
    split at q
    · rename_i hz
      cases q
      exact ⟨fits_iff.mp hz, rfl⟩
    · cases q
  | tup ds =>
    obtain ⟨a, vs, rfl, h1, h2⟩ := rdV_tup h
    simp only [truB, Option.some.injEq] at q
    subst q
    refine .inr (.inl ⟨vs, h1, ?_⟩)
    have e := h2.length
    cases ds <;> cases vs <;> simp_all
  | lst ds =>
    obtain ⟨a, vs, rfl, h1, _, h2⟩ := rdV_lst h
    simp only [truB, Option.some.injEq] at q
    subst q
    refine .inl ⟨vs, .of h1, ?_⟩
    have e := h2.length
    cases ds <;> cases vs <;> simp_all
  | cel n =>
    simp only [truB] at q
    split at q
    · rename_i xs hx
      cases q
      obtain ⟨a, vs, rfl, h1, h2⟩ := asLst_rd m h (show asLst μ (.cel n) = some xs by simp only [asLst, hx])
      refine .inl ⟨vs, .of h1, ?_⟩
      have e := h2.length
      cases xs <;> cases vs <;> simp_all
    · cases q
  | fls _ => simp [truB] at q
  | glo _ => simp [truB] at q
  | exc => simp [truB] at q
/-- isinstance with a built-in class -/
theorem kit_tys : ∀ a b : Ty, kitB a.name b.name = some (decide (a = b) || (decide (a = .bool) && decide (b = .int))) := by
  intro a b
  cases a <;> cases b <;> decide +kernel
theorem kit_non : ∀ b : Ty, kitB "NoneType" b.name = some false := by
  intro b
  cases b <;> decide +kernel
theorem isTy_rd {L : Addr → Prop} {d : D} {v : V} {t : Ty} {b : Bool} (h : RdV K H L φ d v) (q : isTy t d = some b) : ∃ c, TyX K H v c ∧ PySem.W.kitOne K c (.type t.name) = some b := by
  have own : ∀ {s : Ty}, TyX K H v (.type s.name) → b = (decide (s = t) || (decide (s = .bool) && decide (t = .int))) → ∃ c, TyX K H v c ∧ PySem.W.kitOne K c (.type t.name) = some b := fun {s} x e => ⟨_, x, by rw [e]; exact kit_ty (kit_tys s t)⟩
  cases d with
  | non =>
    rw [rdV_non h]
    simp only [isTy, Option.some.injEq] at q
    subst q
    exact ⟨_, .base .non, kit_ty (kit_non t)⟩
  | bl c =>
    simp only [isTy, Option.some.injEq] at q
    refine own (s := .bool) (by rw [rdV_bl h]; exact .base (.bl c)) ?_
    subst q
    cases t <;> rfl
  | int i =>
    simp only [isTy, Option.some.injEq] at q
    refine own (s := .int) (by rw [rdV_int h]; exact .base (.int i)) ?_
    subst q
    cases t <;> rfl
  | str i =>
    simp only [isTy, Option.some.injEq] at q
    refine own (s := .str) (by rw [rdV_str h]; exact .base (.str i)) ?_
    subst q
    cases t <;> rfl
  | tup ds =>
    obtain ⟨a, vs, rfl, h1, _⟩ := rdV_tup h
    simp only [isTy, Option.some.injEq] at q
    refine own (s := .tuple) ?_ (by subst q; cases t <;> rfl)
    rcases h1 with (h1 | ⟨o, h1⟩) | ⟨o, its, n, h1, h2, _⟩
    · exact .base (.tup h1)
    · exact .fTuple h1
    · exact .kTuple h1 h2
  | lst ds =>
    obtain ⟨a, vs, rfl, h1, _⟩ := rdV_lst h
    simp only [isTy, Option.some.injEq] at q
    exact own (s := .list) (.base (.lst h1)) (by subst q; cases t <;> rfl)
  | fls ds =>
    simp only [RdV] at h
    obtain ⟨a, vs, rfl, h1, _⟩ := h
    simp only [isTy, Option.some.injEq] at q
    refine own (s := .list) ?_ (by subst q; cases t <;> rfl)
    rcases h1 with ⟨h1, _⟩ | ⟨o, h1⟩ | ⟨o, its, n, h1, h2, _⟩
    · exact .base (.lst h1)
    · exact .base (.frz h1)
    · exact .kList h1 h2
  | glo _ => simp [isTy] at q
  | exc => simp [isTy] at q
  | cel _ => simp [isTy] at q
/-! built-ins -/
theorem rdL_one {L : Addr → Prop} {d : D} {xs : List V} (h : RdL K H L φ [d] xs) : ∃ v, xs = [v] ∧ RdV K H L φ d v := by
  simp only [RdL] at h
  obtain ⟨v, ws, rfl, h1, rfl⟩ := h
  exact ⟨v, rfl, h1⟩
theorem rdL_two {L : Addr → Prop} {d e : D} {xs : List V} (h : RdL K H L φ [d, e] xs) : ∃ v w, xs = [v, w] ∧ RdV K H L φ d v ∧ RdV K H L φ e w := by
  simp only [RdL] at h
  obtain ⟨v, ws, rfl, h1, w, ws', rfl, h2, rfl⟩ := h
  exact ⟨v, w, rfl, h1, h2⟩
/-- a built-in of one argument -/
theorem call1 {f : Value} {g : D → Mem → R D} {fl : List D → Mem → R D} (hf : ∀ d μ, fl [d] μ = g d μ) (hn : ∀ ds μ, (∀ d, ds ≠ [d]) → fl ds μ = .no)
    (h : ∀ (pins : List (Addr × Obj)) (s : Shared) (σ : L2.St) (H : Hp) (B : Addr → Prop) (φ : List Addr) (μ : Mem) (d : D) (v : V) (us : List Value) (Q : VK), Inv X pins σ H s → Vals [v] us → MemOk X.K H φ μ B → RdV X.K H (Live φ μ B) φ d v → DenV X.K W B H φ μ (g d μ) Q →
      wpAny (model X.prog X.w) X.A (call f us) (EP X pins σ Q) X.xe s) : CallR X f (rDL X.K W fl) := by
  intro pins s σ H xs us Q I r q
  obtain ⟨B, φ, μ, ds, m, h1, h2⟩ := q
  match ds, h1, h2 with
  | [], _, h2 => rw [hn [] μ (by simp)] at h2; exact h2.elim
  | [d], h1, h2 =>
    obtain ⟨v, rfl, h3⟩ := rdL_one h1
    rw [hf] at h2
    exact h pins s σ H B φ μ d v us Q I r m h3 h2
  | d :: e :: ds, _, h2 => rw [hn _ μ (by simp)] at h2; exact h2.elim
end
end Den

/-! Den5: built-ins by name, items, slices. -/
namespace Den
open PySem PySem.Spec PyProof.Rows L2
variable [Lams]

def Bf.val : Bf → Value
  | .len => .builtin "len" | .abs => .builtin "abs" | .int => .type "int" | .list => .type "list" | .tuple => .type "tuple"
  | .sum => .builtin "sum" | .all => .builtin "all" | .any => .builtin "any" | .gcd => .builtin "math.gcd" | .max2 => .builtin "max" | .min2 => .builtin "min" | .max1 => .builtin "max" | .min1 => .builtin "min" | .str => .type "str" | .sorted => .builtin "sorted"
def Bf.name : Bf → Str
  | .len => "len" | .abs => "abs" | .int => "int" | .list => "list" | .tuple => "tuple"
  | .sum => "sum" | .all => "all" | .any => "any" | .gcd => "gcd" | .max2 => "max" | .min2 => "min" | .max1 => "max" | .min1 => "min" | .str => "str" | .sorted => "sorted"
/-- a name that the module's own top binds -/
def Bf.own : Bf → Bool
  | .gcd => true
  | _ => false
theorem Bf.boot : ∀ b : Bf, b.own = false → bootBuiltins b.name = some b.val := by
  intro b
  cases b <;> first | (intro h; cases h; done) | (intro _; decide +kernel)
section
variable {X : Cx} {W : XK} {K : PySem.W.Frag} {B : Addr → Prop} {H : Hp} {φ : List Addr} {μ : Mem}
theorem no1 {f : Bf} (hf : f ≠ .gcd ∧ f ≠ .max2 ∧ f ≠ .min2) : ∀ (ds : List D) (μ : Mem), (∀ d, ds ≠ [d]) → bifD f ds μ = .no := by
  intro ds μ h
  obtain ⟨h1, h2, h3⟩ := hf
  match ds, h with
  | [], _ => cases f <;> rfl
  | [d], h => exact absurd rfl (h d)
  | d :: e :: ds, _ => cases f <;> first | rfl | (cases ds <;> cases d <;> cases e <;> first | rfl | exact absurd rfl h1 | exact absurd rfl h2 | exact absurd rfl h3)
theorem bif_len : CallR X (.builtin "len") (rDL X.K W (bifD .len)) := by
  refine call1 (g := fun d μ => bifD .len [d] μ) (fun _ _ => rfl) (no1 (by decide)) fun pins s σ H B φ μ d v us Q I r m h1 h2 => ?_
  have seq : ∀ {xs}, asSeq μ d = some xs → DenV X.K W B H φ μ (.ok (.int xs.length) μ) Q → wpAny (model X.prog X.w) X.A (call (.builtin "len") us) (EP X pins σ Q) X.xe s := fun {xs} q1 q2 => by
    obtain ⟨a, vs, rfl, e1, e2⟩ := asSeq_rd m h1 q1
    exact call_len_seq pins s σ H _ us Q I r ⟨a, vs, rfl, e1, by rw [← e2.length]; exact DenV.here m q2 rd_int⟩
  cases d with
  | str x =>
    rw [rdV_str h1] at r
    simp only [bifD] at h2
    split at h2
    · rename_i hz
      exact call_len_str pins s σ H _ us Q I r ⟨x, rfl, fits_iff.mp hz, DenV.here m h2 rd_int⟩
    · exact h2.elim
  | _ =>
    simp only [bifD] at h2
    split at h2
    · rename_i xs q1
      exact seq q1 h2
    · exact h2.elim
theorem bif_abs : CallR X (.builtin "abs") (rDL X.K W (bifD .abs)) := by
  refine call1 (g := fun d μ => bifD .abs [d] μ) (fun _ _ => rfl) (no1 (by decide)) fun pins s σ H B φ μ d v us Q I r m h1 h2 => ?_
  cases d with
  | int x =>
    rw [rdV_int h1] at r
    exact call_abs pins s σ H _ us Q I r ⟨x, rfl, DenV.here m h2 rd_int⟩
  | _ => exact h2.elim
theorem bif_int : CallR X (.type "int") (rDL X.K W (bifD .int)) := by
  refine call1 (g := fun d μ => bifD .int [d] μ) (fun _ _ => rfl) (no1 (by decide)) fun pins s σ H B φ μ d v us Q I r m h1 h2 => ?_
  cases d with
  | int x =>
    rw [rdV_int h1] at r
    exact call_int1 pins s σ H _ us Q I r (.inl ⟨x, rfl, DenV.here m h2 rd_int⟩)
  | bl x =>
    rw [rdV_bl h1] at r
    exact call_int1 pins s σ H _ us Q I r (.inr ⟨x, rfl, DenV.here m h2 rd_int⟩)
  | str z =>
    rw [rdV_str h1] at r
    simp only [bifD] at h2
    split at h2
    · rename_i n hn
      split at h2
      · rename_i hl
        exact call_int_str pins s σ H _ us Q I r ⟨z, n, rfl, hn, of_decide_eq_true hl, DenV.here m h2 rd_int⟩
      · exact h2.elim
    · exact h2.elim
  | _ => exact h2.elim
theorem log_str {i : Int} (h : i.natAbs < 10 ^ 100) : i.natAbs.log2 < 1920 := by
  by_cases z : i.natAbs = 0
  · rw [z]; decide
  · exact (Nat.log2_lt z).mpr (Nat.lt_trans h (by decide +kernel))
theorem bif_str : CallR X (.type "str") (rDL X.K W (bifD .str)) := by
  refine call1 (g := fun d μ => bifD .str [d] μ) (fun _ _ => rfl) (no1 (by decide)) fun pins s σ H B φ μ d v us Q I r m h1 h2 => ?_
  cases d with
  | int x =>
    rw [rdV_int h1] at r
    simp only [bifD] at h2
    split at h2
    · rename_i hl
      exact call_str_int pins s σ H _ us Q I r ⟨x, rfl, log_str (of_decide_eq_true hl), DenV.here m h2 rd_str⟩
    · exact h2.elim
  | str z =>
    rw [rdV_str h1] at r
    exact SkE.call_str_str pins s σ H _ us Q I r ⟨z, rfl, DenV.here m h2 rd_str⟩
  | _ => exact h2.elim
theorem bif_list : CallR X (.type "list") (rDL X.K W (bifD .list)) := by
  refine call1 (g := fun d μ => bifD .list [d] μ) (fun _ _ => rfl) (no1 (by decide)) fun pins s σ H B φ μ d v us Q I r m h1 h2 => ?_
  have seq : ∀ {xs}, asSeq μ d = some xs → DenV X.K W B H φ μ (.ok (.lst xs) μ) Q → wpAny (model X.prog X.w) X.A (call (.type "list") us) (EP X pins σ Q) X.xe s := fun {xs} q1 q2 => by
    obtain ⟨a, vs, rfl, e1, e2⟩ := asSeq_rd m h1 q1
    exact call_list_of pins s σ H _ us Q I r ⟨a, vs, rfl, e1, fun p hp => DenV.new m q2 hp (rd_newL m hp e2)⟩
  cases d with
  | fls xs =>
    simp only [RdV] at h1
    obtain ⟨a, vs, rfl, e1, e2⟩ := h1
    refine call_list_of pins s σ H _ us Q I r ⟨a, vs, rfl, .inl ?_, fun p hp => DenV.new m h2 hp (rd_newL m hp e2)⟩
    rcases e1 with ⟨e1, _⟩ | ⟨o, e1⟩ | e1
    · exact .inl (.inl e1)
    · exact .inl (.inr ⟨o, e1⟩)
    · exact .inr e1
  | _ =>
    simp only [bifD] at h2
    split at h2
    · rename_i xs q1
      exact seq q1 h2
    · exact h2.elim
theorem bif_tuple : CallR X (.type "tuple") (rDL X.K W (bifD .tuple)) := by
  refine call1 (g := fun d μ => bifD .tuple [d] μ) (fun _ _ => rfl) (no1 (by decide)) fun pins s σ H B φ μ d v us Q I r m h1 h2 => ?_
  cases d with
  | tup xs =>
    obtain ⟨a, vs, e, e1, e2⟩ := rdV_tup h1
    subst e
    exact call_tuple_of pins s σ H _ us Q I r ⟨a, vs, rfl, .inr ⟨e1, DenV.here m h2 h1⟩⟩
  | lst xs =>
    obtain ⟨a, vs, rfl, e1, e2⟩ := asLst_rd m h1 (ds := xs) rfl
    exact call_tuple_of pins s σ H _ us Q I r ⟨a, vs, rfl, .inl ⟨.of e1, fun p hp => DenV.new m h2 hp (rd_newT m hp e2)⟩⟩
  | cel n =>
    simp only [bifD, asSeq] at h2
    split at h2
    · rename_i xs q1
      obtain ⟨a, vs, rfl, e1, e2⟩ := asLst_rd m h1 q1
      exact call_tuple_of pins s σ H _ us Q I r ⟨a, vs, rfl, .inl ⟨.of e1, fun p hp => DenV.new m h2 hp (rd_newT m hp e2)⟩⟩
    · exact h2.elim
  | _ => exact h2.elim
theorem bif_sum (hc : X.calm = true) : CallR X (.builtin "sum") (rDL X.K W (bifD .sum)) := by
  refine call1 (g := fun d μ => bifD .sum [d] μ) (fun _ _ => rfl) (no1 (by decide)) fun pins s σ H B φ μ d v us Q I r m h1 h2 => ?_
  simp only [bifD] at h2
  split at h2
  · rename_i xs q1
    split at h2
    · rename_i ns q2
      obtain ⟨a, vs, rfl, e1, e2⟩ := asLst_rd m h1 q1
      have e3 := intsOf_rd e2 q2
      subst e3
      exact cr_sum hc pins s σ H _ us Q I r ⟨a, ns, rfl, .of e1, DenV.here m h2 rd_int⟩
    · exact h2.elim
  · exact h2.elim
theorem bif_all (hc : X.calm = true) : CallR X (.builtin "all") (rDL X.K W (bifD .all)) := by
  refine call1 (g := fun d μ => bifD .all [d] μ) (fun _ _ => rfl) (no1 (by decide)) fun pins s σ H B φ μ d v us Q I r m h1 h2 => ?_
  simp only [bifD] at h2
  split at h2
  · rename_i xs q1
    split at h2
    · rename_i ns q2
      obtain ⟨a, vs, rfl, e1, e2⟩ := asLst_rd m h1 q1
      have e3 := blsOf_rd e2 q2
      subst e3
      exact cr_all hc pins s σ H _ us Q I r ⟨a, ns, rfl, .of e1, DenV.here m h2 rd_bl⟩
    · exact h2.elim
  · exact h2.elim
theorem bif_any (hc : X.calm = true) : CallR X (.builtin "any") (rDL X.K W (bifD .any)) := by
  refine call1 (g := fun d μ => bifD .any [d] μ) (fun _ _ => rfl) (no1 (by decide)) fun pins s σ H B φ μ d v us Q I r m h1 h2 => ?_
  simp only [bifD] at h2
  split at h2
  · rename_i xs q1
    split at h2
    · rename_i ns q2
      obtain ⟨a, vs, rfl, e1, e2⟩ := asLst_rd m h1 q1
      have e3 := blsOf_rd e2 q2
      subst e3
      exact cr_any hc pins s σ H _ us Q I r ⟨a, ns, rfl, .of e1, DenV.here m h2 rd_bl⟩
    · exact h2.elim
  · exact h2.elim
theorem call2I {f : Value} {b : Bf} {g : Int → Int → Int} (hb : ∀ ds μ, bifD b ds μ = (match ds with | [.int i, .int j] => .ok (.int (g i j)) μ | _ => .no))
    (h : CallR X f (fun xs H Q => ∃ i j, xs = [.int i, .int j] ∧ Q (.int (g i j)) H)) : CallR X f (rDL X.K W (bifD b)) := by
  intro pins s σ H xs us Q I r q
  obtain ⟨B, φ, μ, ds, m, h1, h2⟩ := q
  rw [hb] at h2
  split at h2
  · rename_i i j
    obtain ⟨v, w, rfl, e1, e2⟩ := rdL_two h1
    rw [rdV_int e1, rdV_int e2] at r
    exact h pins s σ H _ us Q I r ⟨i, j, rfl, DenV.here m h2 rd_int⟩
  · exact h2.elim
theorem bifD2 {b : Bf} (h : b = .gcd ∨ b = .max2 ∨ b = .min2) : ∀ ds μ, (∀ i j, ds ≠ [D.int i, D.int j]) → bifD b ds μ = .no := by
  intro ds μ hd
  match ds, hd with
  | [], _ => rcases h with rfl | rfl | rfl <;> rfl
  | [d], _ => rcases h with rfl | rfl | rfl <;> cases d <;> rfl
  | [d, e], hd => cases d <;> cases e <;> first | exact absurd rfl (hd _ _) | (rcases h with rfl | rfl | rfl <;> rfl)
  | d :: e :: f :: ds, _ => rcases h with rfl | rfl | rfl <;> cases d <;> cases e <;> rfl
theorem bif_gcd : CallR X (.builtin "math.gcd") (rDL X.K W (bifD .gcd)) := by
  refine call2I (b := .gcd) (g := fun i j => ((Nat.gcd i.natAbs j.natAbs : Nat) : Int)) (fun ds μ => ?_) cr_gcd
  split
  · rfl
  · rename_i h
    exact bifD2 (.inl rfl) ds μ fun i j e => h i j e
theorem bif_max2 (hc : X.calm = true) : CallR X (.builtin "max") (rDL X.K W (bifD .max2)) := by
  refine call2I (b := .max2) (g := fun i j => if j > i then j else i) (fun ds μ => ?_) (call_max2 hc)
  split
  · rfl
  · rename_i h
    exact bifD2 (.inr (.inl rfl)) ds μ fun i j e => h i j e
theorem bif_min2 (hc : X.calm = true) : CallR X (.builtin "min") (rDL X.K W (bifD .min2)) := by
  refine call2I (b := .min2) (g := fun i j => if j < i then j else i) (fun ds μ => ?_) (call_min2 hc)
  split
  · rfl
  · rename_i h
    exact bifD2 (.inr (.inr rfl)) ds μ fun i j e => h i j e
theorem maxOf_is : ∀ {ns : List Int} {m : Int}, maxOf ns = some m → m ∈ ns ∧ ∀ y, y ∈ ns → y ≤ m
  | [], _, h => by cases h
  | [i], m, h => by simp only [maxOf, Option.some.injEq] at h; subst h; simp
  | i :: j :: r, m, h => by
    rw [maxOf] at h
    cases q : maxOf (j :: r) with
    | none => rw [q] at h; cases h
    | some k =>
      rw [q] at h
      simp only [Option.map_some, Option.some.injEq] at h
      obtain ⟨h1, h2⟩ := maxOf_is q
      split at h
      · subst h
        refine ⟨List.mem_cons_of_mem _ h1, fun y hy => ?_⟩
        rcases List.mem_cons.mp hy with rfl | hy
        · omega
        · exact h2 y hy
      · subst h
        refine ⟨List.mem_cons_self, fun y hy => ?_⟩
        rcases List.mem_cons.mp hy with rfl | hy
        · omega
        · have := h2 y hy; omega
    · simp
theorem minOf_is : ∀ {ns : List Int} {m : Int}, minOf ns = some m → m ∈ ns ∧ ∀ y, y ∈ ns → m ≤ y
  | [], _, h => by cases h
  | [i], m, h => by simp only [minOf, Option.some.injEq] at h; subst h; simp
  | i :: j :: r, m, h => by
    rw [minOf] at h
    cases q : minOf (j :: r) with
    | none => rw [q] at h; cases h
    | some k =>
      rw [q] at h
      simp only [Option.map_some, Option.some.injEq] at h
      obtain ⟨h1, h2⟩ := minOf_is q
      split at h
      · subst h
        refine ⟨List.mem_cons_of_mem _ h1, fun y hy => ?_⟩
        rcases List.mem_cons.mp hy with rfl | hy
        · omega
        · exact h2 y hy
      · subst h
        refine ⟨List.mem_cons_self, fun y hy => ?_⟩
        rcases List.mem_cons.mp hy with rfl | hy
        · omega
        · have := h2 y hy; omega
    · simp
theorem bif_max1 (hc : X.calm = true) : CallR X (.builtin "max") (rDL X.K W (bifD .max1)) := by
  refine call1 (g := fun d μ => bifD .max1 [d] μ) (fun _ _ => rfl) (no1 (by decide)) fun pins s σ H B φ μ d v us Q I r m h1 h2 => ?_
  simp only [bifD] at h2
  split at h2
  · rename_i ns q1
    obtain ⟨xs, q1, q2⟩ := Option.bind_eq_some_iff.mp q1
    split at h2
    · rename_i mx q3
      obtain ⟨a, vs, rfl, e1, e2⟩ := asLst_rd m h1 q1
      have e3 := intsOf_rd e2 q2
      subst e3
      obtain ⟨m1, m2⟩ := maxOf_is q3
      refine cr_max hc pins s σ H _ us Q I r ⟨a, ns, rfl, .of e1, List.length_pos_of_mem m1, fun k k1 k2 => ?_⟩
      have : k = mx := Int.le_antisymm (m2 k k1) (k2 mx m1)
      subst this
      exact DenV.here m h2 rd_int
    · exact h2.elim
  · exact h2.elim
theorem intsOf_ds : ∀ {ds : List D} {ns : List Int}, intsOf ds = some ns → ds = ns.map D.int
  | [], ns, h => by
    simp only [intsOf, Option.some.injEq] at h
    subst h
    rfl
  | d :: ds, ns, h => by
    cases d with
    | int i =>
      simp only [intsOf] at h
      cases e : intsOf ds with
      | none => rw [e] at h; cases h
      | some l =>
        rw [e] at h
        cases h
        rw [intsOf_ds e]
        rfl
    | _ => simp [intsOf] at h
theorem rd_ints {L : Addr → Prop} : ∀ ns : List Int, RdL K H L φ (ns.map D.int) (ns.map V.int)
  | [] => .nil
  | n :: ns => .cons rd_int (rd_ints ns)
theorem rowsOf_rd {L : Addr → Prop} : ∀ {ds : List D} {vs : List V} {rs : List (List Int)}, RdL K H L φ ds vs → rowsOf ds = some rs →
    ∃ ps : List (V × List Int), ps.map (·.1) = vs ∧ ps.map (·.2) = rs ∧ ∀ p ∈ ps, ZN.RowV K H p ∧ p.2 ≠ []
  | [], vs, rs, h, q => by
    simp only [RdL] at h
    simp only [rowsOf, Option.some.injEq] at q
    subst h q
    exact ⟨[], rfl, rfl, fun p hp => by cases hp⟩
  | d :: ds, vs, rs, h, q => by
    cases d with
    | tup xs =>
      simp only [RdL] at h
      obtain ⟨w, ws, rfl, h1, h2⟩ := h
      simp only [rowsOf] at q
      split at q
      · rename_i n ns hn
        cases e : rowsOf ds with
        | none => rw [e] at q; cases q
        | some l =>
          rw [e] at q
          cases q
          obtain ⟨ps, g1, g2, g3⟩ := rowsOf_rd h2 e
          obtain ⟨a, us, rfl, k1, k2⟩ := rdV_tup h1
          rw [intsOf_rd k2 hn] at k1
          refine ⟨(.ref a, n :: ns) :: ps, by rw [List.map_cons, g1], by rw [List.map_cons, g2], fun p hp => ?_⟩
          rcases List.mem_cons.mp hp with rfl | hp
          · exact ⟨⟨a, rfl, k1⟩, List.cons_ne_nil _ _⟩
          · exact g3 p hp
      · cases q
    | _ => simp [rowsOf] at q
theorem rd_row {L : Addr → Prop} {p : V × List Int} (h : ZN.RowV K H p) : RdV K H L φ (rowD p.2) p.1 := by
  obtain ⟨t, e, q⟩ := h
  simp only [rowD, RdV]
  exact ⟨t, _, e, q, rd_ints p.2⟩
theorem rd_rows {L : Addr → Prop} : ∀ {ps : List (V × List Int)}, (∀ p ∈ ps, ZN.RowV K H p) → RdL K H L φ ((ps.map (·.2)).map rowD) (ps.map (·.1))
  | [], _ => .nil
  | p :: ps, h => .cons (rd_row (h p List.mem_cons_self)) (rd_rows fun q hq => h q (List.mem_cons_of_mem _ hq))
theorem bif_min1 (hc : X.calm = true) (hu : X.A.units + 64 < cLine) : CallR X (.builtin "min") (rDL X.K W (bifD .min1)) := by
  refine call1 (g := fun d μ => bifD .min1 [d] μ) (fun _ _ => rfl) (no1 (by decide)) fun pins s σ H B φ μ d v us Q I r m h1 h2 => ?_
  simp only [bifD] at h2
  split at h2
  · rename_i xs q1
    obtain ⟨a, vs, rfl, e1, e2⟩ := asLst_rd m h1 q1
    split at h2
    · rename_i ns q2
      split at h2
      · rename_i mx q3
        have e3 := intsOf_rd e2 q2
        subst e3
        obtain ⟨m1, m2⟩ := minOf_is q3
        refine cr_min hc pins s σ H _ us Q I r ⟨a, ns, rfl, .of e1, List.length_pos_of_mem m1, fun k k1 k2 => ?_⟩
        have : k = mx := Int.le_antisymm (k2 mx m1) (m2 k k1)
        subst this
        exact DenV.here m h2 rd_int
      · exact h2.elim
    · split at h2
      · rename_i r0 rs q3
        obtain ⟨ps, g1, g2, g3⟩ := rowsOf_rd e2 q3
        cases ps with
        | nil => cases g2
        | cons p ps =>
          rw [List.map_cons] at g2
          injection g2 with g4 g5
          subst g1
          refine ZN.cr_minR hc hu pins s σ H _ us Q I r ⟨a, p, ps, rfl, .of e1, fun q hq => (g3 q hq).1, fun q hq qe => ?_⟩
          refine DenV.here m h2 ?_
          rw [← g4, ← g5, ← qe]
          exact rd_row (g3 q hq).1
      · exact h2.elim
  · exact h2.elim
theorem bif_sorted (hu : X.A.units + 64 < cLine) : CallR X (.builtin "sorted") (rDL X.K W (bifD .sorted)) := by
  refine call1 (g := fun d μ => bifD .sorted [d] μ) (fun _ _ => rfl) (no1 (by decide)) fun pins s σ H B φ μ d v us Q I r m h1 h2 => ?_
  simp only [bifD] at h2
  split at h2
  · rename_i xs q1
    obtain ⟨a, vs, rfl, e1, e2⟩ := asSeq_rd m h1 q1
    split at h2
    · rename_i ns q2
      have e3 := intsOf_rd e2 q2
      subst e3
      exact ZN.cr_sortI hu pins s σ H _ us Q I r ⟨a, ns, rfl, e1, fun p hp => DenV.new m h2 hp (rd_newL m hp (rd_ints _))⟩
    · split at h2
      · rename_i rs q3
        obtain ⟨ps, g1, g2, g3⟩ := rowsOf_rd e2 q3
        subst g1 g2
        refine ZN.cr_sortR hu pins s σ H _ us Q I r ⟨a, ps, rfl, e1, g3, fun p hp => DenV.new m h2 hp (rd_newL m hp ?_)⟩
        have e4 : (ps.map (·.2)).mergeSort ZN.leR = (ps.mergeSort fun x y => ZN.leR x.2 y.2).map (·.2) := (List.map_mergeSort (f := fun x : V × List Int => x.2) (r := fun x y => ZN.leR x.2 y.2) (s := ZN.leR) fun _ _ _ _ => rfl).symm
        rw [e4]
        exact rd_rows fun q hq => (g3 q (List.mem_mergeSort.mp hq)).1
      · exact h2.elim
  · exact h2.elim
theorem bif_all_of (hc : X.calm = true) (hu : X.A.units + 64 < cLine) (b : Bf) : CallR X b.val (rDL X.K W (bifD b)) := by
  cases b with
  | len => exact bif_len
  | abs => exact bif_abs
  | int => exact bif_int
  | list => exact bif_list
  | tuple => exact bif_tuple
  | str => exact bif_str
  | sum => exact bif_sum hc
  | all => exact bif_all hc
  | any => exact bif_any hc
  | gcd => exact bif_gcd
  | max2 => exact bif_max2 hc
  | min2 => exact bif_min2 hc
  | max1 => exact bif_max1 hc
  | min1 => exact bif_min1 hc hu
  | sorted => exact bif_sorted hu
/-! items -/
theorem bif_cool_of {b : Bf} (h : (match b with | .len => true | .abs => true | .int => true | .list => true | .tuple => true | .gcd => true | .str => true | _ => false) = true) : CallR X b.val (rDL X.K W (bifD b)) := by
  cases b <;> first | (cases h; done) | exact bif_len | exact bif_abs | exact bif_int | exact bif_list | exact bif_tuple | exact bif_gcd | exact bif_str
theorem atI_rd {L : Addr → Prop} {ds : List D} {vs : List V} {i : Int} {d : D} (h : RdL K H L φ ds vs) (q : atI ds i = some d) : ∃ v, atI vs i = some v ∧ RdV K H L φ d v := by
  unfold atI at q ⊢
  rw [← h.length]
  cases e : ixN ds.length i with
  | none => rw [e] at q; cases q
  | some j =>
    rw [e] at q
    exact h.get q
theorem ix_all : IxR X (rD2 X.K W idxD) := by
  intro value slice pins s σ H x y v u Q I rx ry h hs
  obtain ⟨B, φ, μ, d, e, m, h1, h2, h⟩ := h
  have seq : ∀ {i : Int} {xs : List D}, e = .int i → asSeq μ d = some xs → DenV X.K W B H φ μ (match atI xs i with | some v => .ok v μ | none => .no) Q → wpAny (model X.prog X.w) X.A (subscriptTail value slice v u) (EP X pins σ Q) X.xe s := fun {i xs} ee q1 q2 => by
    subst ee
    rw [rdV_int h2] at ry
    obtain ⟨a, vs, rfl, e1, e2⟩ := asSeq_rd m h1 q1
    cases q3 : atI xs i with
    | none => simp only [q3] at q2; exact q2.elim
    | some z =>
      simp only [q3] at q2
      obtain ⟨w, e3, e4⟩ := atI_rd e2 q3
      rcases e1 with e1 | e1
      · exact ix_list value slice pins s σ H _ _ v u Q I rx ry ⟨a, vs, i, w, rfl, rfl, e1, e3, DenV.here m q2 e4⟩ hs
      · exact ix_tup value slice pins s σ H _ _ v u Q I rx ry ⟨a, vs, i, w, rfl, rfl, e1, e3, DenV.here m q2 e4⟩ hs
  cases e with
  | int i =>
    cases d with
    | str z =>
      rw [rdV_int h2] at ry; rw [rdV_str h1] at rx
      simp only [idxD] at h
      split at h
      · rename_i hz
        cases q3 : atI z.cps.toList i with
        | none => simp only [q3] at h; exact h.elim
        | some c =>
          simp only [q3] at h
          exact ix_str value slice pins s σ H _ _ v u Q I rx ry ⟨z, i, c, rfl, rfl, fits_iff.mp hz, q3, DenV.here m h rd_str⟩ hs
      · exact h.elim
    | _ =>
      simp only [idxD] at h
      split at h
      · rename_i xs q1
        exact seq rfl q1 h
      · exact h.elim
  | _ => cases d <;> exact h.elim
theorem cut_rd {L : Addr → Prop} {ds : List D} {vs : List V} {lo hi : Option Int} (h : RdL K H L φ ds vs) : RdL K H L φ (cutD ds lo hi) (cutV vs lo hi) := by
  unfold cutD cutV
  rw [← h.length]
  exact (h.drop _).take _
theorem sl_all : SlR X (fun x lo hi H Q => ∃ B φ μ d, MemOk X.K H φ μ B ∧ RdV X.K H (Live φ μ B) φ d x ∧ DenV X.K W B H φ μ (sliD d lo hi μ) Q) := by
  intro pins s σ H x v vl vu lo hi sl Q I rx hs pl pu h
  obtain ⟨B, φ, μ, d, m, h1, h⟩ := h
  have lst : ∀ {xs : List D}, asLst μ d = some xs → DenV X.K W B H φ μ (.ok (.lst (cutD xs lo hi)) μ) Q → (∃ T id, typeLookup (.type T) "__getitem__" = pure (some (.builtin id)) ∧ s.TypeIs v T ∧ wpAny (model X.prog X.w) X.A (getItem v (.ref sl)) (EP X pins σ Q) X.xe s) := fun {xs} q1 q2 => by
    obtain ⟨a, vs, rfl, e1, e2⟩ := asLst_rd m h1 q1
    exact sl_list pins s σ H _ v vl vu lo hi sl Q I rx hs pl pu ⟨a, vs, rfl, .of e1, fun p hp => DenV.new m q2 hp (rd_newL m hp (cut_rd e2))⟩
  cases d with
  | tup xs =>
    obtain ⟨a, vs, e, e1, e2⟩ := rdV_tup h1
    subst e
    refine sl_tupA pins s σ H _ v vl vu lo hi sl Q I rx hs pl pu ⟨a, vs, rfl, e1, fun hw => ?_, fun _ p hp => DenV.new m h hp (rd_newT m hp (cut_rd e2))⟩
    have e3 : cutD xs lo hi = xs := by
      unfold cutD
      rw [e2.length, hw.1, hw.2, List.drop_zero, Nat.sub_zero, ← e2.length, List.take_length]
    have h' : DenV X.K W B H φ μ (.ok (.tup (cutD xs lo hi)) μ) Q := h
    rw [e3] at h'
    exact DenV.here m h' h1
  | str z =>
    rw [rdV_str h1] at rx
    simp only [sliD] at h
    split at h
    · rename_i hz
      exact sl_str pins s σ H _ v vl vu lo hi sl Q I rx hs pl pu ⟨z, rfl, fits_iff.mp hz, DenV.here m h rd_str⟩
    · exact h.elim
  | _ =>
    simp only [sliD] at h
    split at h
    · rename_i xs q1
      exact lst q1 h
    · exact h.elim
end
end Den

/-! Den6: the checker of expressions: does plain code tell a tree of the text? -/
namespace Den
open PySem PySem.Spec PyProof.Rows L2
variable [Lams]

def Ty.nm (t : Ty) : Str := match t with
  | .int => "int" | .bool => "bool" | .str => "str" | .tuple => "tuple" | .list => "list"
theorem Ty.boot : ∀ t : Ty, bootBuiltins t.nm = some (.type t.name) := by
  intro t
  cases t <;> decide +kernel
def nmOk (x : Str) : Bool := !(x == ("__debug__" : Str)) && !(x == ("__classdict__" : Str)) && !decide (x = "__name__")
def visB (sc : Scope) (x : Str) : Bool := match sc.names.lookup x with
  | some .local => true
  | some .cell => true
  | some .free => true
  | _ => false
def locB (sc : Scope) (x : Str) : Bool := match sc.names.lookup x with
  | some .local => true
  | some .cell => true
  | _ => false
def glB (sc : Scope) (x : Str) : Bool := match sc.names.lookup x with
  | some .globalImplicit => true
  | _ => false
/-- what the checker knows of the module: its defs' names, its constants' names, its built-ins by import -/
structure Nm where
  fns : List Str
  con : List Str
  bfn : List Str
  free : List Str
  exs : List Str
  /-- defs that call what they get, and tell the end -/
  hnd : List Str
  /-- lambdas may be made here -/
  lam : Bool
  /-- classes of exceptions that are asked for -/
  cls : List Str := []
  /-- an exception is handled; it may be asked for its class -/
  hot : Bool := false
  isx : Bool := false
  /-- own classes' attributes, methods (with the method's name in the interpreter), makers -/
  flds : List (Str × Str) := []
  mts : List (Str × Str × Str) := []
  mks : List (Str × Str) := []
def Nm.low (Γ : Nm) : Nm := { Γ with lam := false, mts := [], mks := [] }
def Nm.inn (Γ : Nm) : Nm := { Γ with isx := false }
/-- built-ins that end no iterator -/
def Bf.cool : Bf → Bool
  | .len => true | .abs => true | .int => true | .list => true | .tuple => true | .gcd => true | .str => true
  | _ => false
def noPar : Arguments → Bool
  | ⟨[], [], none, [], [], none, []⟩ => true
  | _ => false
/-- a built-in's name as it is written here -/
def blt (Γ : Nm) (sc : Scope) (x : Str) : Bool := glB sc x && nmOk x && Γ.free.contains x
/-! st: which names may be stored here -/
def notCall0 : Expr → Bool
  | .Call _ [] _ _ => false
  | _ => true
theorem base_eq {o : Expr} (h : notCall0 o = true) (a : Str) (env : PySem.Env) (w : Sem Value) : attributeBase o a env w = w := by
  cases o <;> first | rfl | (rename_i f as ks p; cases as <;> first | (simp [notCall0] at h; done) | (cases f <;> rfl))
mutual
def mT (N : List Str) (sc : Scope) (st : Str → Bool) : T → Expr → Bool
  | .nm i, e => match e with
    | .Name x _ => decide (N[i]? = some x) && locB sc x && st x
    | _ => false
  | .cons a r, e => match e with
    | .Tuple es _ _ => match es with
      | x :: xs => mT N sc st a x && mTs N sc st r xs
      | [] => false
    | _ => false
  | .nil, e => match e with
    | .Tuple es _ _ => es.isEmpty
    | _ => false
def mTs (N : List Str) (sc : Scope) (st : Str → Bool) : T → List Expr → Bool
  | .nm _, _ => false
  | .cons a r, es => match es with
    | x :: xs => mT N sc st a x && mTs N sc st r xs
    | [] => false
  | .nil, es => es.isEmpty
end
def isSlice : Expr → Bool
  | .Slice .. => true
  | _ => false
/-- storable names of a comprehension's block -/
def stBlk (scope : Scope) (own : List (Str × Nat)) (x : Str) : Bool := (match scope.names.lookup x with
  | some .local => true
  | some .cell => true
  | _ => false)
def isNop : C → Bool
  | .nop => true
  | _ => false
/-- the type's name by which the numbers of a range are laid -/
def rgN (kd : Nat) : Str := if kd = 1 then "tuple" else "list"
mutual
def mE : Nm → List Str → Scope → C → Expr → Bool
  | Γ, N, sc, .var i, e => match e with
    | .Name x _ => decide (N[i]? = some x) && visB sc x && nmOk x
    | _ => false
  | Γ, N, _, .num i, e => match e with
    | .Constant (.int j) _ _ => decide (i = j)
    | _ => false
  | Γ, N, _, .txt i, e => match e with
    | .Constant (.str j) _ _ => decide (i = j)
    | _ => false
  | Γ, N, _, .bl i, e => match e with
    | .Constant (.bool j) _ _ => decide (i = j)
    | _ => false
  | Γ, N, _, .non, e => match e with
    | .Constant .none _ _ => true
    | _ => false
  | Γ, N, sc, .glo x, e => match e with
    | .Name y _ => decide (x = y) && glB sc y && nmOk y && Γ.fns.contains y
    | _ => false
  | Γ, N, sc, .con x, e => match e with
    | .Name y _ => decide (x = y) && glB sc y && nmOk y && Γ.con.contains y
    | _ => false
  | Γ, N, sc, .bin op a b, e => match e with
    | .BinOp x o y _ => decide (op = o) && mE Γ N sc a x && mE Γ N sc b y
    | _ => false
  | Γ, N, sc, .neg a, e => match e with
    | .UnaryOp .USub x _ => mE Γ N sc a x
    | _ => false
  | Γ, N, sc, .not a, e => match e with
    | .UnaryOp .Not x _ => mE Γ N sc a x
    | _ => false
  | Γ, N, sc, .one a, e => match e with
    | .BoolOp _ [x] _ => mE Γ N sc a x
    | _ => false
  | Γ, N, sc, .and a b, e => match e with
    | .BoolOp .And (x :: y :: r) p => mE Γ N sc a x && mE Γ N sc b (.BoolOp .And (y :: r) p)
    | _ => false
  | Γ, N, sc, .or a b, e => match e with
    | .BoolOp .Or (x :: y :: r) p => mE Γ N sc a x && mE Γ N sc b (.BoolOp .Or (y :: r) p)
    | _ => false
  | Γ, N, sc, .cmp op a b, e => match e with
    | .Compare x [o] [y] _ => decide (op = o) && mE Γ N sc a x && mE Γ N sc b y
    | _ => false
  | Γ, N, sc, .chn op op' a b c, e => match e with
    | .Compare x [o, o'] [y, z] _ => decide (op = o) && decide (op' = o') && mE Γ N sc a x && mE Γ N sc b y && mE Γ N sc c z
    | _ => false
  | Γ, N, sc, .ite t a b, e => match e with
    | .IfExp x y z _ => mE Γ N sc t x && mE Γ N sc a y && mE Γ N sc b z
    | _ => false
  | Γ, N, sc, .cal0 f, e => match e with
    | .Call (.Name y _) [] [] _ => !Γ.hot && decide (f = y) && glB sc y && nmOk y && Γ.fns.contains y
    | _ => false
  | Γ, N, sc, .cal f as, e => match e with
    | .Call (.Name y _) (x :: xs) [] _ => !Γ.hot && decide (f = y) && glB sc y && nmOk y && Γ.fns.contains y && mEs Γ N sc as (x :: xs)
    | _ => false
  | Γ, N, sc, .cav i fs as, e => match e with
    | .Call (.Name y _) (x :: xs) [] _ => !Γ.hot && decide (N[i]? = some y) && visB sc y && nmOk y && (fs.all fun f => Γ.fns.contains f) && mEs Γ N sc as (x :: xs)
    | _ => false
  | Γ, N, sc, .bif b as, e => match e with
    | .Call (.Name y _) (x :: xs) [] _ => (!Γ.hot || b.cool) && decide (b.name = y) && (match b.own with
      | true => glB sc y && nmOk y && Γ.bfn.contains y
      | false => blt Γ sc y) && mEs Γ N sc as (x :: xs)
    | _ => false
  | Γ, N, sc, .isi a t, e => match e with
    | .Call (.Name y _) [x, .Name z _] [] _ => decide (y = "isinstance") && blt Γ sc y && decide (z = t.nm) && blt Γ sc z && mE Γ N sc a x
    | _ => false
  | Γ, N, sc, .tup as, e => match e with
    | .Tuple es _ _ => mEs Γ N sc as es
    | _ => false
  | Γ, N, sc, .lst as, e => match e with
    | .List es _ => mEs Γ N sc as es
    | _ => false
  | Γ, N, sc, .cel as, e => match e with
    | .List es _ => mEs Γ N sc as es
    | _ => false
  | Γ, N, _, .nil, e => false
  | Γ, N, _, .cons _ _, e => false
  | Γ, N, sc, .idx a b, e => match e with
    | .Subscript x y _ => !isSlice y && mE Γ N sc a x && mE Γ N sc b y
    | _ => false
  | Γ, N, sc, .sli a lo hi, e => match e with
    | .Subscript x (.Slice l h none _) _ => mE Γ N sc a x && (match l with
      | none => isNop lo
      | some l => mE Γ N sc lo l) && (match h with
      | none => isNop hi
      | some h => mE Γ N sc hi h)
    | _ => false
  | Γ, N, _, .nop, e => false
  | Γ, N, sc, .cmpn own tg it cnd elt, e => match e with
    | .ListComp el [⟨t, i, ifs, 0⟩] scope _ => !Γ.hot && blkC N sc scope own && (T.slots tg).all (fun i => (own.map (·.2)).contains i) && mT N (relS scope sc) (stBlk scope own) tg t && mI Γ N sc it t i && (match ifs with
      | [] => isNop cnd
      | [x] => mE Γ.inn N (relS scope sc) cnd x
      | _ => false) && mE Γ.inn N (relS scope sc) elt el
    | _ => false
  | Γ, N, sc, .cmpl own tg a cnd elt, e => match e with
    | .ListComp el [⟨t, i, ifs, 0⟩] scope _ => Γ.hot && blkC N sc scope own && (T.slots tg).all (fun i => (own.map (·.2)).contains i) && mT N (relS scope sc) (stBlk scope own) tg t && mE Γ N sc a i && (match ifs with
      | [] => isNop cnd
      | [x] => mE Γ.inn N (relS scope sc) cnd x
      | _ => false) && mE Γ.inn N (relS scope sc) elt el
    | _ => false
  | Γ, N, sc, .cmp2 own tg it cnd tg1 it1 cnd1 elt, e => match e with
    | .ListComp el [⟨t, i, ifs, 0⟩, ⟨t1, i1, ifs1, 0⟩] scope _ => !Γ.hot && blkC N sc scope own && (T.slots tg).all (fun i => (own.map (·.2)).contains i) && (T.slots tg1).all (fun i => (own.map (·.2)).contains i) && mT N (relS scope sc) (stBlk scope own) tg t && mT N (relS scope sc) (stBlk scope own) tg1 t1 && mI Γ N sc it t i && mI Γ.inn N (relS scope sc) it1 t1 i1 && (match ifs with
      | [] => isNop cnd
      | [x] => mE Γ.inn N (relS scope sc) cnd x
      | _ => false) && (match ifs1 with
      | [] => isNop cnd1
      | [x] => mE Γ.inn N (relS scope sc) cnd1 x
      | _ => false) && mE Γ.inn N (relS scope sc) elt el
    | _ => false
  | Γ, N, sc, .err f b, e => match e with
    | .Call (.Name y _) [.Lambda params body scope _] [] _ => !Γ.hot && !Γ.isx && decide (f = y) && glB sc y && nmOk y && Γ.hnd.contains y && Γ.lam && noPar params && LamX.lamSB sc scope && mE Γ.low N scope b body
    | _ => false
  | Γ, N, sc, .isx i x, e => match e with
    | .Call (.Name y _) [.Name z _, .Name c _] [] _ => Γ.isx && decide (y = "isinstance") && blt Γ sc y && decide (N[i]? = some z) && visB sc z && nmOk z && decide (x = c) && glB sc c && nmOk c && Γ.cls.contains c
    | _ => false
  | Γ, N, sc, .joi a b, e => match e with
    | .Call (.Attribute v n ap) [x] [] cp => decide (n = "join") && notCall0 v && (ap.endLine == cp.line) && mE Γ N sc a v && mE Γ N sc b x
    | _ => false
  | Γ, N, sc, .fld o c f, e => match e with
    | .Attribute x y _ => decide (f = y) && notCall0 x && Γ.flds.contains (c, f) && mE Γ N sc o x
    | _ => false
  | Γ, N, sc, .mth0 o c m n, e => match e with
    | .Call (.Attribute (.Name y p) z ap) [] [] cp => !Γ.hot && decide (m = z) && (ap.endLine == cp.line) && Γ.mts.contains (c, m, n) && mE Γ N sc o (.Name y p)
    | _ => false
  | Γ, N, sc, .mth o c m n as, e => match e with
    | .Call (.Attribute (.Name y p) z ap) (x :: xs) [] cp => !Γ.hot && decide (m = z) && (ap.endLine == cp.line) && decide ((x :: xs).length < 30) && Γ.mts.contains (c, m, n) && mE Γ N sc o (.Name y p) && mEs Γ N sc as (x :: xs)
    | _ => false
  | Γ, N, sc, .mk0 c n, e => match e with
    | .Call (.Name y _) [] [] _ => !Γ.hot && decide (c = y) && glB sc y && nmOk y && Γ.mks.contains (c, n)
    | _ => false
  | Γ, N, sc, .pop0 o, e => match e with
    | .Call (.Attribute x y ap) [] [] cp => decide (y = "pop") && notCall0 x && (ap.endLine == cp.line) && mE Γ N sc o x
    | _ => false
  | Γ, N, sc, .newb op a b, e => match e with
    | .BinOp x o y _ => decide (op = o) && (decide (op = .Add) || decide (op = .Mult)) && mE Γ N sc a x && mE Γ N sc b y
    | _ => false
  | Γ, N, sc, .newl a, e => match e with
    | .Call (.Name y _) [x] [] _ => decide (y = "list") && blt Γ sc y && mE Γ N sc a x
    | _ => false
  | Γ, N, sc, .cmpc own tg it cnd elt, e => match e with
    | .ListComp el [⟨t, i, ifs, 0⟩] scope _ => !Γ.hot && blkC N sc scope own && (T.slots tg).all (fun i => (own.map (·.2)).contains i) && mT N (relS scope sc) (stBlk scope own) tg t && mI Γ N sc it t i && (match ifs with
      | [] => isNop cnd
      | [x] => mE Γ.inn N (relS scope sc) cnd x
      | _ => false) && mE Γ.inn N (relS scope sc) elt el
    | _ => false
  | Γ, N, sc, .popi o i, e => match e with
    | .Call (.Attribute x y ap) [z] [] cp => decide (y = "pop") && notCall0 x && (ap.endLine == cp.line) && mE Γ N sc o x && mE Γ N sc i z
    | _ => false
  | Γ, N, sc, .rev a, e => match e with
    | .Subscript x (.Slice none none (some (.UnaryOp .USub (.Constant (.int 1) _ _) _)) _) _ => mE Γ N sc a x
    | _ => false
  | Γ, N, sc, .lset a, e => match e with
    | .Call (.Name y _) [.Call (.Name z _) [x] [] _] [] _ => !Γ.hot && decide (y = "len") && blt Γ sc y && decide (z = "set") && blt Γ sc z && mE Γ N sc a x
    | _ => false
  | Γ, N, sc, .rgl1 kd a, e => match e with
    | .Call (.Name y _) [.Call (.Name z _) [x] [] _] [] _ => !Γ.hot && decide (rgN kd = y) && blt Γ sc y && decide (z = "range") && blt Γ sc z && mE Γ N sc a x
    | _ => false
  | Γ, N, sc, .rgl2 kd a b, e => match e with
    | .Call (.Name y _) [.Call (.Name z _) [x, w] [] _] [] _ => !Γ.hot && decide (rgN kd = y) && blt Γ sc y && decide (z = "range") && blt Γ sc z && mE Γ N sc a x && mE Γ N sc b w
    | _ => false
  | Γ, N, _, .rng1 _, e => false
  | Γ, N, _, .rng2 _ _, e => false
  | Γ, N, _, .itr _, e => false
  | Γ, N, _, .itl _, e => false
  | Γ, N, _, .zip _ _, e => false
  | Γ, N, _, .zip3 _ _ _, e => false
  | Γ, N, _, .enm _, e => false
/-- lists of expressions -/
def mEs : Nm → List Str → Scope → C → List Expr → Bool
  | Γ, N, _, .nil, es => es.isEmpty
  | Γ, N, sc, .cons a as, es => match es with
    | x :: xs => mE Γ N sc a x && mEs Γ N sc as xs
    | [] => false
  | Γ, N, _, _, _ => false
/-- what a loop walks -/
def mI : Nm → List Str → Scope → C → Expr → Expr → Bool
  | Γ, N, sc, .rng1 a, t, e => match e with
    | .Call (.Name y _) [x] [] _ => decide (y = "range") && blt Γ sc y && mE Γ N sc a x
    | _ => false
  | Γ, N, sc, .rng2 a b, t, e => match e with
    | .Call (.Name y _) [x, z] [] _ => decide (y = "range") && blt Γ sc y && mE Γ N sc a x && mE Γ N sc b z
    | _ => false
  | Γ, N, sc, .itr a, t, e => mE Γ N sc a e
  | Γ, N, sc, .itl a, t, e => mE Γ N sc a e
  | Γ, N, sc, .zip a b, t, e => match t with
    | .Tuple .. => match e with
      | .Call (.Name y _) [x, z] [] _ => decide (y = "zip") && blt Γ sc y && mE Γ N sc a x && mE Γ N sc b z
      | _ => false
    | _ => false
  | Γ, N, sc, .zip3 a b c, t, e => match t with
    | .Tuple .. => match e with
      | .Call (.Name y _) [x, z, u] [] _ => decide (y = "zip") && blt Γ sc y && mE Γ N sc a x && mE Γ N sc b z && mE Γ N sc c u
      | _ => false
    | _ => false
  | Γ, N, sc, .enm a, t, e => match t with
    | .Tuple .. => match e with
      | .Call (.Name y _) [x] [] _ => decide (y = "enumerate") && blt Γ sc y && mE Γ N sc a x
      | _ => false
    | _ => false
  | Γ, N, _, _, _, _ => false
end
end Den

/-! Den7: expressions: the checker's word is enough. -/
namespace Den
open PySem PySem.Spec PyProof.Rows L2
variable [Lams]

/-- what a def promises: it gives what the interpreter gives -/
def spOf (K : PySem.W.Frag) (g : G) (f : Str) : Sp := fun vs H Q E => ∃ B φ μ ds, MemOk K H φ μ B ∧ RdL K H (Live φ μ B) φ ds vs ∧ DenV K E B H φ μ (g.cal f ds μ) Q
/-- what a def makes of a lambda's reading: told of each end -/
def TTof (K : PySem.W.Frag) (h : Option Exn → Option D) : (XK → Hp → VK → Prop) → Hp → VK → Prop := fun tl H Q =>
  tl (fun cls dx H' => LamX.Tabs (lamT K) H' ∧ ∃ x d, ExnV K x cls dx H' ∧ h (some x) = some d ∧ flat d = true ∧ ∀ H'', LamX.ExtN H' H'' → LamX.Tabs (lamT K) H'' → Q (toV d) H'')
    H (fun _ H' => LamX.Tabs (lamT K) H' ∧ ∃ d, h none = some d ∧ flat d = true ∧ ∀ H'', LamX.ExtN H' H'' → LamX.Tabs (lamT K) H'' → Q (toV d) H'')
/-- a def that calls what it gets -/
def HndOk (P : Program) (w : World) (K : PySem.W.Frag) (mg : Str → Option Value) (base : Heap) (f : Str) (h : Option Exn → Option D) : Prop :=
  mg f = some (.ref (He.ga K f)) ∧ PySem.W.keepIn K (.ref (He.ga K f)) = true ∧
  ∃ (pg : Arguments) (bg : List Stmt) (sg : Scope) (dV kV doc pm cdv ct oc : Value) (an od : Option Addr) (osl : Array (Option Value)) (Ng : List Str) (a : Str),
    K.lookup (He.ga K f) = some ⟨oc, od, .func (PySem.W.fnOf f f pg bg sg dV kV doc pm an cdv ct), osl⟩ ∧ PySem.W.codeIn K cdv f = true ∧ Binds K (PySem.W.fnOf f f pg bg sg dV kV doc pm an cdv ct) [a] [] ∧ FnScope Ng [a] sg ∧ Ng[0]? = some a ∧ Vis sg a ∧ nmOk a = true ∧
    ∀ (X : Cx) (q : Str), X.prog = P → X.w = w → X.K = K → X.mg = mg → X.base = base → Room 2 X.A → GivesN X Ng f sg (He.ga K f) cdv bg a q (TTof K h)
/-- the context in which code runs -/
structure Cxd (Γ : Nm) (g : G) (k : Nat) (N : List Str) (sc : Scope) (st : Str → Bool) (W : XK) (X : Cx) : Prop where
  nd : X.N.Nodup
  nm : X.N = N
  scp : X.env.scope = sc
  calm : Γ.hot = false → X.calm = true
  hoti : Γ.hot = true → HotI X
  sto : ∀ x, st x = true → X.fn x = true ∨ X.env.scope.names.lookup x = some .local
  room : Γ.hot = false → Room k X.A
  un : X.A.units + 64 < cLine
  takes : L2N.Takes X (fun cls d _ H => W cls d H)
  isx : Γ.isx = true → ∃ x, g.exn = some x ∧ CallR X (.builtin "isinstance") (rIsE X.K (He.ga X.K x.cls) Lams.exa) ∧ ∀ C b, Γ.cls.contains C = true → g.sub x.cls C = some b → PySem.W.kitOne X.K (.ref (He.ga X.K x.cls)) (.ref (He.ga X.K C)) = some b
  cls : ∀ C, Γ.cls.contains C = true → X.mg C = some (.ref (He.ga X.K C))
  own : PassesOwn (model X.prog X.w) X.A X.env X.xe
  glo : ∀ x, Γ.fns.contains x = true → X.mg x = some (.ref (He.ga X.K x)) ∧ PySem.W.keepIn X.K (.ref (He.ga X.K x)) = true
  con : ∀ x d, Γ.con.contains x = true → g.con x = some d → ∃ v u, X.mg x = some u ∧ RelV v u ∧ ∀ H L φ, RdV X.K H L φ d v
  free : ∀ x, Γ.free.contains x = true → X.mg x = none
  bfn : ∀ b : Bf, b.own = true → Γ.bfn.contains b.name = true → X.mg b.name = some b.val
  exs : ∀ x, Γ.exs.contains x = true → ∃ B newId initId bmB, ExcBaseFacts B newId initId bmB ∧ PySem.W.excIn X.K (He.ga X.K x) bmB newId = true ∧ X.mg x = some (.ref (He.ga X.K x)) ∧ PySem.W.keepIn X.K (.ref (He.ga X.K x)) = true ∧ Raises X (.ref (He.ga X.K x))
  low : g.dp = true → ∃ k2, k = k2 + 2 ∧ ∀ f, Γ.fns.contains f = true → ∃ fd ps, FnOk X.prog X.w X.K X.mg X.base (L2N.CX X.prog X.w) k2 (He.ga X.K f) fd ps (spOf X.K g.low f) ∧ Binds X.K fd ps []
  hnd : ∀ f, Γ.hnd.contains f = true → HndOk X.prog X.w X.K X.mg X.base f (g.hnd f)
  lam : Γ.lam = true → ∃ (me : Str) (c : Addr), me ∈ Lams.lams ∧ X.env.code = .ref c ∧ X.env.qual = me ++ ".<locals>." ∧ LamX.TabB X.base X.mg c (He.cT X.K (me, none)).2 ∧ ∀ p ∈ lamT X.K, p.1 = (He.cT X.K (me, none)).2 → p.2 = me ++ ".<locals>." ++ "<lambda>"
  fns : ∀ f, Γ.fns.contains f = true → ∃ fd ps, FnOk X.prog X.w X.K X.mg X.base (L2N.CX X.prog X.w) k (He.ga X.K f) fd ps (spOf X.K g f) ∧ Binds X.K fd ps []
  flds : ∀ c f, Γ.flds.contains (c, f) = true → Cls X.K (He.ga X.K c) ∧ NoAttr X.K (He.ga X.K c) f
  mts : ∀ c m n, Γ.mts.contains (c, m, n) = true → Cls X.K (He.ga X.K c) ∧ Meth X.K (He.ga X.K c) m (He.ma X.K (He.ga X.K c) m) ∧
    ∃ fd ps, FnOk X.prog X.w X.K X.mg X.base (L2N.CX X.prog X.w) k (He.ma X.K (He.ga X.K c) m) fd ps (spOf X.K g n) ∧ Binds X.K fd ps []
  mks : ∀ c n, Γ.mks.contains (c, n) = true → X.mg c = some (.ref (He.ga X.K c)) ∧ ∃ f, Mk X.K (He.ga X.K c) f ∧ (g.dp = true → ∃ k2, k = k2 + 2 ∧
    ∃ fd ps, FnOk X.prog X.w X.K X.mg X.base (L2N.CX X.prog X.w) k2 f fd ps (spOf X.K g.low n) ∧ Binds X.K fd ps [])
section
variable (K : PySem.W.Frag) (W : XK) (g : G)
def tC (c : C) : TE := fun σ H Q => ∃ B φ ρ μ, Abs K H σ φ ρ μ B ∧ DenV K W B H φ μ (evE g c ρ μ) Q
def tT (c : C) : TT := fun σ H Q => ∃ B φ ρ μ, Abs K H σ φ ρ μ B ∧ DenB K W B H φ μ (evT g c ρ μ) Q
def DenL (B : Addr → Prop) (H : Hp) (φ : List Addr) (μ : Mem) (r : R D) (Q : List V → Hp → Prop) : Prop := match r with
  | .ok (.tup ds) μ' => ∀ vs H' φ', Ext H φ μ H' φ' μ' → MemOk K H' φ' μ' B → RdL K H' (Live φ' μ' B) φ' ds vs → Q vs H'
  | .ok _ _ => False
  | .er x μ' => ∀ H' φ', Ext H φ μ H' φ' μ' → MemOk K H' φ' μ' B → ∀ cls dx, ExnV K x cls dx H' → W cls dx H'
  | .no => False
def tA (c : C) : TA := fun σ H Q => ∃ B φ ρ μ, Abs K H σ φ ρ μ B ∧ DenL K W B H φ μ (evE g c ρ μ) Q
end
theorem passAtN {X : Cx} {W : WX} (tk : L2N.Takes X W) (σ : L2.St) : PassesAt (L2N.CX X.prog X.w) X σ (WE W σ) := fun _ _ _ e s' I c => tk e s' (L2N.XE.of_call I (fun _ _ _ h => h) c)
theorem PE.weak {X : Cx} {e : Expr} {t t' : TE} (h : PE X e t) (f : ∀ σ H Q, t' σ H Q → t σ H Q) : PE X e t' := ⟨fun pins s σ H Q I hw => h.run pins s σ H Q I (f σ H Q hw)⟩
theorem PT.weak {X : Cx} {e : Expr} {t t' : TT} (h : PT X e t) (f : ∀ σ H Q, t' σ H Q → t σ H Q) : PT X e t' := ⟨fun pins s σ H Q I hw => h.run pins s σ H Q I (f σ H Q hw)⟩
theorem PW.weak {X : Cx} {e : Expr} {t t' : TT} (h : PW X e t) (f : ∀ σ H Q, t' σ H Q → t σ H Q) : PW X e t' := ⟨fun wh pins s σ H Q I hw => h.run wh pins s σ H Q I (f σ H Q hw)⟩
theorem PA.weak {X : Cx} {e : List Expr} {t t' : TA} (h : PA X e t) (f : ∀ σ H Q, t' σ H Q → t σ H Q) : PA X e t' := ⟨fun pos pins s σ H Q I hw => h.run pos pins s σ H Q I (f σ H Q hw)⟩
theorem PI.weak {X : Cx} {tg e : Expr} {t t' : TI} (h : PI X tg e t) (f : ∀ σ H Q, t' σ H Q → t σ H Q) : PI X tg e t' := ⟨fun pins s σ H Q I hw => h.run pins s σ H Q I (f σ H Q hw)⟩
section
variable {K : PySem.W.Frag} {W : XK} {B : Addr → Prop} {H : Hp} {φ : List Addr} {μ : Mem} {g : G} {ρ : DEnv}
theorem DenL.bindV (hl : φ.length = μ.length) {r : R D} {f : D → Mem → R D} {Q : List V → Hp → Prop} (h : DenL K W B H φ μ (r.bind f) Q) :
    DenV K W B H φ μ r (fun v H1 => ∃ φ1 μ1 d, Ext H φ μ H1 φ1 μ1 ∧ MemOk K H1 φ1 μ1 B ∧ RdV K H1 (Live φ1 μ1 B) φ1 d v ∧ DenL K W B H1 φ1 μ1 (f d μ1) Q) := by
  cases r with
  | ok d m =>
    refine fun v H' φ' e m' rd => ⟨φ', m, d, e, m', rd, ?_⟩
    have h' : DenL K W B H φ μ (f d m) Q := h
    cases q : f d m with
    | ok x m2 =>
      rw [q] at h'
      cases x with
      | tup ds => exact fun vs H2 φ2 e2 m2 rd2 => h' vs H2 φ2 (e.trans hl e2) m2 rd2
      | _ => exact h'.elim
    | er x m2 => rw [q] at h'; exact fun H2 φ2 e2 m2 cls dx z => h' H2 φ2 (e.trans hl e2) m2 cls dx z
    | no => rw [q] at h'; exact h'
  | er x m => exact h
  | no => exact h
theorem DenV.bindL (hl : φ.length = μ.length) {r : R D} {f : List D → Mem → R D} {Q : VK} (h : DenV K W B H φ μ (r.bind fun x μ1 => match x with | .tup ds => f ds μ1 | _ => .no) Q) :
    DenL K W B H φ μ r (fun vs H1 => ∃ φ1 μ1 ds, Ext H φ μ H1 φ1 μ1 ∧ MemOk K H1 φ1 μ1 B ∧ RdL K H1 (Live φ1 μ1 B) φ1 ds vs ∧ DenV K W B H1 φ1 μ1 (f ds μ1) Q) := by
  cases r with
  | ok d m =>
    cases d with
    | tup ds => exact fun vs H' φ' e m' rd => ⟨φ', m, ds, e, m', rd, DenV.shift e hl h⟩
    | _ => exact False.elim h
  | er x m => exact h
  | no => exact h
theorem DenL.bindL (hl : φ.length = μ.length) {r : R D} {x : D} {Q : List V → Hp → Prop} (h : DenL K W B H φ μ (r.bind fun y μ2 => match y with | .tup ds => .ok (.tup (x :: ds)) μ2 | _ => .no) Q) :
    DenL K W B H φ μ r (fun vs H1 => ∃ φ1 μ1 ds, Ext H φ μ H1 φ1 μ1 ∧ MemOk K H1 φ1 μ1 B ∧ RdL K H1 (Live φ1 μ1 B) φ1 ds vs ∧ ∀ v, RdV K H1 (Live φ1 μ1 B) φ1 x v → Q (v :: vs) H1) := by
  cases r with
  | ok d m =>
    cases d with
    | tup ds => exact fun vs H' φ' e m' rd => ⟨φ', m, ds, e, m', rd, fun v rv => h _ H' φ' e m' (rd.cons rv)⟩
    | _ => exact False.elim h
  | er x m => exact h
  | no => exact h
theorem DenL.imp {r : R D} {Q Q' : List V → Hp → Prop} (h : DenL K W B H φ μ r Q) (f : ∀ v H1, Q v H1 → Q' v H1) : DenL K W B H φ μ r Q' := by
  cases r with
  | ok d m =>
    cases d with
    | tup ds => exact fun vs H' φ' e m' rd => f _ _ (h vs H' φ' e m' rd)
    | _ => exact False.elim h
  | er x m => exact h
  | no => exact h
theorem tru_V {d : D} {f : Bool → Mem → R D} {Q : VK} (h : DenV K W B H φ μ ((tru d μ).bind f) Q) : ∃ b, truB μ d = some b ∧ DenV K W B H φ μ (f b μ) Q := by
  unfold tru at h
  cases q : truB μ d with
  | none => simp only [q] at h; exact h.elim
  | some b => simp only [q] at h; exact ⟨b, rfl, h⟩
theorem tru_B {d : D} {Q : Bool → Hp → Prop} (m : MemOk K H φ μ B) (h : DenB K W B H φ μ (tru d μ) Q) : ∃ b, truB μ d = some b ∧ Q b H := by
  unfold tru at h
  cases q : truB μ d with
  | none => simp only [q] at h; exact h.elim
  | some b => simp only [q] at h; exact ⟨b, rfl, h H φ .refl m⟩
/-! tests of the forms that the machine tests apart -/
theorem evT_not (a : C) : evT g (.not a) ρ μ = (evT g a ρ μ).bind fun b μ => .ok (!b) μ := by
  simp only [evT, evE]
  cases evE g a ρ μ with
  | ok d m =>
    simp only [R.bind, tru]
    cases truB m d with
    | none => rfl
    | some b => rfl
  | _ => rfl
theorem evT_one (a : C) : evT g (.one a) ρ μ = evT g a ρ μ := rfl
theorem evT_and (a b : C) : evT g (.and a b) ρ μ = (evT g a ρ μ).bind fun t μ => if t then evT g b ρ μ else .ok false μ := by
  simp only [evT, evE]
  cases evE g a ρ μ with
  | ok d m =>
    simp only [R.bind, tru]
    cases q : truB m d with
    | none => rfl
    | some t =>
      cases t with
      | true => rfl
      | false => simp [q]
  | _ => rfl
theorem evT_or (a b : C) : evT g (.or a b) ρ μ = (evT g a ρ μ).bind fun t μ => if t then .ok true μ else evT g b ρ μ := by
  simp only [evT, evE]
  cases evE g a ρ μ with
  | ok d m =>
    simp only [R.bind, tru]
    cases q : truB m d with
    | none => rfl
    | some t =>
      cases t with
      | true => simp [q]
      | false => rfl
  | _ => rfl
theorem evT_ite (t a b : C) : evT g (.ite t a b) ρ μ = (evT g t ρ μ).bind fun c μ => if c then evT g a ρ μ else evT g b ρ μ := by
  simp only [evT, evE]
  cases evE g t ρ μ with
  | ok d m =>
    simp only [R.bind, tru]
    cases q : truB m d with
    | none => rfl
    | some t => cases t <;> rfl
  | _ => rfl
/-- a value that is True or False, tested -/
theorem tru_bl {b : Bool} : tru (.bl b) μ = .ok b μ := rfl
theorem DenB.ofV {r : R D} {Q : Bool → Hp → Prop} (hr : ∀ d m, r = .ok d m → ∃ b, d = .bl b) (h : DenB K W B H φ μ (r.bind fun x μ1 => tru x μ1) Q) : DenV K W B H φ μ r (fun v H1 => ∃ k, v = .bl k ∧ Q k H1) := by
  cases r with
  | ok d m =>
    obtain ⟨b, rfl⟩ := hr d m rfl
    exact fun v H' φ' e m' rd => ⟨b, rdV_bl rd, h H' φ' e m'⟩
  | er x m => exact h
  | no => exact h
theorem bl_cmp (op : CmpOp) (a b : C) : ∀ d m, evE g (.cmp op a b) ρ μ = .ok d m → ∃ t, d = .bl t := by
  intro d m h
  simp only [evE] at h
  cases q1 : evE g a ρ μ with
  | ok x m1 =>
    simp only [q1, R.bind] at h
    cases q2 : evE g b ρ m1 with
    | ok y m2 =>
      simp only [q2, R.bind] at h
      cases q3 : cmpD op x y m2 with
      | ok t m3 => simp only [q3, R.bind] at h; cases h; exact ⟨t, rfl⟩
      | er => simp [q3, R.bind] at h
      | no => simp [q3, R.bind] at h
    | er => simp [q2, R.bind] at h
    | no => simp [q2, R.bind] at h
  | er => simp [q1, R.bind] at h
  | no => simp [q1, R.bind] at h
theorem bl_chn (op op' : CmpOp) (a b c : C) : ∀ d m, evE g (.chn op op' a b c) ρ μ = .ok d m → ∃ t, d = .bl t := by
  intro d m h
  simp only [evE] at h
  cases q1 : evE g a ρ μ with
  | ok x m1 =>
    simp only [q1, R.bind] at h
    cases q2 : evE g b ρ m1 with
    | ok y m2 =>
      simp only [q2, R.bind] at h
      cases q3 : cmpD op x y m2 with
      | ok t m3 =>
        cases t with
        | false => simp only [q3, R.bind] at h; cases h; exact ⟨_, rfl⟩
        | true =>
          simp only [q3, R.bind, if_true] at h
          cases q4 : evE g c ρ m3 with
          | ok z m4 =>
            simp only [q4, R.bind] at h
            cases q5 : cmpD op' y z m4 with
            | ok t m5 => simp only [q5, R.bind] at h; cases h; exact ⟨_, rfl⟩
            | er => simp [q5, R.bind] at h
            | no => simp [q5, R.bind] at h
          | er => simp [q4, R.bind] at h
          | no => simp [q4, R.bind] at h
      | er => simp [q3, R.bind] at h
      | no => simp [q3, R.bind] at h
    | er => simp [q2, R.bind] at h
    | no => simp [q2, R.bind] at h
  | er => simp [q1, R.bind] at h
  | no => simp [q1, R.bind] at h
end

/-! ### syntax that needs no rule of its own -/
def notStar : Expr → Bool
  | .Starred .. => false
  | _ => true
theorem star_eq {e : Expr} (h : notStar e = true) (es : List Expr) (env : PySem.Env) : starEach (e :: es) env = (false, eval e env) :: starEach es env := by
  cases e <;> first | rfl | (simp [notStar] at h)
theorem backTo_any {es : List Expr} (h : es.all notStar = true) (pos : Pos) (env : PySem.Env) : (backTo pos (starEach es env)).any (·.1) = false := by
  induction es with
  | nil => rfl
  | cons e es ih =>
    rw [List.all_cons, Bool.and_eq_true] at h
    rw [star_eq h.1]
    show (false || (backTo pos (starEach es env)).any (·.1)) = false
    rw [ih h.2]; rfl
def notSet : Expr → Bool
  | .Set .. => false
  | _ => true
theorem folded_eq {e : Expr} (h : notSet e = true) (env : PySem.Env) : ∀ x, foldedSetIterable e env x = pure x := by
  intro x
  cases e <;> first | rfl | (simp [notSet] at h)
theorem behind_eq {e : Expr} (h : notSet e = true) (op : CmpOp) : behindInMarks op e = false := by
  cases e <;> first | rfl | (simp [notSet] at h)
theorem plainIx_eq {e : Expr} (h : isSlice e = false) : PlainIx e := by
  intro o i
  cases e <;> first | rfl | (simp [isSlice] at h)
def plainTest : Expr → Bool
  | .UnaryOp .Not _ _ => false
  | .BoolOp .. => false
  | .IfExp .. => false
  | .Compare .. => false
  | _ => true
theorem plainTest_eq {e : Expr} (h : plainTest e = true) (env : PySem.Env) : ∀ whole, isTrue e env whole = (do let v ← whole; standAt e.pos; holding [v] (truthy v)) := by
  intro w
  cases e <;> first | rfl | (simp [plainTest] at h; done) | (rename_i op _ _; cases op <;> first | rfl | (simp [plainTest] at h; done))
/-- what the checker lets through is none of the odd forms -/
theorem mE_forms {Γ : Nm} {N : List Str} {sc : Scope} : ∀ {c : C} {e : Expr}, mE Γ N sc c e = true → notStar e = true ∧ notSet e = true := by
  intro c e h
  cases e <;> first | exact ⟨rfl, rfl⟩ | (exfalso; cases c <;> first | exact Bool.noConfusion h | (simp [mE] at h))
theorem mEs_forms {Γ : Nm} {N : List Str} {sc : Scope} : ∀ {c : C} {es : List Expr}, mEs Γ N sc c es = true → es.all notStar = true := by
  intro c es
  induction es generalizing c with
  | nil => intro _; rfl
  | cons e es ih =>
    intro h
    cases c with
    | cons a as =>
      simp only [mEs, Bool.and_eq_true] at h
      rw [List.all_cons, (mE_forms h.1).1, ih h.2]
      rfl
    | _ => simp [mEs] at h
theorem str_not {x y : Str} (h : (!(x == y)) = true) : (x == y) = false := by simpa using h
theorem nmOk_out {x : Str} (h : nmOk x = true) : (x == ("__debug__" : Str)) = false ∧ (x == ("__classdict__" : Str)) = false ∧ x ≠ "__name__" := by
  unfold nmOk at h
  simp only [Bool.and_eq_true] at h
  exact ⟨str_not h.1.1, str_not h.1.2, by simpa using h.2⟩
theorem visB_out {sc : Scope} {x : Str} (h : visB sc x = true) : Vis sc x := by
  unfold visB at h
  split at h
  · rename_i q; exact .inl q
  · rename_i q; exact .inr (.inl q)
  · rename_i q; exact .inr (.inr q)
  · cases h
theorem locB_out {sc : Scope} {x : Str} (h : locB sc x = true) : Loc sc x := by
  unfold locB at h
  split at h
  · rename_i q; exact .inl q
  · rename_i q; exact .inr q
  · cases h
theorem glB_out {X : Cx} {x : Str} (h : glB X.env.scope x = true) : Gl X x := by
  unfold glB at h
  split at h
  · rename_i q; exact q
  · cases h
section
variable {Γ : Nm} {g : G} {k : Nat} {N : List Str} {sc : Scope} {st : Str → Bool} {W : XK} {X : Cx}
theorem Cxd.blt (cx : Cxd Γ g k N sc st W X) {x : Str} (h : blt Γ sc x = true) : Gl X x ∧ X.mg x = none ∧ (x == ("__debug__" : Str)) = false ∧ x ≠ "__name__" := by
  unfold Den.blt at h
  simp only [Bool.and_eq_true] at h
  have q := nmOk_out h.1.2
  exact ⟨glB_out (by rw [cx.scp]; exact h.1.1), cx.free x h.2, q.1, q.2.2⟩
end
end Den

/-! Den8: targets, what is walked, comprehensions. -/
namespace Den
open PySem PySem.Spec PyProof.Rows L2
variable [Lams]

/-! ### targets -/
theorem pg_tupA {X : Cx} {pos : Pos} {es : List Expr} {k : Nat} {t : TGs} {n : Nat} (hc : X.calm = true ∨ HotI X) (h : PGs X es t) (hn : (assignEach es X.env).length = n) (hst : (assignEach es X.env).findIdx? (·.1) = none) : PG X (.Tuple es k pos) (gTup X.K n t) :=
  hc.elim (fun c => pg_tup c h hn hst) fun c => pg_tupH c h hn hst
section
variable (K : PySem.W.Frag)
def gT (t : T) : TG := fun v σ H Q => ∃ B φ ρ μ d ρ', Abs K H σ φ ρ μ B ∧ RdV K H (Live φ μ B) φ d v ∧ asg t d ρ = some ρ' ∧
  ∀ σ', Abs K H σ' φ ρ' μ B → (∀ vs : List Nat, (∀ i ∈ t.slots, i ∈ vs) → L2.wipe σ' vs = L2.wipe σ vs) → Q σ' H
def gTs (t : T) : TGs := fun ws σ H Q => ∃ B φ ρ μ ds ρ', Abs K H σ φ ρ μ B ∧ RdL K H (Live φ μ B) φ ds ws ∧ asg t (.tup ds) ρ = some ρ' ∧
  ∀ σ', Abs K H σ' φ ρ' μ B → (∀ vs : List Nat, (∀ i ∈ t.slots, i ∈ vs) → L2.wipe σ' vs = L2.wipe σ vs) → Q σ' H
end
theorem wipe_set {σ : L2.St} {i : Nat} {v : Option V} : ∀ {vs : List Nat}, i ∈ vs → L2.wipe (σ.set i v) vs = L2.wipe σ vs
  | w :: vs, h => by
    unfold L2.wipe
    by_cases hi : w = i
    · subst hi
      by_cases hm : w ∈ vs
      · rw [wipe_set hm]
      · -- the slot is emptied here
        have e : ∀ (us : List Nat), w ∉ us → L2.wipe (σ.set w v) us = (L2.wipe σ us).set w v := fun us hu => by
          induction us with
          | nil => rfl
          | cons u us ih =>
            rw [List.mem_cons, not_or] at hu
            unfold L2.wipe
            rw [ih hu.2, List.set_comm _ _ hu.1]
        rw [e vs hm, List.set_set]
    · rw [List.mem_cons] at h
      rw [wipe_set (h.resolve_left fun e => hi e.symm)]
theorem assignEach_len {env : PySem.Env} : ∀ es : List Expr, (assignEach es env).length = es.length
  | [] => rfl
  | e :: es => by
    have ih := assignEach_len (env := env) es
    cases e <;> (show (assignEach es env).length + 1 = es.length + 1; rw [ih])
theorem mT_star {N : List Str} {sc : Scope} {st : Str → Bool} {t : T} {e : Expr} (h : mT N sc st t e = true) : notStar e = true := by
  cases e <;> first | rfl | (exfalso; cases t <;> simp [mT] at h)
theorem assignEach_eq {env : PySem.Env} {e : Expr} (h : notStar e = true) (es : List Expr) : assignEach (e :: es) env = (false, assign e env) :: assignEach es env := by
  cases e <;> first | rfl | (simp [notStar] at h)
theorem mTs_find {N : List Str} {sc : Scope} {st : Str → Bool} {env : PySem.Env} : ∀ {t : T} {es : List Expr}, mTs N sc st t es = true → (assignEach es env).findIdx? (·.1) = none
  | .nm _, _, h => by simp [mTs] at h
  | .nil, es, h => by
    simp only [mTs, List.isEmpty_iff] at h
    subst h; rfl
  | .cons a r, [], h => by simp [mTs] at h
  | .cons a r, x :: xs, h => by
    simp only [mTs, Bool.and_eq_true] at h
    have ih := mTs_find (env := env) h.2
    rw [assignEach_eq (mT_star h.1), List.findIdx?_cons]
    simp [ih]
theorem asg_len : ∀ {t : T} {es : List Expr} {N : List Str} {sc : Scope} {st : Str → Bool} {ds : List D} {ρ ρ' : DEnv}, mTs N sc st t es = true → asg t (.tup ds) ρ = some ρ' → ds.length = es.length
  | .nm _, _, _, _, _, _, _, _, h, _ => by simp [mTs] at h
  | .nil, es, _, _, _, ds, _, _, h, q => by
    simp only [mTs, List.isEmpty_iff] at h
    subst h
    cases ds with
    | nil => rfl
    | cons d ds => simp [asg] at q
  | .cons a r, [], _, _, _, _, _, _, h, _ => by simp [mTs] at h
  | .cons a r, x :: xs, N, sc, st, ds, ρ, ρ', h, q => by
    simp only [mTs, Bool.and_eq_true] at h
    cases ds with
    | nil => simp [asg] at q
    | cons d ds =>
      simp only [asg] at q
      cases e : asg a d ρ with
      | none => rw [e] at q; cases q
      | some ρ1 =>
        rw [e] at q
        rw [List.length_cons, List.length_cons, asg_len h.2 q]
section
variable {X : Cx} {N : List Str} {sc : Scope} {st : Str → Bool}
mutual
theorem s_tgt (hN : X.N = N) (nd : X.N.Nodup) (hsc : X.env.scope = sc) (hc : X.calm = true ∨ HotI X) (hst : ∀ x, st x = true → X.fn x = true ∨ X.env.scope.names.lookup x = some .local) : ∀ {t : T} {e : Expr}, mT N sc st t e = true → PG X e (gT X.K t)
  | .nm i, e, h => by
    simp only [mT] at h
    split at h
    · rename_i x pos
      simp only [Bool.and_eq_true, decide_eq_true_eq] at h
      have p : PG X (.Name x pos) (gName i) := pg_name nd (by rw [hN]; exact h.1.1) (by rw [hsc]; exact locB_out h.1.2) (hst x h.2)
      refine ⟨fun pins s σ H v u Q I r hw => p.run pins s σ H v u Q I r ?_⟩
      obtain ⟨B, φ, ρ, μ, d, ρ', ab, rd, q, hQ⟩ := hw
      simp only [asg, Option.some.injEq] at q
      subst q
      exact hQ _ (ab.set rd) fun vs hv => wipe_set (hv i (by simp [T.slots]))
    · cases h
  | .nil, e, h => by
    simp only [mT] at h
    split at h
    · rename_i es k pos
      rw [List.isEmpty_iff] at h
      subst h
      have p : PG X (.Tuple [] k pos) (gTup X.K 0 gNil) := pg_tupA hc pgs_nil rfl rfl
      refine ⟨fun pins s σ H v u Q I r hw => p.run pins s σ H v u Q I r ?_⟩
      obtain ⟨B, φ, ρ, μ, d, ρ', ab, rd, q, hQ⟩ := hw
      cases d with
      | tup ds =>
        cases ds with
        | nil =>
          simp only [asg, Option.some.injEq] at q
          subst q
          obtain ⟨a, vs, rfl, h1, h2⟩ := rdV_tup rd
          simp only [RdL] at h2
          subst h2
          exact ⟨a, [], rfl, h1, rfl, rfl, hQ σ ab fun _ _ => rfl⟩
        | cons d ds => simp [asg] at q
      | _ => simp [asg] at q
    · cases h
  | .cons a r, e, h => by
    simp only [mT] at h
    split at h
    · rename_i es k pos
      split at h
      · rename_i x xs
        have h' : mTs N sc st (.cons a r) (x :: xs) = true := by simpa only [mTs] using h
        have p : PG X (.Tuple (x :: xs) k pos) (gTup X.K (x :: xs).length (gTs X.K (.cons a r))) := pg_tupA hc (s_tgts hN nd hsc hc hst h') (assignEach_len _) (mTs_find h')
        refine ⟨fun pins s σ H v u Q I r hw => p.run pins s σ H v u Q I r ?_⟩
        obtain ⟨B, φ, ρ, μ, d, ρ', ab, rd, q, hQ⟩ := hw
        cases d with
        | tup ds =>
          obtain ⟨b, vs, rfl, h1, h2⟩ := rdV_tup rd
          exact ⟨b, vs, rfl, h1, by rw [← h2.length]; exact asg_len h' q, B, φ, ρ, μ, ds, ρ', ab, h2, q, hQ⟩
        | _ => simp [asg] at q
      · cases h
    · cases h
theorem s_tgts (hN : X.N = N) (nd : X.N.Nodup) (hsc : X.env.scope = sc) (hc : X.calm = true ∨ HotI X) (hst : ∀ x, st x = true → X.fn x = true ∨ X.env.scope.names.lookup x = some .local) : ∀ {t : T} {es : List Expr}, mTs N sc st t es = true → PGs X es (gTs X.K t)
  | .nm _, _, h => by simp [mTs] at h
  | .nil, es, h => by
    simp only [mTs, List.isEmpty_iff] at h
    subst h
    refine ⟨fun pins s σ H vs us Q I r hw => pgs_nil.run pins s σ H vs us Q I r ?_⟩
    obtain ⟨B, φ, ρ, μ, ds, ρ', ab, rd, q, hQ⟩ := hw
    cases ds with
    | nil =>
      simp only [asg, Option.some.injEq] at q
      subst q
      simp only [RdL] at rd
      exact ⟨rd, hQ σ ab fun _ _ => rfl⟩
    | cons d ds => simp [asg] at q
  | .cons a r, [], h => by simp [mTs] at h
  | .cons a r, x :: xs, h => by
    simp only [mTs, Bool.and_eq_true] at h
    have p : PGs X (x :: xs) (gCons (gT X.K a) (gTs X.K r)) := pgs_cons (s_tgt hN nd hsc hc hst h.1) (s_tgts hN nd hsc hc hst h.2) (by rw [assignEach_eq (mT_star h.1)]; rfl)
    refine ⟨fun pins s σ H vs us Q I r hw => p.run pins s σ H vs us Q I r ?_⟩
    obtain ⟨B, φ, ρ, μ, ds, ρ', ab, rd, q, hQ⟩ := hw
    cases ds with
    | nil => simp [asg] at q
    | cons d ds =>
      simp only [asg] at q
      cases e : asg a d ρ with
      | none => rw [e] at q; cases q
      | some ρ1 =>
        rw [e] at q
        simp only [RdL] at rd
        obtain ⟨w, ws, rfl, r1, r2⟩ := rd
        refine ⟨w, ws, rfl, B, φ, ρ, μ, d, ρ1, ab, r1, e, fun σ1 ab1 w1 => ⟨B, φ, ρ1, μ, ds, ρ', ab1, r2, q, fun σ2 ab2 w2 => hQ σ2 ab2 fun vs hv => ?_⟩⟩
        rw [w2 vs fun i hi => hv i (by simp [T.slots, hi]), w1 vs fun i hi => hv i (by simp [T.slots, hi])]
end
end

/-! ### what is walked -/
/-- it gives the items, while nothing but changeable things changes -/
def ItOk (K : PySem.W.Frag) (H : Hp) (φ : List Addr) (μ : Mem) (B : Addr → Prop) (J : It) (items : List D) : Prop :=
  Walk J items.length (fun H1 => ∃ φ1 μ1, ExtU B H φ μ H1 φ1 μ1)
    (fun i H1 x H2 => (∀ a o, H1 a = some o → H2 a = some o) ∧ ∀ (B' : Addr → Prop) φ1 μ1 d, (∀ a, B' a → B a ∨ H a = none) → φ1.length = μ1.length → ExtU B H φ μ H1 φ1 μ1 → items[i]? = some d → RdV K H2 (Live φ1 μ1 B') φ1 d x)
section
variable (K : PySem.W.Frag) (W : XK) (g : G)
def DenI (B : Addr → Prop) (H : Hp) (φ : List Addr) (μ : Mem) (r : R D) (Q : It → Hp → Prop) : Prop := match r with
  | .ok (.tup ds) μ' => ∀ J H' φ', Ext H φ μ H' φ' μ' → MemOk K H' φ' μ' B → ItOk K H' φ' μ' B J ds → Q J H'
  | .ok _ _ => False
  | .er x μ' => ∀ H' φ', Ext H φ μ H' φ' μ' → MemOk K H' φ' μ' B → ∀ cls dx, ExnV K x cls dx H' → W cls dx H'
  | .no => False
def tI (c : C) : TI := fun σ H Q => ∃ B φ ρ μ, Abs K H σ φ ρ μ B ∧ DenI K W B H φ μ (evE g c ρ μ) Q
end
section
variable {K : PySem.W.Frag} {W : XK} {B : Addr → Prop} {H H1 : Hp} {φ φ1 : List Addr} {μ μ1 : Mem} {g : G} {ρ : DEnv}
theorem DenI.bindV (hl : φ.length = μ.length) {r : R D} {f : D → Mem → R D} {Q : It → Hp → Prop} (h : DenI K W B H φ μ (r.bind f) Q) :
    DenV K W B H φ μ r (fun v H1 => ∃ φ1 μ1 d, Ext H φ μ H1 φ1 μ1 ∧ MemOk K H1 φ1 μ1 B ∧ RdV K H1 (Live φ1 μ1 B) φ1 d v ∧ DenI K W B H1 φ1 μ1 (f d μ1) Q) := by
  cases r with
  | ok d m =>
    refine fun v H' φ' e m' rd => ⟨φ', m, d, e, m', rd, ?_⟩
    have h' : DenI K W B H φ μ (f d m) Q := h
    cases q : f d m with
    | ok x m2 =>
      rw [q] at h'
      cases x with
      | tup ds => exact fun vs H2 φ2 e2 m2 rd2 => h' vs H2 φ2 (e.trans hl e2) m2 rd2
      | _ => exact h'.elim
    | er x m2 => rw [q] at h'; exact fun H2 φ2 e2 m2 cls dx z => h' H2 φ2 (e.trans hl e2) m2 cls dx z
    | no => rw [q] at h'; exact h'
  | er x m => exact h
  | no => exact h
theorem DenI.here (m : MemOk K H φ μ B) {ds : List D} {Q : It → Hp → Prop} (h : DenI K W B H φ μ (.ok (.tup ds) μ) Q) {J : It} (i : ItOk K H φ μ B J ds) : Q J H := h J H φ .refl m i
theorem DenI.imp {r : R D} {Q Q' : It → Hp → Prop} (h : DenI K W B H φ μ r Q) (f : ∀ v H1, Q v H1 → Q' v H1) : DenI K W B H φ μ r Q' := by
  cases r with
  | ok d m =>
    cases d with
    | tup ds => exact fun vs H' φ' e m' rd => f _ _ (h vs H' φ' e m' rd)
    | _ => exact False.elim h
  | er x m => exact h
  | no => exact h
theorem DenV.bindI (hl : φ.length = μ.length) {r : R D} {f : List D → Mem → R D} {Q : VK} (h : DenV K W B H φ μ (r.bind fun x μ1 => match x with | .tup ds => f ds μ1 | _ => .no) Q) :
    DenI K W B H φ μ r (fun J H1 => ∃ φ1 μ1 ds, Ext H φ μ H1 φ1 μ1 ∧ MemOk K H1 φ1 μ1 B ∧ ItOk K H1 φ1 μ1 B J ds ∧ DenV K W B H1 φ1 μ1 (f ds μ1) Q) := by
  cases r with
  | ok d m =>
    cases d with
    | tup ds => exact fun J H' φ' e m' i => ⟨φ', m, ds, e, m', i, DenV.shift e hl h⟩
    | _ => exact False.elim h
  | er x m => exact h
  | no => exact h
theorem DenF.bindI (hl : φ.length = μ.length) {r : R D} {f : List D → Mem → R Fl} {Q : Ends} (h : DenF K W B H φ μ (r.bind fun x μ1 => match x with | .tup ds => f ds μ1 | _ => .no) Q) :
    DenI K W B H φ μ r (fun J H1 => ∃ φ1 μ1 ds, Ext H φ μ H1 φ1 μ1 ∧ MemOk K H1 φ1 μ1 B ∧ ItOk K H1 φ1 μ1 B J ds ∧ DenF K W B H1 φ1 μ1 (f ds μ1) Q) := by
  cases r with
  | ok d m =>
    cases d with
    | tup ds => exact fun J H' φ' e m' i => ⟨φ', m, ds, e, m', i, DenF.shift e hl h⟩
    | _ => exact False.elim h
  | er x m => exact h
  | no => exact h
/-! the sources -/
theorem itok_at {J : It} {items : List D} {vs : List V} {G : Hp → Prop} (w : Walk J items.length G (YAt vs)) (rd : RdL K H (Live φ μ B) φ items vs) (hl : φ.length = μ.length) (hG : ∀ H1 φ1 μ1, ExtU B H φ μ H1 φ1 μ1 → G H1) : ItOk K H φ μ B J items := by
  refine w.mono (fun H1 ⟨φ1, μ1, e⟩ => hG H1 φ1 μ1 e) fun i H1 x H2 hi ⟨φ0, μ0, _⟩ ⟨e1, e2⟩ => ?_
  subst e1
  refine ⟨fun _ _ h => h, fun B' φ1 μ1 d hB _ e hd => ?_⟩
  obtain ⟨v, h1, h2⟩ := rd.get hd
  rw [h1] at e2
  cases e2
  exact RdV.monoU e (fun _ z => z) hl hB h2
theorem itok_list {a : Addr} {items : List D} {vs : List V} (h : H a = some (.lst vs)) (n : ¬ Live φ μ B a) (rd : RdL K H (Live φ μ B) φ items vs) (hl : φ.length = μ.length) : ItOk K H φ μ B (Itl K a) items :=
  itok_at (by rw [rd.length]; exact walk_list) rd hl fun H1 φ1 μ1 e => SqL.of (K := K) (e.keep a _ h nt_lst (fun z => n (.inr z)) (fun z => n (.inl z)))
theorem itok_tup {a : Addr} {items : List D} {vs : List V} (h : SqT K H a vs) (rd : RdL K H (Live φ μ B) φ items vs) (hl : φ.length = μ.length) : ItOk K H φ μ B (Itt K a) items :=
  itok_at (by rw [rd.length]; exact walk_tup) rd hl fun H1 φ1 μ1 e => by
    rcases h with (h1 | ⟨o, h1⟩) | h1
    · exact .inl (.inl (e.tup a vs h1))
    · exact .inl (.inr ⟨o, e.frz a o _ h1⟩)
    · exact .inr h1
theorem rngL_get {lo hi : Int} {i : Nat} {d : D} (h : (rngL lo hi)[i]? = some d) : d = .int (lo + i) := by
  unfold rngL at h
  rw [List.getElem?_map] at h
  cases q : (List.range (hi - lo).toNat)[i]? with
  | none => rw [q] at h; cases h
  | some j =>
    rw [q] at h
    rw [List.getElem?_range (by have := (List.getElem?_eq_some_iff.mp q).1; simpa using this)] at q
    cases q
    cases h
    rfl
theorem rngL_length (lo hi : Int) : (rngL lo hi).length = (hi - lo).toNat := by unfold rngL; rw [List.length_map, List.length_range]
theorem itok_rng {lo hi : Int} : ItOk K H φ μ B (Itr lo (hi - lo).toNat) (rngL lo hi) := by
  unfold ItOk
  rw [rngL_length]
  refine walk_range.mono (fun _ _ => trivial) fun i H1 x H2 hi _ ⟨e1, e2⟩ => ?_
  subst e1 e2
  refine ⟨fun _ _ h => h, fun B' φ1 μ1 d _ _ _ hd => ?_⟩
  rw [rngL_get hd]
  exact rd_int
theorem itok_str {z : Str} : ItOk K H φ μ B (Its z) (strL z) := by
  unfold ItOk
  have e : (strL z).length = z.cps.size := by unfold strL; rw [List.length_map, Array.length_toList]
  rw [e]
  refine walk_str.mono (fun _ _ => trivial) fun i H1 x H2 hi _ ⟨e1, c, e2, e3⟩ => ?_
  subst e1 e3
  refine ⟨fun _ _ h => h, fun B' φ1 μ1 d _ _ _ hd => ?_⟩
  unfold strL at hd
  rw [List.getElem?_map, Array.getElem?_toList, e2] at hd
  cases hd
  exact rd_str
/-- pairs, each a new tuple -/
theorem itok_pair {J : It} {items as bs : List D} {vs ws : Nat → Option V} {G : Hp → Prop} (w : Walk J items.length G (YPair vs ws)) (hG : ∀ H1 φ1 μ1, ExtU B H φ μ H1 φ1 μ1 → G H1) (hl : φ.length = μ.length)
    (rd : ∀ (i : Nat) (d : D), items[i]? = some d → ∃ a b v w, d = .tup [a, b] ∧ vs i = some v ∧ ws i = some w ∧ RdV K H (Live φ μ B) φ a v ∧ RdV K H (Live φ μ B) φ b w) : ItOk K H φ μ B J items := by
  refine w.mono (fun H1 ⟨φ1, μ1, e⟩ => hG H1 φ1 μ1 e) fun i H1 x H2 hi ⟨φ0, μ0, _⟩ ⟨T, x1, y1, e1, hT, e2, e3, e4⟩ => ?_
  subst e1 e2
  refine ⟨upd_keep hT, fun B' φ1 μ1 d hB hl1 e hd => ?_⟩
  obtain ⟨a, b, v, w', rfl, q1, q2, r1, r2⟩ := rd i d hd
  rw [q1] at e3; cases e3
  rw [q2] at e4; cases e4
  have s1 := RdV.mono (Ext.grow (μ := μ1) (φ := φ1) (upd_keep (o := .tup [x1, y1]) hT)) hl1 (RdV.monoU e (fun _ z => z) hl hB r1)
  have s2 := RdV.mono (Ext.grow (μ := μ1) (φ := φ1) (upd_keep (o := .tup [x1, y1]) hT)) hl1 (RdV.monoU e (fun _ z => z) hl hB r2)
  simp only [RdV]
  exact ⟨T, [x1, y1], rfl, SqT.of upd_same, .cons s1 (.cons s2 .nil)⟩
/-- rows, each a new tuple -/
def YRow (vs : Nat → Option (List V)) : Nat → Hp → V → Hp → Prop := fun i H v H' => ∃ T xs, v = .ref T ∧ H T = none ∧ H' = upd H T (.tup xs) ∧ vs i = some xs
theorem itok_row {J : It} {items : List D} {vs : Nat → Option (List V)} {G : Hp → Prop} (w : Walk J items.length G (YRow vs)) (hG : ∀ H1 φ1 μ1, ExtU B H φ μ H1 φ1 μ1 → G H1) (hl : φ.length = μ.length)
    (rd : ∀ (i : Nat) (d : D), items[i]? = some d → ∃ ds ws, d = .tup ds ∧ vs i = some ws ∧ RdL K H (Live φ μ B) φ ds ws) : ItOk K H φ μ B J items := by
  refine w.mono (fun H1 ⟨φ1, μ1, e⟩ => hG H1 φ1 μ1 e) fun i H1 x H2 hi ⟨φ0, μ0, _⟩ ⟨T, xs, e1, hT, e2, e3⟩ => ?_
  subst e1 e2
  refine ⟨upd_keep hT, fun B' φ1 μ1 d hB hl1 e hd => ?_⟩
  obtain ⟨ds, ws, rfl, q1, r1⟩ := rd i d hd
  rw [q1] at e3; cases e3
  have s1 := RdL.mono (Ext.grow (μ := μ1) (φ := φ1) (upd_keep (o := .tup xs) hT)) hl1 (RdL.monoU e (fun _ z => z) hl hB r1)
  simp only [RdV]
  exact ⟨T, xs, rfl, SqT.of upd_same, s1⟩
end
end Den

/-! Den9: expressions are sound. -/
namespace Den
open PySem PySem.Spec PyProof.Rows L2
variable [Lams]

theorem R.bind_assoc {α β γ : Type} (r : R α) (f : α → Mem → R β) (h : β → Mem → R γ) : (r.bind f).bind h = r.bind fun a m => (f a m).bind h := by cases r <;> rfl
section
variable {K : PySem.W.Frag} {W : XK} {B : Addr → Prop} {H : Hp} {φ : List Addr} {μ : Mem} {σ : L2.St} {ρ : DEnv}
theorem MemOk.less {B' : Addr → Prop} (m : MemOk K H φ μ B') (hB : ∀ a, B a → B' a) : MemOk K H φ μ B := by
  refine ⟨m.len, m.inj, fun i c a h1 h2 => ?_, fun a h => m.bt a (hB a h), m.tabs⟩
  obtain ⟨q, n⟩ := m.cell i c a h1 h2
  refine ⟨?_, fun h => n (hB a h)⟩
  obtain ⟨o, vs, q1, ho, q2⟩ := q
  exact ⟨o, vs, q1, ho, RdL.monoB .refl m.len (fun a h => .inl (hB a h)) q2⟩
/-- one more thing that is being made, new there -/
theorem MemOk.more (m : MemOk K H φ μ B) {D : Addr} (hD : H D = none) {o : HO} (nt : NT o) : MemOk K (upd H D o) φ μ (fun a => B a ∨ a = D) := by
  have e : Ext H φ μ (upd H D o) φ μ := .grow (upd_keep hD)
  refine ⟨m.len, m.inj, fun i c a h1 h2 => ?_, fun a h => ?_, m.tabs.ext (upd_keep hD)⟩
  · obtain ⟨q, n⟩ := m.cell i c a h1 h2
    have hne : a ≠ D := fun z => by
      subst z
      obtain ⟨o, vs, q1, _⟩ := q
      rw [hD] at q1; cases q1
    refine ⟨?_, fun h => h.elim n hne⟩
    obtain ⟨o, vs, q1, ho, q2⟩ := q
    exact ⟨o, vs, upd_keep hD a _ q1, ho, RdL.monoB e m.len (fun b h => h.elim .inl fun z => .inr (by rw [z]; exact hD)) q2⟩
  · rcases h with h | h
    · obtain ⟨u, q1, q2⟩ := m.bt a h
      exact ⟨u, upd_keep hD a u q1, q2⟩
    · exact ⟨o, by rw [h, upd_same], nt⟩
mutual
theorem RdV.made {L : Addr → Prop} {p : Addr} {o : HO} {ws : List V} (hL : L p) (hD : H p = some (.lst ws)) : ∀ {d : D} {v : V}, RdV K H L φ d v → RdV K (upd H p o) L φ d v
  | .non, _, h => h
  | .bl _, _, h => h
  | .int _, _, h => h
  | .str _, _, h => h
  | .tup ds, v, h => by
    simp only [RdV] at h ⊢
    obtain ⟨a, vs, e1, h1, h2⟩ := h
    refine ⟨a, vs, e1, ?_, RdL.made hL hD h2⟩
    rcases h1 with (h1 | ⟨u, h1⟩) | h1
    · exact .inl (.inl (by rw [upd_ne (fun z => by rw [z, hD] at h1; cases h1)]; exact h1))
    · exact .inl (.inr ⟨u, by rw [upd_ne (fun z => by rw [z, hD] at h1; cases h1)]; exact h1⟩)
    · exact .inr h1
  | .lst ds, v, h => by
    simp only [RdV] at h ⊢
    obtain ⟨a, vs, e1, h1, h2, h3⟩ := h
    exact ⟨a, vs, e1, by rw [upd_ne (fun z => h2 (by rw [z]; exact hL))]; exact h1, h2, RdL.made hL hD h3⟩
  | .fls ds, v, h => by
    simp only [RdV] at h ⊢
    obtain ⟨a, vs, e1, h1, h3⟩ := h
    refine ⟨a, vs, e1, ?_, RdL.made hL hD h3⟩
    rcases h1 with ⟨h1, h2⟩ | ⟨u, h1⟩ | h1
    · exact .inl ⟨by rw [upd_ne (fun z => h2 (by rw [z]; exact hL))]; exact h1, h2⟩
    · exact .inr (.inl ⟨u, by rw [upd_ne (fun z => by rw [z, hD] at h1; cases h1)]; exact h1⟩)
    · exact .inr (.inr h1)
  | .glo _, _, h => h
  | .exc, _, h => h
  | .cel n, v, h => by simp only [RdV] at h ⊢; exact h
theorem RdL.made {L : Addr → Prop} {p : Addr} {o : HO} {ws : List V} (hL : L p) (hD : H p = some (.lst ws)) : ∀ {ds : List D} {vs : List V}, RdL K H L φ ds vs → RdL K (upd H p o) L φ ds vs
  | [], _, h => h
  | d :: ds, vs, h => by
    simp only [RdL] at h ⊢
    obtain ⟨w, ws', e1, h1, h2⟩ := h
    exact ⟨w, ws', e1, RdV.made hL hD h1, RdL.made hL hD h2⟩
end
/-- the thing that is being made is changed -/
theorem MemOk.made (m : MemOk K H φ μ B) {D : Addr} {o : HO} (nt : NT o) {ws : List V} (hB : B D) (hD : H D = some (.lst ws)) : MemOk K (upd H D o) φ μ B := by
  refine ⟨m.len, m.inj, fun i c a h1 h2 => ?_, fun a h => ?_, tabs_upd hD m.tabs⟩
  · obtain ⟨q, n⟩ := m.cell i c a h1 h2
    refine ⟨?_, n⟩
    have hne : a ≠ D := fun z => n (z ▸ hB)
    obtain ⟨u, vs, q1, ho, q2⟩ := q
    exact ⟨u, vs, by rw [upd_ne hne]; exact q1, ho, RdL.made (.inl hB) hD q2⟩
  · by_cases z : a = D
    · exact ⟨o, by rw [z, upd_same], nt⟩
    · obtain ⟨u, q1, q2⟩ := m.bt a h
      exact ⟨u, by rw [upd_ne z]; exact q1, q2⟩
theorem Abs.more (a : Abs K H σ φ ρ μ B) {D : Addr} (hD : H D = none) {o : HO} (nt : NT o) : Abs K (upd H D o) σ φ ρ μ (fun a => B a ∨ a = D) :=
  ⟨a.mem.more hD nt, a.len, fun i d h => by
    obtain ⟨v, h1, h2⟩ := a.env i d h
    exact ⟨v, h1, RdV.monoB (.grow (upd_keep hD)) a.mem.len (fun b h => h.elim .inl fun z => .inr (by rw [z]; exact hD)) h2⟩⟩
theorem Abs.grow {H' : Hp} (a : Abs K H σ φ ρ μ B) (h : ∀ a o, H a = some o → H' a = some o) : Abs K H' σ φ ρ μ B := a.ext (.grow h) (a.mem.grow h)
end
/-! ### a comprehension -/
/-- a turn's test and element -/
def turnD (g : G) (cnd elt : C) (ρ : DEnv) (μ : Mem) : R (Option D) := match cnd with
  | .nop => (evE g elt ρ μ).bind fun y μ3 => .ok (some y) μ3
  | cnd => (evE g cnd ρ μ).bind fun t μ1 => (tru t μ1).bind fun b μ2 => if b then (evE g elt ρ μ2).bind fun y μ3 => .ok (some y) μ3 else .ok none μ2
def turnT (g : G) (tg : T) (cnd elt : C) (ρw : DEnv) (d : D) (μ : Mem) : R (Option D) := match asg tg d ρw with
  | some ρ' => turnD g cnd elt ρ' μ
  | none => .no
theorem evE_cmpn (g : G) (own : List (Str × Nat)) (tg : T) (it cnd elt : C) (ρ : DEnv) (μ : Mem) : evE g (.cmpn own tg it cnd elt) ρ μ = (evE g it ρ μ).bind fun x μ1 => match x with
    | .tup items => (compL (turnT g tg cnd elt (wipeD ρ (own.map (·.2)))) items [] μ1).bind fun ys μ2 => .ok (.lst ys) μ2
    | _ => .no := by
  simp only [evE]
  rfl
def noW : XK := fun _ _ _ => False
section
variable {K : PySem.W.Frag} {W : XK} {B : Addr → Prop} {H : Hp} {φ : List Addr} {μ : Mem} {σ : L2.St} {ρ : DEnv} {g : G}
/-- the tests' reading -/
def ttOf (K : PySem.W.Frag) (g : G) (cnd : C) : TT := match cnd with
  | .nop => tYes
  | c => tT K noW g c
/-- a turn goes on: its test, its element -/
theorem turn_out {B0 : Addr → Prop} {Ha : Hp} {φa : List Addr} {μa : Mem} {cnd elt : C} {f : Option D → Mem → R D} {Q : VK} (ab : Abs K H σ φ ρ μ B) (h : DenV K W B0 Ha φa μa ((turnD g cnd elt ρ μ).calm.bind f) Q)
    {Qb : Hp → Prop} {Qe : V → Hp → Prop}
    (h0 : ∀ H' φ' μ', Ext H φ μ H' φ' μ' → MemOk K H' φ' μ' B → DenV K W B0 Ha φa μa (f none μ') Q → Qb H')
    (h1 : ∀ v H' φ' μ' y, Ext H φ μ H' φ' μ' → MemOk K H' φ' μ' B → RdV K H' (Live φ' μ' B) φ' y v → DenV K W B0 Ha φa μa (f (some y) μ') Q → Qe v H') :
    ttOf K g cnd σ H fun b H3 => if b = true then tC K noW g elt σ H3 Qe else Qb H3 := by
  -- the element
  have el : ∀ (H2 : Hp) (φ2 : List Addr) (μ2 : Mem), Ext H φ μ H2 φ2 μ2 → MemOk K H2 φ2 μ2 B → DenV K W B0 Ha φa μa (((evE g elt ρ μ2).bind fun y μ3 => .ok (some y) μ3).calm.bind f) Q → tC K noW g elt σ H2 Qe := fun H2 φ2 μ2 e m z => by
    refine ⟨B, φ2, ρ, μ2, ab.ext e m, ?_⟩
    cases q : evE g elt ρ μ2 with
    | ok y μ3 =>
      rw [q] at z
      exact fun v H3 φ3 e3 m3 rd => h1 v H3 φ3 μ3 y (e.trans ab.mem.len e3) m3 rd z
    | er x m => rw [q] at z; exact False.elim z
    | no => rw [q] at z; exact False.elim z
  by_cases hn : cnd = .nop
  · subst hn
    exact el H φ μ .refl ab.mem h
  · have e1 : ttOf K g cnd = tT K noW g cnd := by cases cnd <;> first | rfl | exact absurd rfl hn
    have e2 : turnD g cnd elt ρ μ = (evT g cnd ρ μ).bind fun b μ2 => if b then (evE g elt ρ μ2).bind fun y μ3 => .ok (some y) μ3 else .ok none μ2 := by
      unfold evT
      rw [R.bind_assoc]
      cases cnd <;> first | rfl | exact absurd rfl hn
    rw [e1]
    rw [e2] at h
    refine ⟨B, φ, ρ, μ, ab, ?_⟩
    cases q : evT g cnd ρ μ with
    | ok b μ2 =>
      rw [q] at h
      intro H2 φ2 e m
      cases b with
      | true => exact el H2 φ2 μ2 e m h
      | false => exact h0 H2 φ2 μ2 e m h
    | er x m => rw [q] at h; exact False.elim h
    | no => rw [q] at h; exact False.elim h
theorem wipe_get {σ : L2.St} {i : Nat} : ∀ vs : List Nat, (L2.wipe σ vs)[i]? = if i ∈ vs ∧ i < σ.length then some none else σ[i]?
  | [] => by simp [L2.wipe]
  | v :: vs => by
    unfold L2.wipe
    rw [List.getElem?_set, wipe_get vs, L2.wipe_length]
    by_cases hi : v = i
    · subst hi
      by_cases hl : v < σ.length
      · simp [hl]
      · simp [hl, List.getElem?_eq_none (Nat.le_of_not_lt hl)]
    · simp [hi, List.mem_cons, Ne.symm hi]
theorem wipe_wipe {σ : L2.St} {vs : List Nat} : L2.wipe (L2.wipe σ vs) vs = L2.wipe σ vs := by
  refine List.ext_getElem? fun i => ?_
  rw [wipe_get, wipe_get, L2.wipe_length]
  split <;> rfl
theorem comp_fin {own : List (Str × Nat)} {tg : T} {it cnd elt : C} {fin : List D → Mem → R D} {Q : VK} (hs : ∀ i ∈ tg.slots, i ∈ own.map (·.2))
    (hw : ∃ B φ ρ μ, Abs K H σ φ ρ μ B ∧ DenV K W B H φ μ ((evE g it ρ μ).bind fun x μ1 => match x with | .tup items => (compL (turnT g tg cnd elt (wipeD ρ (own.map (·.2)))) items [] μ1).bind fin | _ => .no) Q)
    (hf : ∀ (B : Addr → Prop) (H1 H' : Hp) (φ1 φ' : List Addr) (μ1 μ' : Mem) (P : Addr) (acc : List D) (vs : List V), Ext H1 φ1 μ1 H' φ' μ' → φ1.length = μ1.length → H1 P = none → ¬ B P → MemOk K H' φ' μ' (fun a => B a ∨ a = P) → H' P = some (.lst vs) → RdL K H' (Live φ' μ' fun a => B a ∨ a = P) φ' acc vs →
      DenV K W B H1 φ1 μ1 (fin acc μ') Q → Q (.ref P) H') :
    tLc (tI K W g it) (gT K tg) (ttOf K g cnd) (tC K noW g elt) (own.map (·.2)) σ H Q := by
  obtain ⟨B, φ, ρ, μ, ab, h⟩ := hw
  refine ⟨B, φ, ρ, μ, ab, (DenV.bindI ab.mem.len h).imp fun J H1 ⟨φ1, μ1, items, e1, m1, iok, h1⟩ => fun D hD => ?_⟩
  have ab1 : Abs K H1 σ φ1 ρ μ1 B := ab.ext e1 m1
  have nBD : ¬ B D := fun z => (by obtain ⟨o, q, _⟩ := m1.bt D z; rw [hD] at q; cases q)
  refine lc_it iok (fun i H' => ∃ φ' μ' acc vs, Ext H1 φ1 μ1 H' φ' μ' ∧ MemOk K H' φ' μ' (fun a => B a ∨ a = D) ∧ H' D = some (.lst vs) ∧ RdL K H' (Live φ' μ' fun a => B a ∨ a = D) φ' acc vs ∧
      DenV K W B H1 φ1 μ1 ((compL (turnT g tg cnd elt (wipeD ρ (own.map (·.2)))) (items.drop i) acc μ').bind fin) Q) ?_ ?_ ?_ ?_
  · exact ⟨φ1, μ1, [], [], .grow (upd_keep hD), m1.more hD nt_lst, upd_same, .nil, by
      rw [List.drop_zero]; exact h1⟩
  · rintro i H' _ ⟨φ', μ', acc, vs, e, _⟩
    exact ⟨φ', μ', e.toU⟩
  · rintro i x H' H'' hi ⟨φ', μ', acc, vs, e, m, hDv, ra, hq⟩ ⟨gr, yd⟩
    have hd : items[i]? = some items[i] := List.getElem?_eq_getElem hi
    have hB : ∀ a, (B a ∨ a = D) → B a ∨ H1 a = none := fun a h => h.elim .inl fun z => .inr (by rw [z]; exact hD)
    have rx := yd (fun a => B a ∨ a = D) φ' μ' _ hB m.len e.toU hd
    rw [List.drop_eq_getElem_cons hi] at hq
    simp only [compL] at hq
    -- the names in the block
    have abW : Abs K H'' (L2.wipe σ (own.map (·.2))) φ' (wipeD ρ (own.map (·.2))) μ' (fun a => B a ∨ a = D) := by
      have a0 : Abs K H' σ φ' ρ μ' (fun a => B a ∨ a = D) := ⟨m, ab1.len, fun j d hj => by
        obtain ⟨v, q1, q2⟩ := ab1.env j d hj
        exact ⟨v, q1, RdV.monoB e m1.len hB q2⟩⟩
      exact (a0.grow gr).wiped _
    cases qa : asg tg items[i] (wipeD ρ (own.map (·.2))) with
    | none =>
      have z : turnT g tg cnd elt (wipeD ρ (own.map (·.2))) items[i] μ' = .no := by unfold turnT; rw [qa]
      rw [z] at hq
      exact False.elim hq
    | some ρ' =>
      have z : turnT g tg cnd elt (wipeD ρ (own.map (·.2))) items[i] μ' = turnD g cnd elt ρ' μ' := by unfold turnT; rw [qa]
      rw [z, R.bind_assoc] at hq
      refine ⟨_, φ', _, μ', _, ρ', abW, rx, qa, fun σ2 ab2 w2 => ⟨(w2 _ hs).trans wipe_wipe, ?_⟩⟩
      have eg : Ext H' φ' μ' H'' φ' μ' := .grow gr
      have hD'' : H'' D = some (.lst vs) := gr D _ hDv
      have nAt : ∀ {H2 : Hp} {φ2 : List Addr} {μ2 : Mem}, MemOk K H2 φ2 μ2 (fun a => B a ∨ a = D) → ¬ At φ2 μ2 D := fun m2 ⟨j, c, q1, q2⟩ => (m2.cell j c D q1 q2).2 (.inr rfl)
      refine turn_out (B0 := B) ab2 hq (fun H3 φ3 μ3 e3 m3 z3 => ?_) fun y H3 φ3 μ3 d3 e3 m3 r3 z3 => ?_
      · have e' : Ext H' φ' μ' H3 φ3 μ3 := eg.trans m.len e3
        exact ⟨φ3, μ3, acc, vs, e.trans m1.len e', m3, e3.keep D _ hD'' nt_lst (nAt ab2.mem), RdL.mono e' m.len ra, z3⟩
      · have e' : Ext H' φ' μ' H3 φ3 μ3 := eg.trans m.len e3
        have hD3 : H3 D = some (.lst vs) := e3.keep D _ hD'' nt_lst (nAt ab2.mem)
        dsimp only at z3
        split at z3
        · rename_i hlt
          have hlt : acc.length < 16777216 := of_decide_eq_true hlt
          have eu : Ext H1 φ1 μ1 (upd H3 D (.lst (vs ++ [y]))) φ3 μ3 := by
            have f := e.trans m1.len e'
            refine ⟨f.pre, f.dead, f.fresh, fun a o h nt n => ?_, fun a o h nt => ?_, fun a xs h => ?_, fun a o u h => ?_⟩
            · rw [upd_ne (ne_of_none h hD)]; exact f.keep a o h nt n
            · rw [upd_ne (ne_of_none h hD)]; exact f.there a o h nt
            · rw [upd_ne (ne_of_none h hD)]; exact f.tup a xs h
            · rw [upd_ne (ne_of_none h hD)]; exact f.frz a o u h
          refine ⟨vs, hD3, by rw [sizeLine_eq, ← ra.length]; exact hlt, φ3, μ3, acc ++ [d3], vs ++ [y], eu, m3.made nt_lst (.inr rfl) hD3, upd_same, ?_, ?_⟩
          · exact (RdL.made (.inl (.inr rfl)) hD3 (RdL.mono e' m.len ra)).append (.cons (RdV.made (.inl (.inr rfl)) hD3 r3) .nil)
          · exact z3
        · exact False.elim z3
  · rintro H' ⟨φ', μ', acc, vs, e, m, hDv, ra, hq⟩
    rw [List.drop_length] at hq
    exact hf B H1 H' φ1 φ' μ1 μ' D acc vs e m1.len hD nBD m hDv ra hq
theorem comp_den {own : List (Str × Nat)} {tg : T} {it cnd elt : C} {Q : VK} (hs : ∀ i ∈ tg.slots, i ∈ own.map (·.2)) (hw : tC K W g (.cmpn own tg it cnd elt) σ H Q) :
    tLc (tI K W g it) (gT K tg) (ttOf K g cnd) (tC K noW g elt) (own.map (·.2)) σ H Q := by
  obtain ⟨B, φ, ρ, μ, ab, h⟩ := hw
  rw [evE_cmpn] at h
  refine comp_fin hs ⟨B, φ, ρ, μ, ab, h⟩ fun B H1 H' φ1 φ' μ1 μ' D acc vs e _ hD nBD m hDv ra hq => ?_
  have m' : MemOk K H' φ' μ' B := m.less fun a h => .inl h
  refine hq (.ref D) H' φ' e m' ?_
  simp only [RdV]
  refine ⟨D, vs, rfl, hDv, fun l => ?_, RdL.monoB .refl m.len (fun a h => .inl (.inl h)) ra⟩
  rcases l with l | ⟨j, c, q1, q2⟩
  · exact nBD l
  · exact (m.cell j c D q1 q2).2 (.inr rfl)
/-! data read where fewer things may change -/
mutual
theorem RdV.sub {H : Hp} {L L' : Addr → Prop} {φ φ' : List Addr} (hp : ∀ (n : Nat) a, φ[n]? = some a → φ'[n]? = some a) (hL : ∀ a, L' a → L a) : ∀ {d : D} {v : V}, RdV K H L φ d v → RdV K H L' φ' d v
  | .non, v, h => by simpa only [RdV] using h
  | .bl b, v, h => by simpa only [RdV] using h
  | .int b, v, h => by simpa only [RdV] using h
  | .str b, v, h => by simpa only [RdV] using h
  | .glo b, v, h => by simpa only [RdV] using h
  | .exc, v, h => by simpa only [RdV] using h
  | .cel n, v, h => by
    simp only [RdV] at h ⊢
    obtain ⟨a, h1, h2⟩ := h
    exact ⟨a, hp n a h1, h2⟩
  | .tup ds, v, h => by
    simp only [RdV] at h ⊢
    obtain ⟨a, vs, h1, h2, h3⟩ := h
    exact ⟨a, vs, h1, h2, RdL.sub hp hL h3⟩
  | .lst ds, v, h => by
    simp only [RdV] at h ⊢
    obtain ⟨a, vs, h1, h2, h3, h4⟩ := h
    exact ⟨a, vs, h1, h2, fun z => h3 (hL a z), RdL.sub hp hL h4⟩
  | .fls ds, v, h => by
    simp only [RdV] at h ⊢
    obtain ⟨a, vs, h1, h2, h3⟩ := h
    refine ⟨a, vs, h1, ?_, RdL.sub hp hL h3⟩
    rcases h2 with ⟨h2, h4⟩ | h2
    · exact .inl ⟨h2, fun z => h4 (hL a z)⟩
    · exact .inr h2
theorem RdL.sub {H : Hp} {L L' : Addr → Prop} {φ φ' : List Addr} (hp : ∀ (n : Nat) a, φ[n]? = some a → φ'[n]? = some a) (hL : ∀ a, L' a → L a) : ∀ {ds : List D} {vs : List V}, RdL K H L φ ds vs → RdL K H L' φ' ds vs
  | [], vs, h => by simpa only [RdL] using h
  | d :: ds, vs, h => by
    simp only [RdL] at h ⊢
    obtain ⟨w, ws, h1, h2, h3⟩ := h
    exact ⟨w, ws, h1, RdV.sub hp hL h2, RdL.sub hp hL h3⟩
end
/-- a list that was being made may be changed from now on -/
theorem adopt {H1 H : Hp} {φ1 φ : List Addr} {μ1 μ : Mem} {B : Addr → Prop} {P : Addr} {acc : List D} {vs : List V} (e : Ext H1 φ1 μ1 H φ μ) (hD1 : H1 P = none) (nB : ¬ B P) (m : MemOk K H φ μ (fun a => B a ∨ a = P)) (hD : H P = some (.lst vs))
    (ra : RdL K H (Live φ μ fun a => B a ∨ a = P) φ acc vs) : Ext H1 φ1 μ1 H (φ ++ [P]) (μ ++ [some (.lst acc)]) ∧ MemOk K H (φ ++ [P]) (μ ++ [some (.lst acc)]) B := by
  have ml := m.len
  have hp : ∀ (n : Nat) a, φ[n]? = some a → (φ ++ [P])[n]? = some a := fun n a h => by
    rw [List.getElem?_append_left (List.getElem?_eq_some_iff.mp h).1]
    exact h
  have old : ∀ {i : Nat} {c : Cell} {a : Addr}, (μ ++ [some (.lst acc)])[i]? = some (some c) → (φ ++ [P])[i]? = some a → (μ[i]? = some (some c) ∧ φ[i]? = some a) ∨ (i = φ.length ∧ c = .lst acc ∧ a = P) := fun {i c a} h1 h2 => by
    by_cases hi : i < μ.length
    · rw [List.getElem?_append_left hi] at h1
      rw [List.getElem?_append_left (by omega)] at h2
      exact .inl ⟨h1, h2⟩
    · have hi2 : i = μ.length := by
        have := (List.getElem?_eq_some_iff.mp h1).1
        rw [List.length_append] at this
        simp only [List.length_cons, List.length_nil] at this
        omega
      subst hi2
      rw [List.getElem?_append_right (Nat.le_refl _), Nat.sub_self] at h1
      rw [← ml, List.getElem?_append_right (Nat.le_refl _), Nat.sub_self] at h2
      simp only [List.getElem?_cons_zero, Option.some.injEq] at h1 h2
      exact .inr ⟨ml.symm, h1.symm, h2.symm⟩
  have hL : ∀ a, Live (φ ++ [P]) (μ ++ [some (.lst acc)]) B a → Live φ μ (fun a => B a ∨ a = P) a := fun a l => by
    rcases l with l | ⟨i, c, h1, h2⟩
    · exact .inl (.inl l)
    · rcases old h1 h2 with ⟨h3, h4⟩ | ⟨_, _, h3⟩
      · exact .inr ⟨i, c, h3, h4⟩
      · exact .inl (.inr h3)
  have nAt : ∀ {i : Nat} {c : Cell}, μ[i]? = some (some c) → φ[i]? = some P → False := fun {i c} h1 h2 => (m.cell i c P h1 h2).2 (.inr rfl)
  refine ⟨?_, ?_⟩
  · obtain ⟨l, hl⟩ := e.pre
    refine ⟨⟨l ++ [P], by rw [hl, List.append_assoc]⟩, fun i hi h => ?_, fun i a o hi h ho => ?_, e.keep, e.there, e.tup, e.frz⟩
    · have h5 := e.dead i hi h
      rw [List.getElem?_append_left (List.getElem?_eq_some_iff.mp h5).1]
      exact h5
    · by_cases h6 : i < φ.length
      · rw [List.getElem?_append_left h6] at h
        exact e.fresh i a o hi h ho
      · have h7 := (List.getElem?_eq_some_iff.mp h).1
        rw [List.length_append] at h7
        simp only [List.length_cons, List.length_nil] at h7
        have : i = φ.length := by omega
        subst this
        rw [List.getElem?_append_right (Nat.le_refl _), Nat.sub_self] at h
        simp only [List.getElem?_cons_zero, Option.some.injEq] at h
        subst h
        rw [hD1] at ho
        cases ho
  · refine ⟨by simp [ml], fun i j a c c' h1 h2 h3 h4 => ?_, fun i c a h1 h2 => ?_, fun a h => m.bt a (.inl h), m.tabs⟩
    · rcases old h1 h3 with ⟨g1, g2⟩ | ⟨g1, g2, g3⟩
      · rcases old h2 h4 with ⟨k1, k2⟩ | ⟨k1, k2, k3⟩
        · exact m.inj i j a c c' g1 k1 g2 k2
        · subst k3; exact (nAt g1 g2).elim
      · rcases old h2 h4 with ⟨k1, k2⟩ | ⟨k1, k2, k3⟩
        · subst g3; exact (nAt k1 k2).elim
        · rw [g1, k1]
    · rcases old h1 h2 with ⟨g1, g2⟩ | ⟨g1, g2, g3⟩
      · obtain ⟨⟨o, ws, q1, q2, q3⟩, q4⟩ := m.cell i c a g1 g2
        exact ⟨⟨o, ws, q1, q2, RdL.sub hp hL q3⟩, fun z => q4 (.inl z)⟩
      · subst g2 g3
        exact ⟨⟨_, vs, hD, rfl, RdL.sub hp hL ra⟩, nB⟩
theorem evE_cmpc (g : G) (own : List (Str × Nat)) (tg : T) (it cnd elt : C) (ρ : DEnv) (μ : Mem) : evE g (.cmpc own tg it cnd elt) ρ μ = (evE g it ρ μ).bind fun x μ1 => match x with
    | .tup items => (compL (turnT g tg cnd elt (wipeD ρ (own.map (·.2)))) items [] μ1).bind fun ys μ2 => celR (.ok (.lst ys) μ2)
    | _ => .no := by
  simp only [evE]
  rfl
theorem compc_den {own : List (Str × Nat)} {tg : T} {it cnd elt : C} {Q : VK} (hs : ∀ i ∈ tg.slots, i ∈ own.map (·.2)) (hw : tC K W g (.cmpc own tg it cnd elt) σ H Q) :
    tLc (tI K W g it) (gT K tg) (ttOf K g cnd) (tC K noW g elt) (own.map (·.2)) σ H Q := by
  obtain ⟨B, φ, ρ, μ, ab, h⟩ := hw
  rw [evE_cmpc] at h
  refine comp_fin hs ⟨B, φ, ρ, μ, ab, h⟩ fun B H1 H' φ1 φ' μ1 μ' D acc vs e hl hD nBD m hDv ra hq => ?_
  obtain ⟨e3, m3⟩ := adopt e hD nBD m hDv ra
  refine hq _ _ _ e3 m3 ?_
  simp only [RdV]
  exact ⟨D, by rw [← m.len, List.getElem?_append_right (Nat.le_refl _), Nat.sub_self]; rfl, rfl⟩
/-! ### two sources -/
def okD (g : G) (cnd : C) (ρ : DEnv) (μ : Mem) : R Bool := match cnd with
  | .nop => R.ok true μ
  | cnd => (evE g cnd ρ μ).bind fun t μ1 => tru t μ1
def turn2 (g : G) (tg : T) (cnd : C) (tg1 : T) (it1 cnd1 elt : C) (ρw : DEnv) (d : D) (acc : List D) (μ : Mem) : R (List D) := match asg tg d ρw with
  | some ρ' => (okD g cnd ρ' μ).calm.bind fun b μ2 => if b then (evE g it1 ρ' μ2).calm.bind fun y μ3 => (match y with
    | .tup items1 => compL (turnT g tg1 cnd1 elt (wipeD ρ' tg1.slots)) items1 acc μ3
    | _ => .no) else .ok acc μ2
  | none => .no
theorem evE_cmp2 (g : G) (own : List (Str × Nat)) (tg : T) (it cnd : C) (tg1 : T) (it1 cnd1 elt : C) (ρ : DEnv) (μ : Mem) : evE g (.cmp2 own tg it cnd tg1 it1 cnd1 elt) ρ μ = (evE g it ρ μ).bind fun x μ1 => match x with
    | .tup items => (compM (turn2 g tg cnd tg1 it1 cnd1 elt (wipeD ρ (own.map (·.2)))) items [] μ1).bind fun ys μ2 => .ok (.lst ys) μ2
    | _ => .no := by
  simp only [evE]
  rfl
/-- the tests alone -/
theorem ok_out {B0 : Addr → Prop} {Ha : Hp} {φa : List Addr} {μa : Mem} {cnd : C} {f : Bool → Mem → R D} {Q : VK} (ab : Abs K H σ φ ρ μ B) (h : DenV K W B0 Ha φa μa ((okD g cnd ρ μ).calm.bind f) Q)
    {P : Bool → Hp → Prop} (h0 : ∀ b H' φ' μ', Ext H φ μ H' φ' μ' → MemOk K H' φ' μ' B → DenV K W B0 Ha φa μa (f b μ') Q → P b H') : ttOf K g cnd σ H P := by
  by_cases hn : cnd = .nop
  · subst hn
    exact h0 true H φ μ .refl ab.mem h
  · have e1 : ttOf K g cnd = tT K noW g cnd := by cases cnd <;> first | rfl | exact absurd rfl hn
    have e2 : okD g cnd ρ μ = evT g cnd ρ μ := by cases cnd <;> first | rfl | exact absurd rfl hn
    rw [e1]
    rw [e2] at h
    refine ⟨B, φ, ρ, μ, ab, ?_⟩
    cases q : evT g cnd ρ μ with
    | ok b μ2 =>
      rw [q] at h
      exact fun H2 φ2 e m => h0 b H2 φ2 μ2 e m h
    | er x m => rw [q] at h; exact False.elim h
    | no => rw [q] at h; exact False.elim h
/-- a walk's turns, from any heap -/
theorem walk_turns {J : It} {n : Nat} {G : Hp → Prop} {Y : Nat → Hp → V → Hp → Prop} (w : Walk J n G Y) {H0 : Hp} {Fin : Hp → Prop} {step : V → Hp → (Hp → Prop) → Prop} (Pv : Nat → Hp → Prop) (b0 : Pv 0 H0) (bG : ∀ i H, Pv i H → G H)
    (bs : ∀ i x H H', i < n → Pv i H → Y i H x H' → step x H' (Pv (i + 1))) (bd : ∀ H, Pv n H → Fin H) :
    ∃ W1 : Nat → Nat → Hp → Prop, (∃ m, W1 0 m H0) ∧ ∀ j k H, W1 j k H → (J.stop j H ∧ Fin H) ∨ (J.go j H ∧ ∃ Nx1 : Hp → Prop, (∀ H', Nx1 H' → ∃ k', k' < k ∧ W1 (j + 1) k' H') ∧ ∀ x H', J.yld j H x H' → step x H' Nx1) := by
  refine ⟨fun j k H => k + j = n ∧ Pv j H, ⟨n, rfl, b0⟩, fun j k H ⟨hk, p⟩ => ?_⟩
  cases k with
  | zero =>
    have ej : j = n := by omega
    subst ej
    exact Or.inl ⟨w.stops H (bG _ H p), bd H p⟩
  | succ k =>
    have hj : j < n := by omega
    exact Or.inr ⟨w.goes j H hj (bG _ H p), Pv (j + 1), fun H' p' => ⟨k, Nat.lt_succ_self k, by omega, p'⟩, fun x H' y => bs j x H H' hj p (w.yields j H x H' hj (bG _ H p) y)⟩
/-- the inner source's turns; D: the list that is being made -/
theorem comp_in {BD : Addr → Prop} {p : Addr} (hp : BD p) {tg1 : T} {cnd1 elt : C} {k : List D → Mem → R D} {H1 : Hp} {φ1 : List Addr} {μ1 : Mem} (hD : H1 p = none) (hl1 : φ1.length = μ1.length)
    {σ2 : L2.St} {ρ2 : DEnv} {H4 : Hp} {φ4 : List Addr} {μ4 : Mem} {items acc : List D} {vs : List V} {J : It} {Q : VK} (ab : Abs K H4 σ2 φ4 ρ2 μ4 BD) (iok : ItOk K H4 φ4 μ4 BD J items) (e4 : Ext H1 φ1 μ1 H4 φ4 μ4)
    (hDv : H4 p = some (.lst vs)) (ra : RdL K H4 (Live φ4 μ4 BD) φ4 acc vs) (hq : DenV K W B H1 φ1 μ1 ((compL (turnT g tg1 cnd1 elt (wipeD ρ2 tg1.slots)) items acc μ4).bind k) Q)
    {Nx : Hp → Prop} (hN : ∀ H' φ' μ' acc vs, Ext H1 φ1 μ1 H' φ' μ' → MemOk K H' φ' μ' BD → H' p = some (.lst vs) → RdL K H' (Live φ' μ' BD) φ' acc vs → DenV K W B H1 φ1 μ1 (k acc μ') Q → Nx H') :
    ∃ W1 : Nat → Nat → Hp → Prop, (∃ m, W1 0 m H4) ∧ ∀ j k H, W1 j k H → (J.stop j H ∧ Nx H) ∨ (J.go j H ∧ ∃ Nx1 : Hp → Prop, (∀ H', Nx1 H' → ∃ k', k' < k ∧ W1 (j + 1) k' H') ∧ ∀ x H', J.yld j H x H' →
      gT K tg1 x (L2.wipe σ2 tg1.slots) H' fun σ3 H5 => L2.wipe σ3 tg1.slots = L2.wipe σ2 tg1.slots ∧ ttOf K g cnd1 σ3 H5 fun b H6 =>
        if b = true then tC K noW g elt σ3 H6 fun y H7 => ∃ acc, H7 p = some (.lst acc) ∧ acc.length < sizeLine ∧ Nx1 (upd H7 p (.lst (acc ++ [y]))) else Nx1 H6) := by
  refine walk_turns iok (fun j H' => ∃ φ' μ' acc vs, Ext H1 φ1 μ1 H' φ' μ' ∧ ExtU BD H4 φ4 μ4 H' φ' μ' ∧ MemOk K H' φ' μ' BD ∧ H' p = some (.lst vs) ∧ RdL K H' (Live φ' μ' BD) φ' acc vs ∧
    DenV K W B H1 φ1 μ1 ((compL (turnT g tg1 cnd1 elt (wipeD ρ2 tg1.slots)) (items.drop j) acc μ').bind k) Q) ?_ ?_ ?_ ?_
  · exact ⟨φ4, μ4, acc, vs, e4, Ext.toU .refl, ab.mem, hDv, ra, hq⟩
  · rintro i H' ⟨φ', μ', _, _, _, u, _⟩
    exact ⟨φ', μ', u⟩
  · rintro i x H' H'' hi ⟨φ', μ', acc, vs, e, u, m, hDw, ra, hq⟩ ⟨gr, yd⟩
    have hd : items[i]? = some items[i] := List.getElem?_eq_getElem hi
    have rx := yd BD φ' μ' _ (fun _ z => .inl z) m.len u hd
    rw [List.drop_eq_getElem_cons hi] at hq
    simp only [compL] at hq
    have abW : Abs K H'' (L2.wipe σ2 tg1.slots) φ' (wipeD ρ2 tg1.slots) μ' BD := by
      have a0 : Abs K H' σ2 φ' ρ2 μ' BD := ⟨m, ab.len, fun j d hj => by
        obtain ⟨v, q1, q2⟩ := ab.env j d hj
        exact ⟨v, q1, RdV.monoU u (fun _ z => z) ab.mem.len (fun _ z => .inl z) q2⟩⟩
      exact (a0.grow gr).wiped _
    cases qa : asg tg1 items[i] (wipeD ρ2 tg1.slots) with
    | none =>
      have z : turnT g tg1 cnd1 elt (wipeD ρ2 tg1.slots) items[i] μ' = .no := by unfold turnT; rw [qa]
      rw [z] at hq
      exact False.elim hq
    | some ρ' =>
      have z : turnT g tg1 cnd1 elt (wipeD ρ2 tg1.slots) items[i] μ' = turnD g cnd1 elt ρ' μ' := by unfold turnT; rw [qa]
      rw [z, R.bind_assoc] at hq
      refine ⟨_, φ', _, μ', _, ρ', abW, rx, qa, fun σ3 ab3 w3 => ⟨(w3 _ fun _ z => z).trans wipe_wipe, ?_⟩⟩
      have eg : Ext H' φ' μ' H'' φ' μ' := .grow gr
      have hD'' : H'' p = some (.lst vs) := gr p _ hDw
      have nAt : ¬ At φ' μ' p := fun ⟨j, c, q1, q2⟩ => (ab3.mem.cell j c p q1 q2).2 hp
      refine turn_out (B0 := B) ab3 hq (fun H3 φ3 μ3 e3 m3 z3 => ?_) fun y H3 φ3 μ3 d3 e3 m3 r3 z3 => ?_
      · have e' : Ext H' φ' μ' H3 φ3 μ3 := eg.trans m.len e3
        exact ⟨φ3, μ3, acc, vs, e.trans hl1 e', u.trans ab.mem.len e', m3, e3.keep p _ hD'' nt_lst nAt, RdL.mono e' m.len ra, z3⟩
      · have e' : Ext H' φ' μ' H3 φ3 μ3 := eg.trans m.len e3
        have hD3 : H3 p = some (.lst vs) := e3.keep p _ hD'' nt_lst nAt
        dsimp only at z3
        split at z3
        · rename_i hlt
          have hlt : acc.length < 16777216 := of_decide_eq_true hlt
          have eu : Ext H1 φ1 μ1 (upd H3 p (.lst (vs ++ [y]))) φ3 μ3 := by
            have f := e.trans hl1 e'
            refine ⟨f.pre, f.dead, f.fresh, fun a o h nt n => ?_, fun a o h nt => ?_, fun a xs h => ?_, fun a o u h => ?_⟩
            · rw [upd_ne (ne_of_none h hD)]; exact f.keep a o h nt n
            · rw [upd_ne (ne_of_none h hD)]; exact f.there a o h nt
            · rw [upd_ne (ne_of_none h hD)]; exact f.tup a xs h
            · rw [upd_ne (ne_of_none h hD)]; exact f.frz a o u h
          refine ⟨vs, hD3, by rw [sizeLine_eq, ← ra.length]; exact hlt, φ3, μ3, acc ++ [d3], vs ++ [y], eu, (u.trans ab.mem.len e').change hp (fun _ z => by rw [hDv] at z; cases z) (fun _ _ z => by rw [hDv] at z; cases z) nt_lst, m3.made nt_lst hp hD3, upd_same, ?_, ?_⟩
          · exact (RdL.made (.inl hp) hD3 (RdL.mono e' m.len ra)).append (.cons (RdV.made (.inl hp) hD3 r3) .nil)
          · exact z3
        · exact False.elim z3
  · rintro H' ⟨φ', μ', acc, vs, e, u, m, hDw, ra, hq⟩
    rw [List.drop_length] at hq
    exact hN H' φ' μ' acc vs e m hDw ra hq
theorem comp2_den {own : List (Str × Nat)} {tg tg1 : T} {it cnd it1 cnd1 elt : C} {Q : VK} (hs : ∀ i ∈ tg.slots, i ∈ own.map (·.2)) (hw : tC K W g (.cmp2 own tg it cnd tg1 it1 cnd1 elt) σ H Q) :
    tLc2 (tI K W g it) (gT K tg) (ttOf K g cnd) (tI K noW g it1) (gT K tg1) (ttOf K g cnd1) (tC K noW g elt) (own.map (·.2)) tg1.slots σ H Q := by
  obtain ⟨B, φ, ρ, μ, ab, h⟩ := hw
  rw [evE_cmp2] at h
  refine ⟨B, φ, ρ, μ, ab, (DenV.bindI ab.mem.len h).imp fun J H1 ⟨φ1, μ1, items, e1, m1, iok, h1⟩ => fun p hD => ?_⟩
  have ab1 : Abs K H1 σ φ1 ρ μ1 B := ab.ext e1 m1
  have nBD : ¬ B p := fun z => (by obtain ⟨o, q, _⟩ := m1.bt p z; rw [hD] at q; cases q)
  refine walk_turns iok (fun i H' => ∃ φ' μ' acc vs, Ext H1 φ1 μ1 H' φ' μ' ∧ MemOk K H' φ' μ' (fun a => B a ∨ a = p) ∧ H' p = some (.lst vs) ∧ RdL K H' (Live φ' μ' fun a => B a ∨ a = p) φ' acc vs ∧
      DenV K W B H1 φ1 μ1 ((compM (turn2 g tg cnd tg1 it1 cnd1 elt (wipeD ρ (own.map (·.2)))) (items.drop i) acc μ').bind fun ys μ2 => .ok (.lst ys) μ2) Q) ?_ ?_ ?_ ?_
  · exact ⟨φ1, μ1, [], [], .grow (upd_keep hD), m1.more hD nt_lst, upd_same, .nil, by
      rw [List.drop_zero]; exact h1⟩
  · rintro i H' ⟨φ', μ', acc, vs, e, _⟩
    exact ⟨φ', μ', e.toU⟩
  · rintro i x H' H'' hi ⟨φ', μ', acc, vs, e, m, hDv, ra, hq⟩ ⟨gr, yd⟩
    have hd : items[i]? = some items[i] := List.getElem?_eq_getElem hi
    have hB : ∀ a, (B a ∨ a = p) → B a ∨ H1 a = none := fun a h => h.elim .inl fun z => .inr (by rw [z]; exact hD)
    have rx := yd (fun a => B a ∨ a = p) φ' μ' _ hB m.len e.toU hd
    rw [List.drop_eq_getElem_cons hi] at hq
    simp only [compM] at hq
    have abW : Abs K H'' (L2.wipe σ (own.map (·.2))) φ' (wipeD ρ (own.map (·.2))) μ' (fun a => B a ∨ a = p) := by
      have a0 : Abs K H' σ φ' ρ μ' (fun a => B a ∨ a = p) := ⟨m, ab1.len, fun j d hj => by
        obtain ⟨v, q1, q2⟩ := ab1.env j d hj
        exact ⟨v, q1, RdV.monoB e m1.len hB q2⟩⟩
      exact (a0.grow gr).wiped _
    rw [R.bind_assoc] at hq
    cases qa : asg tg items[i] (wipeD ρ (own.map (·.2))) with
    | none =>
      unfold turn2 at hq
      rw [qa] at hq
      exact False.elim hq
    | some ρ' =>
      unfold turn2 at hq
      rw [qa] at hq
      dsimp only at hq
      rw [R.bind_assoc] at hq
      refine ⟨_, φ', _, μ', _, ρ', abW, rx, qa, fun σ2 ab2 w2 => ⟨(w2 _ hs).trans wipe_wipe, ?_⟩⟩
      have eg : Ext H' φ' μ' H'' φ' μ' := .grow gr
      have hD'' : H'' p = some (.lst vs) := gr p _ hDv
      have nAt : ¬ At φ' μ' p := fun ⟨j, c, q1, q2⟩ => (ab2.mem.cell j c p q1 q2).2 (.inr rfl)
      refine ok_out (B0 := B) ab2 hq fun b H3 φ3 μ3 e3 m3 z3 => ?_
      have e' : Ext H' φ' μ' H3 φ3 μ3 := eg.trans m.len e3
      have hD3 : H3 p = some (.lst vs) := e3.keep p _ hD'' nt_lst nAt
      cases b with
      | false => exact ⟨φ3, μ3, acc, vs, e.trans m1.len e', m3, hD3, RdL.mono e' m.len ra, z3⟩
      | true =>
        refine ⟨_, φ3, ρ', μ3, ab2.ext e3 m3, ?_⟩
        simp only [if_true] at z3
        rw [R.bind_assoc] at z3
        cases qi : evE g it1 ρ' μ3 with
        | ok y μ4 =>
          rw [qi] at z3
          cases y with
          | tup items1 =>
            refine fun J1 H4 φ4 e4 m4 iok1 => ?_
            have nAt3 : ¬ At φ3 μ3 p := fun ⟨j, c, q1, q2⟩ => (m3.cell j c p q1 q2).2 (.inr rfl)
            exact comp_in (B := B) (Q := Q) (.inr rfl) hD m1.len ((ab2.ext e3 m3).ext e4 m4) iok1 ((e.trans m1.len e').trans m1.len e4) (e4.keep p _ hD3 nt_lst nAt3) (RdL.mono e4 m3.len (RdL.mono e' m.len ra)) z3
              fun H5 φ5 μ5 acc5 vs5 e5 m5 q5 r5 z5 => ⟨φ5, μ5, acc5, vs5, e5, m5, q5, r5, z5⟩
          | _ => exact False.elim z3
        | er x m => rw [qi] at z3; exact False.elim z3
        | no => rw [qi] at z3; exact False.elim z3
  · rintro H' ⟨φ', μ', acc, vs, e, m, hDv, ra, hq⟩
    rw [List.drop_length] at hq
    have m' : MemOk K H' φ' μ' B := m.less fun a h => .inl h
    refine hq (.ref p) H' φ' e m' ?_
    simp only [RdV]
    refine ⟨p, vs, rfl, hDv, fun l => ?_, RdL.monoB .refl m.len (fun a h => .inl (.inl h)) ra⟩
    rcases l with l | ⟨j, c, q1, q2⟩
    · exact nBD l
    · exact (m.cell j c p q1 q2).2 (.inr rfl)
end
end Den

/-! Den10: expressions are sound: one induction over the code. -/
namespace Den
open PySem PySem.Spec PyProof.Rows L2
variable [Lams]

section
variable {K : PySem.W.Frag} {W : XK} {B : Addr → Prop} {H : Hp} {φ : List Addr} {μ : Mem} {σ : L2.St} {ρ : DEnv} {g : G}
theorem den1 {a : C} {f : D → Mem → R D} {Q : VK} (ab : Abs K H σ φ ρ μ B) (h : DenV K W B H φ μ ((evE g a ρ μ).bind f) Q) : tC K W g a σ H fun x H1 => rD1 K W f x H1 Q :=
  ⟨B, φ, ρ, μ, ab, (DenV.bindV ab.mem.len h).imp fun v H1 ⟨φ1, μ1, d, e1, m1, r1, h1⟩ => ⟨B, φ1, μ1, d, m1, r1, h1⟩⟩
theorem den2 {a b : C} {f : D → D → Mem → R D} {Q : VK} (ab : Abs K H σ φ ρ μ B) (h : DenV K W B H φ μ ((evE g a ρ μ).bind fun x μ1 => (evE g b ρ μ1).bind fun y μ2 => f x y μ2) Q) :
    tC K W g a σ H fun x H1 => tC K W g b σ H1 fun y H2 => rD2 K W f x y H2 Q :=
  ⟨B, φ, ρ, μ, ab, (DenV.bindV ab.mem.len h).imp fun v H1 ⟨φ1, μ1, d, e1, m1, r1, h1⟩ => ⟨B, φ1, ρ, μ1, ab.ext e1 m1, (DenV.bindV m1.len h1).imp fun y H2 ⟨φ2, μ2, d2, e2, m2, r2, h2⟩ => ⟨B, φ2, μ2, d, d2, m2, RdV.mono e2 m1.len r1, r2, h2⟩⟩⟩
theorem denL {a : C} {f : List D → Mem → R D} {Q : VK} (ab : Abs K H σ φ ρ μ B) (h : DenV K W B H φ μ ((evE g a ρ μ).bind fun x μ1 => match x with | .tup ds => f ds μ1 | _ => .no) Q) : tA K W g a σ H fun xs H1 => rDL K W f xs H1 Q :=
  ⟨B, φ, ρ, μ, ab, (DenV.bindL ab.mem.len h).imp fun vs H1 ⟨φ1, μ1, ds, e1, m1, r1, h1⟩ => ⟨B, φ1, μ1, ds, m1, r1, h1⟩⟩
/-- a truth value, then what is behind it -/
theorem den_tru {d : D} {v : V} {f : Bool → Mem → R D} {Q : VK} (m : MemOk K H φ μ B) (r : RdV K H (Live φ μ B) φ d v) (h : DenV K W B H φ μ ((tru d μ).bind f) Q) : ∃ k, TruV K v H k ∧ DenV K W B H φ μ (f k μ) Q := by
  obtain ⟨b, h1, h2⟩ := tru_V h
  exact ⟨b, tru_rd m r h1, h2⟩
theorem w_cmp {op : CmpOp} {a b : C} {Q : VK} (h : tC K W g (.cmp op a b) σ H Q) : tOp (rD2 K W (cmpV op)) (tC K W g a) (tC K W g b) σ H Q := by
  obtain ⟨B, φ, ρ, μ, ab, h⟩ := h
  exact den2 ab h
theorem DenV.ofB {r : R Bool} {f : Bool → Mem → R D} {Q : VK} {b : Bool} (m : MemOk K H φ μ B) (e : r = .ok b μ) (h : DenV K W B H φ μ (r.bind f) Q) : DenV K W B H φ μ (f b μ) Q := by
  subst e; exact h
theorem w_chn {op op' : CmpOp} {a b c : C} {Q : VK} (h : tC K W g (.chn op op' a b c) σ H Q) : tChain (rD2 K W (cmpV op)) (rD2 K W (cmpV op')) (tC K W g a) (tC K W g b) (tC K W g c) σ H Q := by
  obtain ⟨B, φ, ρ, μ, ab, h⟩ := h
  refine ⟨B, φ, ρ, μ, ab, (DenV.bindV ab.mem.len h).imp fun v H1 ⟨φ1, μ1, d, e1, m1, r1, h1⟩ => ⟨B, φ1, ρ, μ1, ab.ext e1 m1, (DenV.bindV m1.len h1).imp fun y H2 ⟨φ2, μ2, d2, e2, m2, r2, h2⟩ => ⟨B, φ2, μ2, d, d2, m2, RdV.mono e2 m1.len r1, r2, ?_⟩⟩⟩
  unfold cmpV
  cases q : cmpB op d d2 μ2 with
  | none => simp only [cmpD, q] at h2; exact False.elim h2
  | some t =>
    have e : cmpD op d d2 μ2 = .ok t μ2 := by unfold cmpD; rw [q]
    rw [e]
    rw [e] at h2
    intro w H3 φ3 e3 m3 r3
    have a3 := (ab.ext e1 m1).ext (e2.trans m1.len e3 : Ext H1 φ1 μ1 H3 φ3 μ2) m3
    refine ⟨t, rdV_bl r3, ?_⟩
    cases t with
    | false => exact DenV.here m3 (DenV.shift e3 m2.len h2) rd_bl
    | true =>
      exact ⟨B, φ3, ρ, μ2, a3, (DenV.bindV m3.len (DenV.shift e3 m2.len h2)).imp fun z H4 ⟨φ4, μ4, d4, e4, m4, r4, h4⟩ => ⟨B, φ4, μ4, d2, d4, m4, RdV.mono (e3.trans m2.len e4) m2.len r2, r4, h4⟩⟩
end
theorem po_any {X : Cx} {e : Expr} {te : TE} (h : PE X e te) : PO X (some e) (fun σ H Q => te σ H fun x H1 => (∃ i, x = .int i ∧ Q (some i) H1) ∨ (x = .non ∧ Q none H1)) := by
  refine ⟨fun pins s σ H Q I hw => ?_⟩
  rw [evalPart_some]
  refine thn (h.run pins s σ H _ I hw) fun u s1 ⟨x, H1, I1, r1, q1⟩ => ?_
  rcases q1 with ⟨i, ex, q⟩ | ⟨ex, q⟩
  · subst ex
    obtain ⟨tok, ey⟩ := r1
    subst ey
    exact ⟨some i, H1, I1, .int i tok, q⟩
  · subst ex
    cases (show u = Value.none from r1)
    exact ⟨none, H1, I1, .none, q⟩
/-- a list, a tuple or a text is walked -/
theorem pi_any {X : Cx} {tg l : Expr} {tl : TE} (hl : PE X l tl) : PI X tg l (fun σ H R => tl σ H fun x H1 => (∃ a, x = .ref a ∧ (∃ xs, SqL X.K H1 a xs) ∧ R (Itl X.K a) H1) ∨ (∃ a, x = .ref a ∧ (∃ xs, SqT X.K H1 a xs) ∧ R (Itt X.K a) H1) ∨ ∃ z, x = .str z ∧ R (Its z) H1) := by
  refine ⟨fun pins s σ H R I hw => thn (hl.run pins s σ H _ I hw) fun v s1 ⟨x, H1, I1, r1, q1⟩ => ?_⟩
  have new : ∀ {b : Addr}, b ∈ [s1.heap.objs.size] → FpOk X pins H1 b := fun {b} hb => by
    rw [List.mem_singleton] at hb
    rw [hb]
    exact I1.fpOk (Nat.le_refl _) (I1.hok.fresh (Nat.le_refl _))
  rcases q1 with ⟨a, ex, ⟨xs, hq⟩, q⟩ | ⟨a, ex, ⟨xs, hq⟩, q⟩ | ⟨z, ex, q⟩
  · subst ex
    cases r1
    obtain ⟨its, _, p, _⟩ := I1.list hq
    exact wpAny_pyIter_list p.isList ⟨_, [s1.heap.objs.size], _, _, H1, rfl, I1.kept (t' := s1.toks) (fun b o e => Heap.get?_push_of_some _ e), turn_list a _, ⟨_, Heap.get?_push_size _ rfl, rfl, rfl⟩, fun b hb => new hb, q⟩
  · subst ex
    cases r1
    obtain ⟨its, _, p, _⟩ := I1.tuple hq
    exact wpAny_pyIter_tuple (show s1.heap.IsTuple a its.toArray from p) ⟨_, [s1.heap.objs.size], _, _, H1, rfl, I1.kept (t' := s1.toks) (fun b o e => Heap.get?_push_of_some _ e), turn_tuple a _, ⟨_, Heap.get?_push_size _ rfl, rfl, rfl⟩, fun b hb => new hb, q⟩
  · subst ex
    obtain ⟨tok, ey⟩ := r1
    subst ey
    cases ha : z.cps.all (· < 128) with
    | false => exact wpAny_pyIter_wide ha (pi_one (tk := s1.toks) I1 _ (turn_str _ z tok "str_iterator" (.inr rfl)) ⟨_, Heap.get?_push_size _ rfl, rfl, rfl⟩ q)
    | true => exact wpAny_pyIter_ascii ha (pi_one (tk := s1.toks) I1 _ (turn_str _ z tok "str_ascii_iterator" (.inl rfl)) ⟨_, Heap.get?_push_size _ rfl, rfl, rfl⟩ q)
/-- a test a if t else b -/
theorem pt_ite {X : Cx} {c a b : Expr} {tA ta tb : TT} {pos : Pos} (hc : PT X c tA) (ha : PT X a ta) (hb : PT X b tb) : PT X (.IfExp c a b pos) (fun σ H Q => tA σ H fun k H1 => if k = true then ta σ H1 Q else tb σ H1 Q) :=
  ⟨fun pins s σ H Q I h => isTrue_IfExp (thn (hc.run pins s σ H _ I h) fun d s1 ⟨H1, I1, q1⟩ => by
    cases d with
    | true => exact ha.run pins s1 σ H1 Q I1 q1
    | false => exact hb.run pins s1 σ H1 Q I1 q1)⟩
/-- what is shown of code -/
structure Snd (Γ : Nm) (g : G) (k : Nat) (N : List Str) (c : C) : Prop where
  e : ∀ {sc : Scope} {e : Expr} {st : Str → Bool} {W : XK} {X : Cx}, mE Γ N sc c e = true → Cxd Γ g k N sc st W X → PE X e (tC X.K W g c)
  t : ∀ {sc : Scope} {e : Expr} {st : Str → Bool} {W : XK} {X : Cx}, mE Γ N sc c e = true → Cxd Γ g k N sc st W X → PT X e (tT X.K W g c)
  w : ∀ {sc : Scope} {op : BoolOp} {es : List Expr} {p : Pos} {st : Str → Bool} {W : XK} {X : Cx}, mE Γ N sc c (.BoolOp op es p) = true → Cxd Γ g k N sc st W X → PW X (.BoolOp op es p) (tT X.K W g c)
  a : ∀ {sc : Scope} {es : List Expr} {st : Str → Bool} {W : XK} {X : Cx}, mEs Γ N sc c es = true → Cxd Γ g k N sc st W X → PA X es (tA X.K W g c)
  i : ∀ {sc : Scope} {t e : Expr} {st : Str → Bool} {W : XK} {X : Cx}, mI Γ N sc c t e = true → Cxd Γ g k N sc st W X → PI X t e (tI X.K W g c)
section
variable {Γ : Nm} {g : G} {k : Nat} {N : List Str}
/-- a value that is tested as such -/
theorem pt_ofE {X : Cx} {e : Expr} {W : XK} {c : C} (p : plainTest e = true) (h : PE X e (tC X.K W g c)) : PT X e (tT X.K W g c) :=
  PT.weak (pt_truth h (plainTest_eq p X.env)) fun σ H Q ⟨B, φ, ρ, μ, ab, hw⟩ => ⟨B, φ, ρ, μ, ab, (DenB.bindV ab.mem.len hw).imp fun v H1 ⟨φ1, μ1, d, e1, m1, r1, h1⟩ => by
    obtain ⟨b, q1, q2⟩ := tru_B m1 h1
    exact ⟨b, tru_rd m1 r1 q1, q2⟩⟩
def isBoolOp : Expr → Bool
  | .BoolOp .. => true
  | _ => false
theorem Snd.ofE {c : C} (hp : ∀ {sc e}, mE Γ N sc c e = true → plainTest e = true) (ha : ∀ sc es, mEs Γ N sc c es = false) (hi : ∀ sc t e, mI Γ N sc c t e = false)
    (he : ∀ {sc : Scope} {e : Expr} {st : Str → Bool} {W : XK} {X : Cx}, mE Γ N sc c e = true → Cxd Γ g k N sc st W X → PE X e (tC X.K W g c)) : Snd Γ g k N c where
  e := he
  t := fun h cx => pt_ofE (hp h) (he h cx)
  w := fun h cx => by have := hp h; simp [plainTest] at this
  a := fun h => by rw [ha] at h; cases h
  i := fun h => by rw [hi] at h; cases h
theorem plain_of {e : Expr} (h : plainTest e = true) : isBoolOp e = false := by cases e <;> first | rfl | (simp [plainTest] at h)
theorem starE {es : List Expr} {e : Expr} {c a : C} {sc : Scope} (h : mEs Γ N sc c (e :: es) = true) (env : PySem.Env) : starEach (e :: es) env = (false, eval e env) :: starEach es env ∧ ∀ pos, (backTo pos (starEach es env)).any (·.1) = false := by
  have q := mEs_forms h
  rw [List.all_cons, Bool.and_eq_true] at q
  exact ⟨star_eq q.1 es env, fun pos => backTo_any q.2 pos env⟩
theorem vals_tup {K : PySem.W.Frag} {W : XK} {B : Addr → Prop} {H : Hp} {φ : List Addr} {μ : Mem} {ds : List D} {Q : VK} (m : MemOk K H φ μ B) {vs : List V} (rl : RdL K H (Live φ μ B) φ ds vs)
    (h : DenV K W B H φ μ (if fits ds.length then .ok (.tup ds) μ else .no) Q) : vs.length ≤ sizeLine ∧ ∀ p, H p = none → Q (.ref p) (upd H p (.tup vs)) := by
  split at h
  · rename_i hf
    exact ⟨by rw [← rl.length]; exact fits_iff.mp hf, fun p hp => DenV.new m h hp (rd_newT m hp rl)⟩
  · exact False.elim h
theorem vals_lst {K : PySem.W.Frag} {W : XK} {B : Addr → Prop} {H : Hp} {φ : List Addr} {μ : Mem} {ds : List D} {Q : VK} (m : MemOk K H φ μ B) {vs : List V} (rl : RdL K H (Live φ μ B) φ ds vs)
    (h : DenV K W B H φ μ (if fits ds.length then .ok (.lst ds) μ else .no) Q) : vs.length ≤ sizeLine ∧ ∀ p, H p = none → Q (.ref p) (upd H p (.lst vs)) := by
  split at h
  · rename_i hf
    exact ⟨by rw [← rl.length]; exact fits_iff.mp hf, fun p hp => DenV.new m h hp (rd_newL m hp rl)⟩
  · exact False.elim h
theorem vals_cel {K : PySem.W.Frag} {W : XK} {B : Addr → Prop} {H : Hp} {φ : List Addr} {μ : Mem} {ds : List D} {Q : VK} (m : MemOk K H φ μ B) {vs : List V} (rl : RdL K H (Live φ μ B) φ ds vs)
    (h : DenV K W B H φ μ (if fits ds.length then .ok (.cel μ.length) (μ ++ [some (.lst ds)]) else .no) Q) : vs.length ≤ sizeLine ∧ ∀ p, H p = none → Q (.ref p) (upd H p (.lst vs)) := by
  split at h
  · rename_i hf
    refine ⟨by rw [← rl.length]; exact fits_iff.mp hf, fun p hp => ?_⟩
    have at_ : ∀ {a : Addr}, At (φ ++ [p]) (μ ++ [some (.lst ds)]) a → At φ μ a ∨ a = p := fun {a} ⟨i, c, h1, h2⟩ => by
      by_cases hi : i < μ.length
      · rw [List.getElem?_append_left hi] at h1
        rw [List.getElem?_append_left (by rw [m.len]; exact hi)] at h2
        exact .inl ⟨i, c, h1, h2⟩
      · rw [List.getElem?_append_right (by rw [m.len]; omega)] at h2
        have : i - φ.length = 0 := by
          have := (List.getElem?_eq_some_iff.mp h2).1
          simp at this; omega
        rw [this] at h2
        cases h2
        exact .inr rfl
    have ml : φ.length = μ.length := m.len
    obtain ⟨e, m'⟩ := new_cell (c0 := .lst ds) m hp (o := .lst vs) rfl rl
    refine h (.ref p) _ _ e m' ?_
    simp only [RdV]
    exact ⟨p, by rw [← ml, List.getElem?_append_right (Nat.le_refl _), Nat.sub_self]; rfl, rfl⟩
  · exact False.elim h
end
end Den

/-! Den11: expressions are sound: the induction. -/
namespace Den
open PySem PySem.Spec PyProof.Rows L2
variable [Lams]

theorem rel_look {scope sc : Scope} {x : Str} (h : scope.names.lookup x = some .local) : (relS scope sc).names.lookup x = some .local := by
  unfold relS
  dsimp only
  generalize scope.names = l at h
  induction l with
  | nil => cases h
  | cons p l ih =>
    obtain ⟨n, kd⟩ := p
    rw [List.lookup_cons] at h
    rw [List.map_cons]
    dsimp only
    cases q : (x == n) with
    | true =>
      rw [q] at h
      cases h
      rw [show ((NameKind.local == NameKind.free) && (sc.kind == .function) && (sc.names.lookup n == some .cell)) = false from by rfl]
      simp [List.lookup_cons, q]
    | false =>
      rw [q] at h
      split <;> (rw [List.lookup_cons, q]; exact ih h)
section
variable {Γ : Nm} {g : G} {k : Nat} {N : List Str} {sc : Scope} {st : Str → Bool} {W : XK} {X : Cx}
theorem Cxd.blk (cx : Cxd Γ g k N sc st W X) (s : Shared) (H : Hp) (scope : Scope) (cl : List (Str × Addr)) (C : Addr) (fp : List Addr) (own : List (Str × Nat)) (hh : Γ.hot = true → HotI (X.blk s H scope (compEnvC scope cl C X.env) fp)) :
    Cxd Γ.inn g k N (relS scope sc) (stBlk scope own) noW (X.blk s H scope (compEnvC scope cl C X.env) fp) where
  nd := cx.nd
  nm := cx.nm
  scp := by rw [← cx.scp]; rfl
  calm := cx.calm
  sto := fun x h => by
    unfold stBlk at h
    split at h
    · rename_i q; exact .inr (rel_look q)
    · rename_i q; exact .inl (by show (scope.names.lookup x == some .cell) = true; rw [q]; rfl)
    · cases h
  hoti := hh
  room := cx.room
  un := cx.un
  isx := fun h => by cases h
  cls := cx.cls
  takes := fun u s' h => by
    obtain ⟨a, B, sI, pins, σ, H, cls, d, e, I, nb, up, sky, na, os, ag, w⟩ := h
    exact False.elim w
  own := PassesOwn.never
  glo := cx.glo
  con := cx.con
  free := cx.free
  bfn := cx.bfn
  exs := cx.exs
  low := cx.low
  hnd := cx.hnd
  lam := cx.lam
  fns := cx.fns
  flds := cx.flds
  mts := cx.mts
  mks := cx.mks
theorem cunits (cx : Cxd Γ g k N sc st W X) : X.A.units + 64 < cLine := cx.un
end
section
variable {Γ : Nm} {g : G} {k : Nat} {N : List Str}
theorem snd_var (i : Nat) : Snd Γ g k N (.var i) := by
  refine .ofE (fun h => ?_) (fun _ _ => rfl) (fun _ _ _ => rfl) fun {sc e st W X} h cx => ?_
  · simp only [mE] at h; split at h <;> first | rfl | cases h
  · simp only [mE] at h
    split at h
    · rename_i x p
      simp only [Bool.and_eq_true, decide_eq_true_eq] at h
      have q := nmOk_out h.2
      refine PE.weak (pe_var (by rw [cx.nm]; exact h.1.1) (visB_out (by rw [cx.scp]; exact h.1.2)) q.1 q.2.1) fun σ H Q ⟨B, φ, ρ, μ, ab, hw⟩ => ?_
      simp only [evE] at hw
      split at hw
      · rename_i d hd
        obtain ⟨v, h1, h2⟩ := ab.env i d hd
        exact ⟨v, h1, DenV.here ab.mem hw h2⟩
      · exact False.elim hw
    · cases h
theorem snd_const {c : C} {d : D} {v : V} (hc : ∀ ρ μ, evE g c ρ μ = .ok d μ) (hr : ∀ (K : PySem.W.Frag) H L φ, RdV K H L φ d v) (ha : ∀ sc es, mEs Γ N sc c es = false) (hi : ∀ sc t e, mI Γ N sc c t e = false)
    (hp : ∀ {sc e}, mE Γ N sc c e = true → plainTest e = true) (he : ∀ {sc e} {st : Str → Bool} {W : XK} {X : Cx}, mE Γ N sc c e = true → Cxd Γ g k N sc st W X → PE X e (L2.tC v)) : Snd Γ g k N c :=
  .ofE hp ha hi fun h cx => PE.weak (he h cx) fun σ H Q ⟨B, φ, ρ, μ, ab, hw⟩ => by
    rw [hc] at hw
    exact DenV.here ab.mem hw (hr _ _ _ _)
theorem snd_num (i : Int) : Snd Γ g k N (.num i) := by
  refine snd_const (d := .int i) (v := .int i) (fun _ _ => rfl) (fun _ _ _ _ => rd_int) (fun _ _ => rfl) (fun _ _ _ => rfl) (fun h => ?_) fun h cx => ?_
  · simp only [mE] at h; split at h <;> first | rfl | cases h
  · simp only [mE] at h; split at h
    · rw [of_decide_eq_true h]; exact pe_int
    · cases h
theorem snd_txt (i : Str) : Snd Γ g k N (.txt i) := by
  refine snd_const (d := .str i) (v := .str i) (fun _ _ => rfl) (fun _ _ _ _ => rd_str) (fun _ _ => rfl) (fun _ _ _ => rfl) (fun h => ?_) fun h cx => ?_
  · simp only [mE] at h; split at h <;> first | rfl | cases h
  · simp only [mE] at h; split at h
    · rw [of_decide_eq_true h]; exact pe_str
    · cases h
theorem snd_bl (i : Bool) : Snd Γ g k N (.bl i) := by
  refine snd_const (d := .bl i) (v := .bl i) (fun _ _ => rfl) (fun _ _ _ _ => rd_bl) (fun _ _ => rfl) (fun _ _ _ => rfl) (fun h => ?_) fun h cx => ?_
  · simp only [mE] at h; split at h <;> first | rfl | cases h
  · simp only [mE] at h; split at h
    · rw [of_decide_eq_true h]; exact pe_bl
    · cases h
theorem snd_non : Snd Γ g k N .non := by
  refine snd_const (d := .non) (v := .non) (fun _ _ => rfl) (fun _ _ _ _ => rd_non) (fun _ _ => rfl) (fun _ _ _ => rfl) (fun h => ?_) fun h cx => ?_
  · simp only [mE] at h; split at h <;> first | rfl | cases h
  · simp only [mE] at h; split at h
    · exact pe_non
    · cases h
theorem snd_glo (x : Str) : Snd Γ g k N (.glo x) := by
  refine .ofE (fun h => ?_) (fun _ _ => rfl) (fun _ _ _ => rfl) fun {sc e st W X} h cx => ?_
  · simp only [mE] at h; split at h <;> first | rfl | cases h
  · simp only [mE] at h
    split at h
    · rename_i y p
      simp only [Bool.and_eq_true, decide_eq_true_eq] at h
      have q := nmOk_out h.1.2
      have gl := (cx.glo y h.2).1
      refine PE.weak (pe_glob (v := .ref (He.ga X.K y)) (glB_out (by rw [cx.scp]; exact h.1.1.2)) gl rfl q.1) fun σ H Q ⟨B, φ, ρ, μ, ab, hw⟩ => ?_
      rw [h.1.1.1] at hw
      exact DenV.here ab.mem hw (by simp only [RdV])
    · cases h
theorem snd_con (x : Str) : Snd Γ g k N (.con x) := by
  refine .ofE (fun h => ?_) (fun _ _ => rfl) (fun _ _ _ => rfl) fun {sc e st W X} h cx => ?_
  · simp only [mE] at h; split at h <;> first | rfl | cases h
  · simp only [mE] at h
    split at h
    · rename_i y p
      simp only [Bool.and_eq_true, decide_eq_true_eq] at h
      have q := nmOk_out h.1.2
      cases hd : g.con y with
      | none =>
        refine ⟨fun pins s σ H Q I ⟨B, φ, ρ, μ, ab, hw⟩ => ?_⟩
        rw [h.1.1.1] at hw
        simp only [evE, hd] at hw
        exact False.elim hw
      | some d =>
        obtain ⟨v, u, h1, h2, h3⟩ := cx.con y d h.2 hd
        refine PE.weak (pe_glob (v := v) (glB_out (by rw [cx.scp]; exact h.1.1.2)) h1 h2 q.1) fun σ H Q ⟨B, φ, ρ, μ, ab, hw⟩ => ?_
        rw [h.1.1.1] at hw
        simp only [evE, hd] at hw
        exact DenV.here ab.mem hw (h3 _ _ _)
    · cases h
theorem snd_bin {op : Operator} {a b : C} (sa : Snd Γ g k N a) (sb : Snd Γ g k N b) : Snd Γ g k N (.bin op a b) := by
  refine .ofE (fun h => ?_) (fun _ _ => rfl) (fun _ _ _ => rfl) fun {sc e st W X} h cx => ?_
  · simp only [mE] at h; split at h <;> first | rfl | cases h
  · simp only [mE] at h
    split at h
    · simp only [Bool.and_eq_true, decide_eq_true_eq] at h
      rw [← h.1.1]
      exact PE.weak (pe_op (op_bin op) (sa.e h.1.2 cx) (sb.e h.2 cx)) fun σ H Q ⟨B, φ, ρ, μ, ab, hw⟩ => den2 ab hw
    · cases h
theorem snd_neg {a : C} (sa : Snd Γ g k N a) : Snd Γ g k N (.neg a) := by
  refine .ofE (fun h => ?_) (fun _ _ => rfl) (fun _ _ _ => rfl) fun {sc e st W X} h cx => ?_
  · simp only [mE] at h; split at h <;> first | rfl | cases h
  · simp only [mE] at h
    split at h
    · refine PE.weak (pe_un un_neg (sa.e h cx)) fun σ H Q ⟨B, φ, ρ, μ, ab, hw⟩ => ⟨B, φ, ρ, μ, ab, (DenV.bindV ab.mem.len hw).imp fun v H1 ⟨φ1, μ1, d, e1, m1, r1, h1⟩ => ?_⟩
      cases d with
      | int i => exact ⟨i, rdV_int r1, DenV.here m1 h1 rd_int⟩
      | _ => exact False.elim h1
    · cases h
theorem snd_not {a : C} (sa : Snd Γ g k N a) : Snd Γ g k N (.not a) where
  e := fun {sc e st W X} h cx => by
    simp only [mE] at h
    split at h
    · exact PE.weak (pe_notT (sa.e h cx)) fun σ H Q ⟨B, φ, ρ, μ, ab, hw⟩ => ⟨B, φ, ρ, μ, ab, (DenV.bindV ab.mem.len hw).imp fun v H1 ⟨φ1, μ1, d, e1, m1, r1, h1⟩ => by
        obtain ⟨b, h2, h3⟩ := den_tru m1 r1 h1
        exact ⟨b, h2, DenV.here m1 h3 rd_bl⟩⟩
    · cases h
  t := fun {sc e st W X} h cx => by
    simp only [mE] at h
    split at h
    · refine PT.weak (pt_not (sa.t h cx)) fun σ H Q ⟨B, φ, ρ, μ, ab, hw⟩ => ⟨B, φ, ρ, μ, ab, ?_⟩
      rw [evT_not] at hw
      refine (DenB.bindB ab.mem.len hw).imp fun b H1 ⟨φ1, μ1, e1, m1, h1⟩ => h1 H1 φ1 .refl m1
    · cases h
  w := fun h cx => by simp [mE] at h
  a := fun h => by simp [mEs] at h
  i := fun h => by simp [mI] at h
theorem snd_one {a : C} (sa : Snd Γ g k N a) : Snd Γ g k N (.one a) := by
  have hw : ∀ {sc : Scope} {op : BoolOp} {es : List Expr} {p : Pos} {st : Str → Bool} {W : XK} {X : Cx}, mE Γ N sc (.one a) (.BoolOp op es p) = true → Cxd Γ g k N sc st W X → PW X (.BoolOp op es p) (tT X.K W g (.one a)) := fun {sc op es p st W X} h cx => by
    simp only [mE] at h
    split at h
    · rename_i o x q z
      cases z
      cases op with
      | And => exact pw_and1 (sa.t h cx)
      | Or => exact pw_or1 (sa.t h cx)
    · cases h
  refine ⟨fun {sc e st W X} h cx => ?_, fun {sc e st W X} h cx => ?_, hw, fun h => ?_, fun h => ?_⟩
  · simp only [mE] at h
    split at h
    · exact pe_one (sa.e h cx)
    · cases h
  · cases e with
    | BoolOp op es p => exact (hw h cx).pt
    | _ => simp [mE] at h
  · simp [mEs] at h
  · simp [mI] at h
theorem snd_and {a b : C} (sa : Snd Γ g k N a) (sb : Snd Γ g k N b) : Snd Γ g k N (.and a b) := by
  have hw : ∀ {sc : Scope} {op : BoolOp} {es : List Expr} {p : Pos} {st : Str → Bool} {W : XK} {X : Cx}, mE Γ N sc (.and a b) (.BoolOp op es p) = true → Cxd Γ g k N sc st W X → PW X (.BoolOp op es p) (tT X.K W g (.and a b)) := fun {sc op es p st W X} h cx => by
    simp only [mE] at h
    split at h
    · rename_i x y r q z
      cases z
      rw [Bool.and_eq_true] at h
      refine PW.weak (pw_and (sa.t h.1 cx) (sb.w h.2 cx)) fun σ H Q ⟨B, φ, ρ, μ, ab, hw⟩ => ⟨B, φ, ρ, μ, ab, ?_⟩
      rw [evT_and] at hw
      refine (DenB.bindB ab.mem.len hw).imp fun b H1 ⟨φ1, μ1, e1, m1, h1⟩ => ?_
      cases b with
      | true => exact ⟨B, φ1, ρ, μ1, ab.ext e1 m1, h1⟩
      | false => exact h1 H1 φ1 .refl m1
    · cases h
  refine ⟨fun {sc e st W X} h cx => ?_, fun {sc e st W X} h cx => ?_, hw, fun h => ?_, fun h => ?_⟩
  · simp only [mE] at h
    split at h
    · rw [Bool.and_eq_true] at h
      refine PE.weak (pe_andT (sa.e h.1 cx) (sb.e h.2 cx)) fun σ H Q ⟨B, φ, ρ, μ, ab, hw⟩ => ⟨B, φ, ρ, μ, ab, (DenV.bindV ab.mem.len hw).imp fun v H1 ⟨φ1, μ1, d, e1, m1, r1, h1⟩ => ?_⟩
      obtain ⟨b, h2, h3⟩ := den_tru m1 r1 h1
      refine ⟨b, h2, ?_⟩
      cases b with
      | true => exact ⟨B, φ1, ρ, μ1, ab.ext e1 m1, h3⟩
      | false => exact DenV.here m1 h3 r1
    · cases h
  · cases e with
    | BoolOp op es p => exact (hw h cx).pt
    | _ => simp [mE] at h
  · simp [mEs] at h
  · simp [mI] at h
theorem snd_or {a b : C} (sa : Snd Γ g k N a) (sb : Snd Γ g k N b) : Snd Γ g k N (.or a b) := by
  have hw : ∀ {sc : Scope} {op : BoolOp} {es : List Expr} {p : Pos} {st : Str → Bool} {W : XK} {X : Cx}, mE Γ N sc (.or a b) (.BoolOp op es p) = true → Cxd Γ g k N sc st W X → PW X (.BoolOp op es p) (tT X.K W g (.or a b)) := fun {sc op es p st W X} h cx => by
    simp only [mE] at h
    split at h
    · rename_i x y r q z
      cases z
      rw [Bool.and_eq_true] at h
      refine PW.weak (pw_or (sa.t h.1 cx) (sb.w h.2 cx)) fun σ H Q ⟨B, φ, ρ, μ, ab, hw⟩ => ⟨B, φ, ρ, μ, ab, ?_⟩
      rw [evT_or] at hw
      refine (DenB.bindB ab.mem.len hw).imp fun b H1 ⟨φ1, μ1, e1, m1, h1⟩ => ?_
      cases b with
      | false => exact ⟨B, φ1, ρ, μ1, ab.ext e1 m1, h1⟩
      | true => exact h1 H1 φ1 .refl m1
    · cases h
  refine ⟨fun {sc e st W X} h cx => ?_, fun {sc e st W X} h cx => ?_, hw, fun h => ?_, fun h => ?_⟩
  · simp only [mE] at h
    split at h
    · rw [Bool.and_eq_true] at h
      refine PE.weak (pe_orT (sa.e h.1 cx) (sb.e h.2 cx)) fun σ H Q ⟨B, φ, ρ, μ, ab, hw⟩ => ⟨B, φ, ρ, μ, ab, (DenV.bindV ab.mem.len hw).imp fun v H1 ⟨φ1, μ1, d, e1, m1, r1, h1⟩ => ?_⟩
      obtain ⟨b, h2, h3⟩ := den_tru m1 r1 h1
      refine ⟨b, h2, ?_⟩
      cases b with
      | false => exact ⟨B, φ1, ρ, μ1, ab.ext e1 m1, h3⟩
      | true => exact DenV.here m1 h3 r1
    · cases h
  · cases e with
    | BoolOp op es p => exact (hw h cx).pt
    | _ => simp [mE] at h
  · simp [mEs] at h
  · simp [mI] at h
end
end Den

/-! Den12: expressions are sound: comparisons, calls, things, comprehensions, what is walked. -/
namespace Den
open PySem PySem.Spec PyProof.Rows L2
variable [Lams]

section
variable {Γ : Nm} {g : G} {k : Nat} {N : List Str}
theorem snd_cmp {op : CmpOp} {a b : C} (sa : Snd Γ g k N a) (sb : Snd Γ g k N b) : Snd Γ g k N (.cmp op a b) where
  e := fun {sc e st W X} h cx => by
    simp only [mE] at h
    split at h
    · simp only [Bool.and_eq_true, decide_eq_true_eq] at h
      rw [← h.1.1]
      exact PE.weak (pe_cmpR (op_cmp op (cunits cx)) (sa.e h.1.2 cx) (sb.e h.2 cx) (behind_eq (mE_forms h.2).2 _)) fun σ H Q hw => w_cmp hw
    · cases h
  t := fun {sc e st W X} h cx => by
    simp only [mE] at h
    split at h
    · simp only [Bool.and_eq_true, decide_eq_true_eq] at h
      rw [← h.1.1]
      refine PT.weak (pt_cmpR (op_cmp (W := W) op (cunits cx)) (sa.e h.1.2 cx) (sb.e h.2 cx) (behind_eq (mE_forms h.2).2 _)) fun σ H Q ⟨B, φ, ρ, μ, ab, hw⟩ => ?_
      exact w_cmp (op := op) (a := a) (b := b) ⟨B, φ, ρ, μ, ab, DenB.ofV (bl_cmp op a b) hw⟩
    · cases h
  w := fun h cx => by simp [mE] at h
  a := fun h => by simp [mEs] at h
  i := fun h => by simp [mI] at h
theorem snd_chn {op op' : CmpOp} {a b c : C} (sa : Snd Γ g k N a) (sb : Snd Γ g k N b) (sc' : Snd Γ g k N c) : Snd Γ g k N (.chn op op' a b c) where
  e := fun {sc e st W X} h cx => by
    simp only [mE] at h
    split at h
    · simp only [Bool.and_eq_true, decide_eq_true_eq] at h
      obtain ⟨⟨⟨⟨h1, h2⟩, h3⟩, h4⟩, h5⟩ := h
      rw [← h1, ← h2]
      exact PE.weak (pe_chain (op_cmp op (cunits cx)) (op_cmp op' (cunits cx)) (sa.e h3 cx) (sb.e h4 cx) (sc'.e h5 cx) (behind_eq (mE_forms h5).2 _)) fun σ H Q hw => w_chn hw
    · cases h
  t := fun {sc e st W X} h cx => by
    simp only [mE] at h
    split at h
    · simp only [Bool.and_eq_true, decide_eq_true_eq] at h
      obtain ⟨⟨⟨⟨h1, h2⟩, h3⟩, h4⟩, h5⟩ := h
      rw [← h1, ← h2]
      refine PT.weak (pt_chain (op_cmp (W := W) op (cunits cx)) (op_cmp (W := W) op' (cunits cx)) (sa.e h3 cx) (sb.e h4 cx) (sc'.e h5 cx) (behind_eq (mE_forms h5).2 _)) fun σ H Q ⟨B, φ, ρ, μ, ab, hw⟩ => ?_
      exact w_chn (op := op) (op' := op') (a := a) (b := b) (c := c) ⟨B, φ, ρ, μ, ab, DenB.ofV (bl_chn op op' a b c) hw⟩
    · cases h
  w := fun h cx => by simp [mE] at h
  a := fun h => by simp [mEs] at h
  i := fun h => by simp [mI] at h
theorem snd_ite {t a b : C} (s0 : Snd Γ g k N t) (sa : Snd Γ g k N a) (sb : Snd Γ g k N b) : Snd Γ g k N (.ite t a b) where
  e := fun {sc e st W X} h cx => by
    simp only [mE] at h
    split at h
    · simp only [Bool.and_eq_true] at h
      refine PE.weak (pe_ifExp (s0.t h.1.1 cx) (sa.e h.1.2 cx) (sb.e h.2 cx)) fun σ H Q ⟨B, φ, ρ, μ, ab, hw⟩ => ⟨B, φ, ρ, μ, ab, ?_⟩
      have hw' : DenV X.K W B H φ μ ((evT g t ρ μ).bind fun t μ2 => if t then evE g a ρ μ2 else evE g b ρ μ2) Q := by
        simp only [evE] at hw
        unfold evT
        rw [R.bind_assoc]
        exact hw
      refine (DenV.bindB ab.mem.len hw').imp fun b H1 ⟨φ1, μ1, e1, m1, h1⟩ => ?_
      cases b with
      | true => exact ⟨B, φ1, ρ, μ1, ab.ext e1 m1, h1⟩
      | false => exact ⟨B, φ1, ρ, μ1, ab.ext e1 m1, h1⟩
    · cases h
  t := fun {sc e st W X} h cx => by
    simp only [mE] at h
    split at h
    · simp only [Bool.and_eq_true] at h
      refine PT.weak (pt_ite (s0.t h.1.1 cx) (sa.t h.1.2 cx) (sb.t h.2 cx)) fun σ H Q ⟨B, φ, ρ, μ, ab, hw⟩ => ⟨B, φ, ρ, μ, ab, ?_⟩
      rw [evT_ite] at hw
      refine (DenB.bindB ab.mem.len hw).imp fun b H1 ⟨φ1, μ1, e1, m1, h1⟩ => ?_
      cases b with
      | true => exact ⟨B, φ1, ρ, μ1, ab.ext e1 m1, h1⟩
      | false => exact ⟨B, φ1, ρ, μ1, ab.ext e1 m1, h1⟩
    · cases h
  w := fun h cx => by simp [mE] at h
  a := fun h => by simp [mEs] at h
  i := fun h => by simp [mI] at h
theorem snd_cal {f : Str} {as : C} (sa : Snd Γ g k N as) : Snd Γ g k N (.cal f as) := by
  refine .ofE (fun h => ?_) (fun _ _ => rfl) (fun _ _ _ => rfl) fun {sc e st W X} h cx => ?_
  · simp only [mE] at h; split at h <;> first | rfl | cases h
  · simp only [mE] at h
    split at h
    · rename_i y p1 x xs pos
      simp only [Bool.and_eq_true, decide_eq_true_eq] at h
      obtain ⟨⟨⟨⟨⟨hh, h1⟩, h2⟩, h3⟩, h4⟩, h5⟩ := h
      have hh : Γ.hot = false := by simpa using hh
      subst h1
      have q := nmOk_out h3
      obtain ⟨fd, ps, F, bd⟩ := cx.fns f h4
      have gl := cx.glo f h4
      have se := starE (a := .nil) h5 X.env
      refine PE.weak (pe_callS F (cx.room hh) (glB_out (by rw [cx.scp]; exact h2)) gl.1 gl.2 bd (fun σ => passAtN cx.takes σ) (sa.a h5 cx) q.1 se.1 (se.2 _)) fun σ H Q ⟨B, φ, ρ, μ, ab, hw⟩ => ?_
      refine ⟨B, φ, ρ, μ, ab, (DenV.bindL ab.mem.len hw).imp fun vs H1 ⟨φ1, μ1, ds, e1, m1, r1, h1⟩ => ⟨B, φ1, μ1, ds, m1, r1, h1⟩⟩
    · cases h
theorem snd_bif {b : Bf} {as : C} (sa : Snd Γ g k N as) : Snd Γ g k N (.bif b as) := by
  refine .ofE (fun h => ?_) (fun _ _ => rfl) (fun _ _ _ => rfl) fun {sc e st W X} h cx => ?_
  · simp only [mE] at h; split at h <;> first | rfl | cases h
  · simp only [mE] at h
    split at h
    · rename_i y p1 x xs pos
      simp only [Bool.and_eq_true, decide_eq_true_eq] at h
      obtain ⟨⟨⟨hh, h1⟩, h2⟩, h5⟩ := h
      have se := starE (a := .nil) h5 X.env
      have cl : CallR X b.val (rDL X.K W (bifD b)) := by
        cases ho : Γ.hot with
        | false => exact bif_all_of (W := W) (cx.calm ho) cx.un b
        | true =>
          rw [ho] at hh
          have hq : b.cool = true := by simpa using hh
          exact bif_cool_of hq
      have wk : ∀ σ H Q, tC X.K W g (.bif b as) σ H Q → tCB (rDL X.K W (bifD b)) (tA X.K W g as) σ H Q := fun σ H Q ⟨B, φ, ρ, μ, ab, hw⟩ => denL ab hw
      subst h1
      cases ho : b.own with
      | true =>
        rw [ho] at h2
        simp only [Bool.and_eq_true] at h2
        have q := nmOk_out h2.1.2
        cases b <;> first | (cases ho; done) | exact PE.weak (pe_callBfun cl (glB_out (by rw [cx.scp]; exact h2.1.1)) (cx.bfn _ rfl h2.2) (sa.a h5 cx) q.1 se.1 (se.2 _)) wk
      | false =>
        rw [ho] at h2
        have q := cx.blt h2
        have bt := Bf.boot b ho
        cases b <;> first
          | (cases ho; done)
          | exact PE.weak (pe_callB cl q.1 q.2.1 bt (sa.a h5 cx) q.2.2.2 q.2.2.1 se.1 (se.2 _)) wk
          | exact PE.weak (pe_callTy cl q.1 q.2.1 bt (sa.a h5 cx) q.2.2.2 q.2.2.1 se.1 (se.2 _)) wk
    · cases h
theorem snd_isi {a : C} {t : Ty} (sa : Snd Γ g k N a) : Snd Γ g k N (.isi a t) := by
  refine .ofE (fun h => ?_) (fun _ _ => rfl) (fun _ _ _ => rfl) fun {sc e st W X} h cx => ?_
  · simp only [mE] at h; split at h <;> first | rfl | cases h
  · simp only [mE] at h
    split at h
    · rename_i y p1 x z p2 pos
      simp only [Bool.and_eq_true, decide_eq_true_eq] at h
      obtain ⟨⟨⟨⟨h1, h2⟩, h3⟩, h4⟩, h5⟩ := h
      have q := cx.blt h2
      have q2 := cx.blt h4
      subst h1
      subst h3
      have sx := star_eq (mE_forms h5).1 [Expr.Name t.nm p2] X.env
      have bt : bootBuiltins ("isinstance" : Str) = some (.builtin "isinstance") := by decide +kernel
      refine PE.weak (pe_callB call_isi q.1 q.2.1 bt (pa_cons (sa.e h5 cx) (pa_cons (pe_bltn (v := .ty t.name) q2.1 q2.2.1 (Ty.boot t) rfl q2.2.2.2 q2.2.2.1) pa_nil) sx) q.2.2.2 q.2.2.1 sx rfl) fun σ H Q ⟨B, φ, ρ, μ, ab, hw⟩ => ?_
      refine ⟨B, φ, ρ, μ, ab, (DenV.bindV ab.mem.len hw).imp fun v H1 ⟨φ1, μ1, d, e1, m1, r1, h1⟩ => ?_⟩
      split at h1
      · rename_i b hb
        obtain ⟨c, ty, kt⟩ := isTy_rd r1 hb
        exact ⟨v, .ty t.name, c, .type t.name, b, rfl, .ty _, ty, kt, DenV.here m1 h1 rd_bl⟩
      · exact False.elim h1
    · cases h
theorem snd_tup {as : C} (sa : Snd Γ g k N as) : Snd Γ g k N (.tup as) := by
  refine .ofE (fun h => ?_) (fun _ _ => rfl) (fun _ _ _ => rfl) fun {sc e st W X} h cx => ?_
  · simp only [mE] at h; split at h <;> first | rfl | cases h
  · simp only [mE] at h
    split at h
    · exact PE.weak (pe_tup (sa.a h cx)) fun σ H Q ⟨B, φ, ρ, μ, ab, hw⟩ => ⟨B, φ, ρ, μ, ab, (DenV.bindL ab.mem.len hw).imp fun vs H1 ⟨φ1, μ1, ds, e1, m1, r1, h1⟩ => vals_tup m1 r1 h1⟩
    · cases h
theorem snd_lst {as : C} (sa : Snd Γ g k N as) : Snd Γ g k N (.lst as) := by
  refine .ofE (fun h => ?_) (fun _ _ => rfl) (fun _ _ _ => rfl) fun {sc e st W X} h cx => ?_
  · simp only [mE] at h; split at h <;> first | rfl | cases h
  · simp only [mE] at h
    split at h
    · exact PE.weak (pe_lst (sa.a h cx)) fun σ H Q ⟨B, φ, ρ, μ, ab, hw⟩ => ⟨B, φ, ρ, μ, ab, (DenV.bindL ab.mem.len hw).imp fun vs H1 ⟨φ1, μ1, ds, e1, m1, r1, h1⟩ => vals_lst m1 r1 h1⟩
    · cases h
theorem snd_cel {as : C} (sa : Snd Γ g k N as) : Snd Γ g k N (.cel as) := by
  refine .ofE (fun h => ?_) (fun _ _ => rfl) (fun _ _ _ => rfl) fun {sc e st W X} h cx => ?_
  · simp only [mE] at h; split at h <;> first | rfl | cases h
  · simp only [mE] at h
    split at h
    · exact PE.weak (pe_lst (sa.a h cx)) fun σ H Q ⟨B, φ, ρ, μ, ab, hw⟩ => ⟨B, φ, ρ, μ, ab, (DenV.bindL ab.mem.len hw).imp fun vs H1 ⟨φ1, μ1, ds, e1, m1, r1, h1⟩ => vals_cel m1 r1 h1⟩
    · cases h
theorem snd_nil : Snd Γ g k N .nil where
  e := fun h => by simp [mE] at h
  t := fun h => by simp [mE] at h
  w := fun h => by simp [mE] at h
  a := fun {sc es st W X} h cx => by
    simp only [mEs, List.isEmpty_iff] at h
    subst h
    exact PA.weak pa_nil fun σ H Q ⟨B, φ, ρ, μ, ab, hw⟩ => hw [] H φ .refl ab.mem .nil
  i := fun h => by simp [mI] at h
theorem snd_cons {a as : C} (sa : Snd Γ g k N a) (sr : Snd Γ g k N as) : Snd Γ g k N (.cons a as) where
  e := fun h => by simp [mE] at h
  t := fun h => by simp [mE] at h
  w := fun h => by simp [mE] at h
  a := fun {sc es st W X} h cx => by
    have h0 := h
    simp only [mEs] at h
    split at h
    · rename_i x xs
      rw [Bool.and_eq_true] at h
      refine PA.weak (pa_cons (sa.e h.1 cx) (sr.a h.2 cx) (starE (a := .nil) h0 X.env).1) fun σ H Q ⟨B, φ, ρ, μ, ab, hw⟩ => ?_
      refine ⟨B, φ, ρ, μ, ab, (DenL.bindV ab.mem.len hw).imp fun v H1 ⟨φ1, μ1, d, e1, m1, r1, h1⟩ => ⟨B, φ1, ρ, μ1, ab.ext e1 m1, (DenL.bindL m1.len h1).imp fun vs H2 ⟨φ2, μ2, ds, e2, m2, r2, h2⟩ => ?_⟩⟩
      exact h2 v (RdV.mono e2 m1.len r1)
    · cases h
  i := fun h => by simp [mI] at h
theorem snd_idx {a b : C} (sa : Snd Γ g k N a) (sb : Snd Γ g k N b) : Snd Γ g k N (.idx a b) := by
  refine .ofE (fun h => ?_) (fun _ _ => rfl) (fun _ _ _ => rfl) fun {sc e st W X} h cx => ?_
  · simp only [mE] at h; split at h <;> first | rfl | cases h
  · simp only [mE] at h
    split at h
    · simp only [Bool.and_eq_true, Bool.not_eq_true'] at h
      exact PE.weak (pe_ix (ix_all (W := W)) (sa.e h.1.2 cx) (sb.e h.2 cx) (plainIx_eq h.1.1)) fun σ H Q ⟨B, φ, ρ, μ, ab, hw⟩ => den2 ab hw
    · cases h
theorem partD_out {K : PySem.W.Frag} {H : Hp} {L : Addr → Prop} {φ : List Addr} {d : D} {v : V} {l : Option Int} (r : RdV K H L φ d v) (h : partD d = some l) : (∃ i, v = .int i ∧ l = some i) ∨ (v = .non ∧ l = none) := by
  cases d with
  | int i => cases h; exact .inl ⟨i, rdV_int r, rfl⟩
  | non => cases h; exact .inr ⟨rdV_non r, rfl⟩
  | _ => cases h
/-- a part of a slice -/
theorem po_den {X : Cx} {W : XK} {c : C} {l : Option Expr} (h : match l with | none => isNop c = true | some e => PE X e (tC X.K W g c)) :
    PO X l (fun σ H Q => tC X.K W g c σ H fun x H1 => (∃ i, x = .int i ∧ Q (some i) H1) ∨ (x = .non ∧ Q none H1)) := by
  cases l with
  | none =>
    dsimp only at h
    have e : c = .nop := by cases c <;> first | rfl | cases h
    subst e
    refine ⟨fun pins s σ H Q I ⟨B, φ, ρ, μ, ab, hw⟩ => po_none.run pins s σ H Q I ?_⟩
    have q := hw .non H φ .refl ab.mem rd_non
    rcases q with ⟨i, q, _⟩ | ⟨_, q⟩
    · cases q
    · exact q
  | some e => exact po_any h
theorem snd_sli {a lo hi : C} (sa : Snd Γ g k N a) (sl : Snd Γ g k N lo) (sh : Snd Γ g k N hi) : Snd Γ g k N (.sli a lo hi) := by
  refine .ofE (fun h => ?_) (fun _ _ => rfl) (fun _ _ _ => rfl) fun {sc e st W X} h cx => ?_
  · simp only [mE] at h; split at h <;> first | rfl | cases h
  · simp only [mE] at h
    split at h
    · rename_i x l hh p1 p2
      simp only [Bool.and_eq_true] at h
      obtain ⟨⟨h1, h2⟩, h3⟩ := h
      have o1 := po_den (X := X) (W := W) (g := g) (c := lo) (l := l) (by cases l with | none => exact h2 | some e => exact sl.e h2 cx)
      have o2 := po_den (X := X) (W := W) (g := g) (c := hi) (l := hh) (by cases hh with | none => exact h3 | some e => exact sh.e h3 cx)
      refine PE.weak (pe_slice (sl_all (W := W)) (sa.e h1 cx) o1 o2) fun σ H Q ⟨B, φ, ρ, μ, ab, hw⟩ => ?_
      refine ⟨B, φ, ρ, μ, ab, (DenV.bindV ab.mem.len hw).imp fun v H1 ⟨φ1, μ1, d, e1, m1, r1, h1⟩ => ⟨B, φ1, ρ, μ1, ab.ext e1 m1, (DenV.bindV m1.len h1).imp fun y H2 ⟨φ2, μ2, d2, e2, m2, r2, h2⟩ => ?_⟩⟩
      have a2 := (ab.ext e1 m1).ext e2 m2
      have low : ∀ (l' : Option Int), DenV X.K W B H2 φ2 μ2 ((evE g hi ρ μ2).bind fun h μ3 => match partD h with | some h => sliD d l' h μ3 | none => .no) Q → tC X.K W g hi σ H2 fun x H3 => (∃ i, x = .int i ∧ ∃ B φ μ d, MemOk X.K H3 φ μ B ∧ RdV X.K H3 (Live φ μ B) φ d v ∧ DenV X.K W B H3 φ μ (sliD d l' (some i) μ) Q) ∨ (x = .non ∧ ∃ B φ μ d, MemOk X.K H3 φ μ B ∧ RdV X.K H3 (Live φ μ B) φ d v ∧ DenV X.K W B H3 φ μ (sliD d l' none μ) Q) := fun l' hl => by
        refine ⟨B, φ2, ρ, μ2, a2, (DenV.bindV m2.len hl).imp fun z H3 ⟨φ3, μ3, d3, e3, m3, r3, h3⟩ => ?_⟩
        cases q : partD d3 with
        | none => rw [q] at h3; exact False.elim h3
        | some u =>
          rw [q] at h3
          have rv := RdV.mono (e2.trans m1.len e3) m1.len r1
          rcases partD_out r3 q with ⟨i, q1, q2⟩ | ⟨q1, q2⟩
          · subst q2; exact .inl ⟨i, q1, B, φ3, μ3, d, m3, rv, h3⟩
          · subst q2; exact .inr ⟨q1, B, φ3, μ3, d, m3, rv, h3⟩
      cases q : partD d2 with
      | none => rw [q] at h2; exact False.elim h2
      | some l' =>
        rw [q] at h2
        rcases partD_out r2 q with ⟨i, q1, q2⟩ | ⟨q1, q2⟩
        · subst q2; exact .inl ⟨i, q1, low _ h2⟩
        · subst q2; exact .inr ⟨q1, low _ h2⟩
    · cases h
end
end Den

/-! Den13: expressions are sound: what is walked, comprehensions; all. -/
namespace Den
open PySem PySem.Spec PyProof.Rows L2
variable [Lams]

section
variable {Γ : Nm} {g : G} {k : Nat} {N : List Str}
theorem mI_notSet {sc : Scope} {c : C} {t e : Expr} (h : mI Γ N sc c t e = true) : notSet e = true := by
  cases e <;> first | rfl | (exfalso; cases c <;> first | (simp [mI] at h; done) | (simp only [mI] at h; have := (mE_forms h).2; simp [notSet] at this) | (cases t <;> simp [mI] at h))
/-- only what is walked -/
theorem Snd.ofI {c : C} (he : ∀ sc e, mE Γ N sc c e = false) (ha : ∀ sc es, mEs Γ N sc c es = false)
    (hi : ∀ {sc : Scope} {t e : Expr} {st : Str → Bool} {W : XK} {X : Cx}, mI Γ N sc c t e = true → Cxd Γ g k N sc st W X → PI X t e (tI X.K W g c)) : Snd Γ g k N c where
  e := fun h => by rw [he] at h; cases h
  t := fun h => by rw [he] at h; cases h
  w := fun h => by rw [he] at h; cases h
  a := fun h => by rw [ha] at h; cases h
  i := hi
theorem rngOk_out {i : Int} (h : rngOk i = true) : -(2 ^ 62) ≤ i ∧ i < 2 ^ 62 := by
  have h : i.natAbs < 4611686018427387904 := of_decide_eq_true h
  omega
theorem snd_nop : Snd Γ g k N .nop := .ofI (fun _ _ => rfl) (fun _ _ => rfl) fun h => by simp [mI] at h
theorem snd_cav {i : Nat} {fs : List Str} {as : C} (sa : Snd Γ g k N as) : Snd Γ g k N (.cav i fs as) := by
  refine .ofE (fun h => ?_) (fun _ _ => rfl) (fun _ _ _ => rfl) fun {sc e st W X} h cx => ?_
  · simp only [mE] at h; split at h <;> first | rfl | cases h
  · simp only [mE] at h
    split at h
    · rename_i y p1 x xs pos
      simp only [Bool.and_eq_true, Bool.not_eq_true', decide_eq_true_eq] at h
      obtain ⟨⟨⟨⟨⟨hh, h1⟩, h2⟩, h3⟩, h4⟩, h5⟩ := h
      have q := nmOk_out h3
      have se := starE (a := .nil) h5 X.env
      refine ⟨fun pins s σ H Q I ⟨B, φ, ρ, μ, ab, hw⟩ => ?_⟩
      simp only [evE] at hw
      split at hw
      · rename_i f hi
        split at hw
        · rename_i hf
          have hf' := List.all_eq_true.mp h4 f (List.contains_iff_mem.mp hf)
          obtain ⟨fd, ps, F, bd⟩ := cx.fns f hf'
          have gl := cx.glo f hf'
          obtain ⟨v, v1, v2⟩ := ab.env i _ hi
          have hv : v = .ref (He.ga X.K f) := by simpa only [RdV] using v2
          subst hv
          refine (pe_callL (pos := pos) (p := p1) (i := i) F (cx.room hh) (by rw [cx.nm]; exact h1) (visB_out (by rw [cx.scp]; exact h2)) gl.2 bd .nil (L2N.passes_call (E := W) cx.takes fun _ _ _ _ z => z) (sa.a h5 cx) q.1 q.2.1 se.1 (se.2 _)).run pins s σ H Q I ⟨v1, ?_⟩
          refine ⟨B, φ, ρ, μ, ab, (DenV.bindL ab.mem.len hw).imp fun vs H1 ⟨φ1, μ1, ds, e1, m1, r1, h1⟩ => ?_⟩
          rw [List.append_nil]
          exact ⟨B, φ1, μ1, ds, m1, r1, h1⟩
        · exact False.elim hw
      · exact False.elim hw
    · cases h
theorem snd_cal0 {f : Str} : Snd Γ g k N (.cal0 f) := by
  refine .ofE (fun h => ?_) (fun _ _ => rfl) (fun _ _ _ => rfl) fun {sc e st W X} h cx => ?_
  · simp only [mE] at h; split at h <;> first | rfl | cases h
  · simp only [mE] at h
    split at h
    · rename_i y p1 pos
      simp only [Bool.and_eq_true, Bool.not_eq_true', decide_eq_true_eq] at h
      obtain ⟨⟨⟨⟨hh, h1⟩, h2⟩, h3⟩, h4⟩ := h
      subst h1
      have q := nmOk_out h3
      obtain ⟨fd, ps, F, bd⟩ := cx.fns f h4
      have gl := cx.glo f h4
      refine PE.weak (pe_call0 F (cx.room hh) (glB_out (by rw [cx.scp]; exact h2)) gl.1 gl.2 bd .nil (L2N.passes_call (E := W) cx.takes fun _ _ _ _ z => z) q.1) fun σ H Q ⟨B, φ, ρ, μ, ab, hw⟩ => ?_
      exact ⟨B, φ, μ, [], ab.mem, .nil, hw⟩
    · cases h
theorem lookup_rd {K : PySem.W.Frag} {H : Hp} {L : Addr → Prop} {φ : List Addr} {f : Str} {d : D} : ∀ {fs : List (Str × D)} {gs : List (Str × V)}, gs.map (·.1) = fs.map (·.1) → RdL K H L φ (fs.map (·.2)) (gs.map (·.2)) → fs.lookup f = some d → ∃ v, gs.lookup f = some v ∧ RdV K H L φ d v
  | [], _, _, _, h => by cases h
  | p :: fs, [], h1, _, _ => by cases h1
  | p :: fs, q :: gs, h1, h2, h3 => by
    simp only [List.map_cons, List.cons.injEq] at h1
    simp only [List.map_cons, RdL] at h2
    obtain ⟨w, ws, e, r1, r2⟩ := h2
    simp only [List.cons.injEq] at e
    obtain ⟨e1, e2⟩ := e
    rw [List.lookup_cons] at h3 ⊢
    rw [h1.1]
    cases hb : f == p.1 with
    | true =>
      rw [hb] at h3
      cases h3
      exact ⟨q.2, rfl, by rw [e1]; exact r1⟩
    | false =>
      rw [hb] at h3
      exact lookup_rd h1.2 (by rw [e2]; exact r2) h3
theorem lookup_none {f : Str} : ∀ {fs : List (Str × D)} {gs : List (Str × V)}, gs.map (·.1) = fs.map (·.1) → fs.lookup f = none → gs.lookup f = none
  | [], gs, h1, _ => by rw [List.map_eq_nil_iff.mp h1]; rfl
  | p :: fs, [], h1, _ => by cases h1
  | p :: fs, q :: gs, h1, h3 => by
    simp only [List.map_cons, List.cons.injEq] at h1
    rw [List.lookup_cons] at h3 ⊢
    rw [h1.1]
    cases hb : f == p.1 with
    | true => rw [hb] at h3; cases h3
    | false =>
      rw [hb] at h3
      exact lookup_none h1.2 h3
theorem fldOf_rd {K : PySem.W.Frag} {H : Hp} {φ : List Addr} {μ : Mem} {B : Addr → Prop} {x d : D} {v : V} {c f : Str} (m : MemOk K H φ μ B) (r : RdV K H (Live φ μ B) φ x v) (h : fldOf μ x c f = some d) :
    ∃ a dx gs w, v = .ref a ∧ H a = some (.ins (He.ga K c) dx gs) ∧ gs.lookup f = some w ∧ RdV K H (Live φ μ B) φ d w := by
  unfold fldOf at h
  split at h
  · split at h
    · rename_i n _ c' fs hn
      split at h
      · rename_i hc
        subst hc
        simp only [RdV] at r
        obtain ⟨a, ha, rfl⟩ := r
        obtain ⟨⟨_, vs, q1, ⟨dx, gs, rfl, g1, g2⟩, q2⟩, _⟩ := m.cell n _ a hn ha
        obtain ⟨w, w1, w2⟩ := lookup_rd (f := f) g1 (by rw [g2]; exact q2) h
        exact ⟨a, dx, gs, w, rfl, q1, w1, w2⟩
      · cases h
    · cases h
  · cases h
theorem isObj_rd {K : PySem.W.Frag} {H : Hp} {φ : List Addr} {μ : Mem} {B : Addr → Prop} {x : D} {v : V} {c m : Str} (mo : MemOk K H φ μ B) (r : RdV K H (Live φ μ B) φ x v) (h : isObj μ x c m = true) :
    ∃ a dx gs, v = .ref a ∧ H a = some (.ins (He.ga K c) dx gs) ∧ gs.lookup m = none := by
  unfold isObj at h
  split at h
  · split at h
    · rename_i n _ c' fs hn
      simp only [Bool.and_eq_true, decide_eq_true_eq, Option.isNone_iff_eq_none] at h
      obtain ⟨rfl, h2⟩ := h
      simp only [RdV] at r
      obtain ⟨a, ha, rfl⟩ := r
      obtain ⟨⟨_, vs, q1, ⟨dx, gs, rfl, g1, g2⟩, q2⟩, _⟩ := mo.cell n _ a hn ha
      exact ⟨a, dx, gs, rfl, q1, lookup_none g1 h2⟩
    · cases h
  · cases h
theorem snd_fld {o : C} {c f : Str} (so : Snd Γ g k N o) : Snd Γ g k N (.fld o c f) := by
  refine .ofE (fun h => ?_) (fun _ _ => rfl) (fun _ _ _ => rfl) fun {sc e st W X} h cx => ?_
  · simp only [mE] at h; split at h <;> first | rfl | cases h
  · simp only [mE] at h
    split at h
    · rename_i x y pos
      simp only [Bool.and_eq_true, decide_eq_true_eq] at h
      obtain ⟨⟨⟨h1, h2⟩, h3⟩, h4⟩ := h
      subst h1
      obtain ⟨cl, na⟩ := cx.flds c _ h3
      refine PE.weak (pe_fld (so.e h4 cx) (base_eq h2 _ _ _)) fun σ H Q ⟨B, φ, ρ, μ, ab, hw⟩ => ?_
      refine ⟨B, φ, ρ, μ, ab, (DenV.bindV ab.mem.len hw).imp fun v H1 ⟨φ1, μ1, d, e1, m1, r1, h1⟩ => ?_⟩
      split at h1
      · rename_i d' hd
        obtain ⟨a, dx, gs, w, rfl, q1, q2, q3⟩ := fldOf_rd m1 r1 hd
        exact ⟨a, _, dx, gs, w, rfl, q1, cl, na, q2, DenV.here m1 h1 q3⟩
      · exact False.elim h1
    · cases h
/-- a method is asked of a name's value and called at once -/
theorem meth_eq {y m : Str} {p ap cp : Pos} {es : List Expr} {env : PySem.Env} (hl : (ap.endLine == cp.line) = true) (hs : es.all notStar = true) (hn : es.length < 30) :
    eval (.Call (.Attribute (.Name y p) m ap) es [] cp) env = (do
      let ov ← eval (.Name y p) env
      standAt ap.atName
      let (f, first) ← holding [ov] (getMethod ov m (do return (← importBound (.Name y p) env).getD true))
      callWith cp f first (backTo cp (starEach es env)) (backToKw cp (keywordEach [] env))) := by
  have few : methodCallForm (es.length + ([] : List Keyword).length) (backTo cp (starEach es env)) (backToKw cp (keywordEach [] env)) = true := by
    have h1 := backTo_any hs cp env
    have h2 : (backTo cp (starEach es env)).all (fun x => !x.1) = true := by
      rw [List.all_eq_not_any_not]
      simp only [Bool.not_not]
      rw [h1]
      rfl
    unfold methodCallForm
    rw [h2]
    show (true && true && decide (es.length + 0 + 0 < 30)) = true
    rw [decide_eq_true (by omega)]
    rfl
  rw [arm_eval_Call]
  unfold methodCall calleeOf methodCallPos
  rw [few, hl]
  rfl
theorem snd_mth0 {o : C} {c m n : Str} (so : Snd Γ g k N o) : Snd Γ g k N (.mth0 o c m n) := by
  refine .ofE (fun h => ?_) (fun _ _ => rfl) (fun _ _ _ => rfl) fun {sc e st W X} h cx => ?_
  · simp only [mE] at h; split at h <;> first | rfl | cases h
  · simp only [mE] at h
    split at h
    · rename_i y p z ap cp
      simp only [Bool.and_eq_true, Bool.not_eq_true', decide_eq_true_eq] at h
      obtain ⟨⟨⟨⟨hh, h1⟩, hln⟩, h2⟩, h3⟩ := h
      subst h1
      obtain ⟨cl, me, fd, ps, F, bd⟩ := cx.mts c _ n h2
      refine PE.weak (pe_meth0 (so.e h3 cx) cl me F (cx.room hh) bd .nil (L2N.passes_call (E := W) cx.takes fun _ _ _ _ z => z) (ht := meth_eq hln rfl (by decide))) fun σ H Q ⟨B, φ, ρ, μ, ab, hw⟩ => ?_
      refine ⟨B, φ, ρ, μ, ab, (DenV.bindV ab.mem.len hw).imp fun v H1 ⟨φ1, μ1, d, e1, m1, r1, h1⟩ => ?_⟩
      split at h1
      · rename_i hd
        obtain ⟨a, dx, gs, rfl, q1, q2⟩ := isObj_rd m1 r1 hd
        exact ⟨a, dx, gs, rfl, q1, q2, B, φ1, μ1, [d], m1, .cons r1 .nil, h1⟩
      · exact False.elim h1
    · cases h
theorem snd_mth {o as : C} {c m n : Str} (so : Snd Γ g k N o) (sa : Snd Γ g k N as) : Snd Γ g k N (.mth o c m n as) := by
  refine .ofE (fun h => ?_) (fun _ _ => rfl) (fun _ _ _ => rfl) fun {sc e st W X} h cx => ?_
  · simp only [mE] at h; split at h <;> first | rfl | cases h
  · simp only [mE] at h
    split at h
    · rename_i y p z ap x xs cp
      simp only [Bool.and_eq_true, Bool.not_eq_true', decide_eq_true_eq] at h
      obtain ⟨⟨⟨⟨⟨⟨hh, h1⟩, hln⟩, hnn⟩, h2⟩, h3⟩, h4⟩ := h
      subst h1
      obtain ⟨cl, me, fd, ps, F, bd⟩ := cx.mts c _ n h2
      have se := starE (a := .nil) h4 X.env
      refine PE.weak (pe_meth (so.e h3 cx) cl me F (cx.room hh) bd .nil (L2N.passes_call (E := W) cx.takes fun _ _ _ _ z => z) (sa.a h4 cx) se.1 (se.2 _) (ht := meth_eq hln (mEs_forms h4) hnn)) fun σ H Q ⟨B, φ, ρ, μ, ab, hw⟩ => ?_
      refine ⟨B, φ, ρ, μ, ab, (DenV.bindV ab.mem.len hw).imp fun v H1 ⟨φ1, μ1, d, e1, m1, r1, h1⟩ => ?_⟩
      split at h1
      · rename_i hd
        obtain ⟨a, dx, gs, rfl, q1, q2⟩ := isObj_rd m1 r1 hd
        refine ⟨a, dx, gs, rfl, q1, q2, B, φ1, ρ, μ1, ab.ext e1 m1, (DenV.bindL m1.len h1).imp fun vs H2 ⟨φ2, μ2, ds, e2, m2, r2, h2⟩ => ?_⟩
        rw [List.append_nil]
        exact ⟨B, φ2, μ2, d :: ds, m2, .cons (RdV.mono e2 m1.len r1) r2, h2⟩
      · exact False.elim h1
    · cases h
theorem snd_mk0 {c n : Str} : Snd Γ g k N (.mk0 c n) := by
  refine .ofE (fun h => ?_) (fun _ _ => rfl) (fun _ _ _ => rfl) fun {sc e st W X} h cx => ?_
  · simp only [mE] at h; split at h <;> first | rfl | cases h
  · simp only [mE] at h
    split at h
    · rename_i y p1 pos
      simp only [Bool.and_eq_true, Bool.not_eq_true', decide_eq_true_eq] at h
      obtain ⟨⟨⟨⟨hh, h1⟩, h2⟩, h3⟩, h4⟩ := h
      subst h1
      have q := nmOk_out h3
      obtain ⟨gm, f, MK, lo⟩ := cx.mks c n h4
      cases hdp : g.dp with
      | false =>
        refine ⟨fun pins s σ H Q I ⟨B, φ, ρ, μ, ab, hw⟩ => ?_⟩
        simp only [evE, hdp] at hw
        exact False.elim hw
      | true =>
        obtain ⟨k2, hk, fd, ps, F, bd⟩ := lo hdp
        have room : Room (k2 + 1) X.A := (cx.room hh).mono (by omega)
        refine PE.weak (pe_make0 MK F room (glB_out (by rw [cx.scp]; exact h2)) gm bd .nil (L2N.passes_call (E := W) cx.takes fun _ _ _ _ z => z) q.1) fun σ H Q ⟨B, φ, ρ, μ, ab, hw⟩ => ?_
        refine fun x dx hx hdx hne => ?_
        simp only [evE, hdp, if_true] at hw
        have e0 : Ext H φ μ (upd H dx (.own x)) φ μ := .grow (upd_keep hdx)
        have m0 : MemOk X.K (upd H dx (.own x)) φ μ B := ab.mem.grow (upd_keep hdx)
        have hx' : upd H dx (.own x) x = none := by rw [upd_ne (Ne.symm hne)]; exact hx
        obtain ⟨e1, m1⟩ := new_cell (c0 := .obj c []) m0 hx' (o := .ins (He.ga X.K c) dx []) (vs := []) ⟨dx, [], rfl, rfl, rfl⟩ .nil
        have e2 := e0.trans ab.mem.len e1
        refine ⟨B, φ ++ [x], μ ++ [some (.obj c [])], [.cel μ.length], m1, .cons ?_ .nil, ?_⟩
        · simp only [RdV]
          exact ⟨x, by rw [← ab.mem.len, List.getElem?_append_right (Nat.le_refl _), Nat.sub_self]; rfl, rfl⟩
        · refine (DenV.bindV m1.len (DenV.shift e2 ab.mem.len hw)).imp fun v H2 ⟨φ2, μ2, d, e3, m3, r3, h3⟩ => ?_
          cases d with
          | non =>
            refine ⟨by simpa only [RdV] using r3, DenV.here m3 h3 ?_⟩
            simp only [RdV]
            obtain ⟨l, hp⟩ := e3.pre
            refine ⟨x, ?_, rfl⟩
            rw [hp, List.getElem?_append_left (by rw [List.length_append, ab.mem.len]; simp), ← ab.mem.len, List.getElem?_append_right (Nat.le_refl _), Nat.sub_self]
            rfl
          | _ => exact False.elim h3
    · cases h
theorem snd_rng1 {a : C} (sa : Snd Γ g k N a) : Snd Γ g k N (.rng1 a) := by
  refine .ofI (fun _ _ => rfl) (fun _ _ => rfl) fun {sc t e st W X} h cx => ?_
  simp only [mI] at h
  split at h
  · rename_i y p x pos
    simp only [Bool.and_eq_true, decide_eq_true_eq] at h
    obtain ⟨⟨h1, h2⟩, h3⟩ := h
    subst h1
    have q := cx.blt h2
    have sx := star_eq (mE_forms h3).1 [] X.env
    refine PI.weak (pi_range1 q.1 q.2.1 (pa_cons (sa.e h3 cx) pa_nil sx) sx) fun σ H R ⟨B, φ, ρ, μ, ab, hw⟩ => ?_
    refine ⟨B, φ, ρ, μ, ab, (DenI.bindV ab.mem.len hw).imp fun v H1 ⟨φ1, μ1, d, e1, m1, r1, h1⟩ => ?_⟩
    cases d with
    | int j =>
      rw [rdV_int r1]
      dsimp only at h1
      split at h1
      · rename_i hj
        have b := rngOk_out hj
        refine ⟨j, rfl, b.1, b.2, DenI.here m1 h1 ?_⟩
        have := itok_rng (K := X.K) (H := H1) (φ := φ1) (μ := μ1) (B := B) (lo := 0) (hi := j)
        rwa [Int.sub_zero] at this
      · exact False.elim h1
    | _ => exact False.elim h1
  · cases h
theorem snd_rng2 {a b : C} (sa : Snd Γ g k N a) (sb : Snd Γ g k N b) : Snd Γ g k N (.rng2 a b) := by
  refine .ofI (fun _ _ => rfl) (fun _ _ => rfl) fun {sc t e st W X} h cx => ?_
  simp only [mI] at h
  split at h
  · rename_i y p x z pos
    simp only [Bool.and_eq_true, decide_eq_true_eq] at h
    obtain ⟨⟨⟨h1, h2⟩, h3⟩, h4⟩ := h
    subst h1
    have q := cx.blt h2
    have sz := star_eq (mE_forms h4).1 [] X.env
    have sx := (star_eq (mE_forms h3).1 [z] X.env).trans (congrArg _ sz)
    refine PI.weak (pi_range2 q.1 q.2.1 (pa_cons (sa.e h3 cx) (pa_cons (sb.e h4 cx) pa_nil sz) (star_eq (mE_forms h3).1 [z] X.env)) sx sz) fun σ H R ⟨B, φ, ρ, μ, ab, hw⟩ => ?_
    refine ⟨B, φ, ρ, μ, ab, (DenI.bindV ab.mem.len hw).imp fun v H1 ⟨φ1, μ1, d, e1, m1, r1, h1⟩ => ⟨B, φ1, ρ, μ1, ab.ext e1 m1, (DenI.bindV m1.len h1).imp fun w H2 ⟨φ2, μ2, d2, e2, m2, r2, h2⟩ => ?_⟩⟩
    cases d with
    | int i =>
      cases d2 with
      | int j =>
        rw [rdV_int r1, rdV_int r2]
        dsimp only at h2
        split at h2
        · rename_i hj
          rw [Bool.and_eq_true] at hj
          have b1 := rngOk_out hj.1
          have b2 := rngOk_out hj.2
          exact ⟨i, j, rfl, ⟨b1.1, b1.2, b2.1, b2.2⟩, DenI.here m2 h2 itok_rng⟩
        · exact False.elim h2
      | _ => exact False.elim h2
    | _ => exact False.elim h2
  · cases h
theorem nAt_of {K : PySem.W.Frag} {H : Hp} {φ : List Addr} {μ : Mem} {B : Addr → Prop} {a : Addr} (n : ¬ Live φ μ B a) : ¬ At φ μ a := fun z => n (.inr z)
theorem snd_itr {a : C} (sa : Snd Γ g k N a) : Snd Γ g k N (.itr a) := by
  refine .ofI (fun _ _ => rfl) (fun _ _ => rfl) fun {sc t e st W X} h cx => ?_
  simp only [mI] at h
  refine PI.weak (pi_any (sa.e h cx)) fun σ H R ⟨B, φ, ρ, μ, ab, hw⟩ => ?_
  refine ⟨B, φ, ρ, μ, ab, (DenI.bindV ab.mem.len hw).imp fun v H1 ⟨φ1, μ1, d, e1, m1, r1, h1⟩ => ?_⟩
  cases d with
  | lst xs =>
    obtain ⟨p, vs, ev, q1, q2, q3⟩ := rdV_lst r1
    exact .inl ⟨p, ev, ⟨vs, SqL.of q1⟩, DenI.here m1 h1 (itok_list q1 q2 q3 m1.len)⟩
  | tup xs =>
    obtain ⟨p, vs, ev, q1, q3⟩ := rdV_tup r1
    exact .inr (.inl ⟨p, ev, ⟨vs, q1⟩, DenI.here m1 h1 (itok_tup q1 q3 m1.len)⟩)
  | str z => exact .inr (.inr ⟨z, rdV_str r1, DenI.here m1 h1 itok_str⟩)
  | _ => exact False.elim h1
theorem w_itl {K : PySem.W.Frag} {W : XK} {a : C} {σ : L2.St} {H : Hp} {R : It → Hp → Prop} (h : tI K W g (.itl a) σ H R) : iList K (tC K W g a) σ H R := by
  obtain ⟨B, φ, ρ, μ, ab, hw⟩ := h
  refine ⟨B, φ, ρ, μ, ab, (DenI.bindV ab.mem.len hw).imp fun v H1 ⟨φ1, μ1, d, e1, m1, r1, h1⟩ => ?_⟩
  cases d with
  | lst xs =>
    obtain ⟨p, vs, ev, q1, q2, q3⟩ := rdV_lst r1
    exact ⟨p, ev, ⟨vs, SqL.of q1⟩, DenI.here m1 h1 (itok_list q1 q2 q3 m1.len)⟩
  | _ => exact False.elim h1
theorem snd_itl {a : C} (sa : Snd Γ g k N a) : Snd Γ g k N (.itl a) := by
  refine .ofI (fun _ _ => rfl) (fun _ _ => rfl) fun {sc t e st W X} h cx => ?_
  simp only [mI] at h
  exact PI.weak (pi_list (sa.e h cx)) fun σ H R hw => w_itl hw
theorem pairL_get {xs ys : List D} {i : Nat} {d : D} (h : (pairL xs ys)[i]? = some d) : ∃ x y, xs[i]? = some x ∧ ys[i]? = some y ∧ d = .tup [x, y] := by
  unfold pairL at h
  rw [List.getElem?_zipWith] at h
  cases q1 : xs[i]? with
  | none => rw [q1] at h; cases h
  | some x =>
    cases q2 : ys[i]? with
    | none => rw [q1, q2] at h; cases h
    | some y => rw [q1, q2] at h; cases h; exact ⟨x, y, rfl, rfl, rfl⟩
theorem pairL_length (xs ys : List D) : (pairL xs ys).length = min xs.length ys.length := by unfold pairL; rw [List.length_zipWith]
theorem enumL_get {xs : List D} {i n : Nat} {d : D} (h : (enumL n xs)[i]? = some d) : ∃ x, xs[i]? = some x ∧ d = .tup [.int ((n + i : Nat) : Int), x] := by
  induction xs generalizing i n with
  | nil => cases h
  | cons x xs ih =>
    cases i with
    | zero => simp only [enumL, List.getElem?_cons_zero, Option.some.injEq] at h; exact ⟨x, rfl, by rw [← h]; rfl⟩
    | succ i =>
      simp only [enumL, List.getElem?_cons_succ] at h
      obtain ⟨y, h1, h2⟩ := ih h
      exact ⟨y, h1, by rw [h2]; congr 4; omega⟩
theorem enumL_length : ∀ (n : Nat) (xs : List D), (enumL n xs).length = xs.length
  | _, [] => rfl
  | n, x :: xs => by simp only [enumL, List.length_cons, enumL_length (n + 1) xs]
end
end Den

/-! DenP0: the interpreter, form by form (printed by gen/eqs.py). -/
namespace Den
open PySem PySem.Spec PyProof.Rows L2
section
variable {g : G} {ρ : DEnv} {μ : Mem}
theorem ev_var {i : Nat} : evE g (.var i) ρ μ = match ρ[i]? with
      | some (some d) => .ok d μ
      | _ => .no := by first | rfl | (simp only [evE]; rfl) | simp only [evE]
theorem ev_num {i : Int} : evE g (.num i) ρ μ = .ok (.int i) μ := by first | rfl | (simp only [evE]; rfl) | simp only [evE]
theorem ev_txt {x : Str} : evE g (.txt x) ρ μ = .ok (.str x) μ := by first | rfl | (simp only [evE]; rfl) | simp only [evE]
theorem ev_bl {b : Bool} : evE g (.bl b) ρ μ = .ok (.bl b) μ := by first | rfl | (simp only [evE]; rfl) | simp only [evE]
theorem ev_non  : evE g (.non) ρ μ = .ok .non μ := by first | rfl | (simp only [evE]; rfl) | simp only [evE]
theorem ev_glo {x : Str} : evE g (.glo x) ρ μ = .ok (.glo x) μ := by first | rfl | (simp only [evE]; rfl) | simp only [evE]
theorem ev_con {x : Str} : evE g (.con x) ρ μ = match g.con x with
      | some d => .ok d μ
      | none => .no := by first | rfl | (simp only [evE]; rfl) | simp only [evE]
theorem ev_bin {op : Operator} {a : C} {b : C} : evE g (.bin op a b) ρ μ = (evE g a ρ μ).bind fun x μ1 => (evE g b ρ μ1).bind fun y μ2 => binD op x y μ2 := by first | rfl | (simp only [evE]; rfl) | simp only [evE]
theorem ev_neg {a : C} : evE g (.neg a) ρ μ = (evE g a ρ μ).bind fun x μ1 => match x with
      | .int i => .ok (.int (-i)) μ1
      | _ => .no := by first | rfl | (simp only [evE]; rfl) | simp only [evE]
theorem ev_not {a : C} : evE g (.not a) ρ μ = (evE g a ρ μ).bind fun x μ1 => (tru x μ1).bind fun b μ2 => .ok (.bl (!b)) μ2 := by first | rfl | (simp only [evE]; rfl) | simp only [evE]
theorem ev_one {a : C} : evE g (.one a) ρ μ = evE g a ρ μ := by first | rfl | (simp only [evE]; rfl) | simp only [evE]
theorem ev_and {a : C} {b : C} : evE g (.and a b) ρ μ = (evE g a ρ μ).bind fun x μ1 => (tru x μ1).bind fun t μ2 => if t then evE g b ρ μ2 else .ok x μ2 := by first | rfl | (simp only [evE]; rfl) | simp only [evE]
theorem ev_or {a : C} {b : C} : evE g (.or a b) ρ μ = (evE g a ρ μ).bind fun x μ1 => (tru x μ1).bind fun t μ2 => if t then .ok x μ2 else evE g b ρ μ2 := by first | rfl | (simp only [evE]; rfl) | simp only [evE]
theorem ev_cmp {op : CmpOp} {a : C} {b : C} : evE g (.cmp op a b) ρ μ = (evE g a ρ μ).bind fun x μ1 => (evE g b ρ μ1).bind fun y μ2 => (cmpD op x y μ2).bind fun t μ3 => .ok (.bl t) μ3 := by first | rfl | (simp only [evE]; rfl) | simp only [evE]
theorem ev_chn {op : CmpOp} {op' : CmpOp} {a : C} {b : C} {c : C} : evE g (.chn op op' a b c) ρ μ = (evE g a ρ μ).bind fun x μ1 => (evE g b ρ μ1).bind fun y μ2 => (cmpD op x y μ2).bind fun t μ3 =>
        if t then (evE g c ρ μ3).bind fun z μ4 => (cmpD op' y z μ4).bind fun t μ5 => .ok (.bl t) μ5 else .ok (.bl false) μ3 := by first | rfl | (simp only [evE]; rfl) | simp only [evE]
theorem ev_ite {t : C} {a : C} {b : C} : evE g (.ite t a b) ρ μ = (evE g t ρ μ).bind fun x μ1 => (tru x μ1).bind fun t μ2 => if t then evE g a ρ μ2 else evE g b ρ μ2 := by first | rfl | (simp only [evE]; rfl) | simp only [evE]
theorem ev_cal0 {f : Str} : evE g (.cal0 f) ρ μ = g.cal f [] μ := by first | rfl | (simp only [evE]; rfl) | simp only [evE]
theorem ev_cal {f : Str} {as : C} : evE g (.cal f as) ρ μ = (evE g as ρ μ).bind fun x μ1 => match x with
      | .tup ds => g.cal f ds μ1
      | _ => .no := by first | rfl | (simp only [evE]; rfl) | simp only [evE]
theorem ev_cav {i : Nat} {fs : List Str} {as : C} : evE g (.cav i fs as) ρ μ = match ρ[i]? with
      | some (some (.glo f)) => if fs.contains f then (evE g as ρ μ).bind fun x μ1 => match x with
        | .tup ds => g.cal f ds μ1
        | _ => .no
        else .no
      | _ => .no := by first | rfl | (simp only [evE]; rfl) | simp only [evE]
theorem ev_bif {b : Bf} {as : C} : evE g (.bif b as) ρ μ = (evE g as ρ μ).bind fun x μ1 => match x with
      | .tup ds => bifD b ds μ1
      | _ => .no := by first | rfl | (simp only [evE]; rfl) | simp only [evE]
theorem ev_isi {a : C} {t : Ty} : evE g (.isi a t) ρ μ = (evE g a ρ μ).bind fun x μ1 => match isTy t x with
      | some b => .ok (.bl b) μ1
      | none => .no := by first | rfl | (simp only [evE]; rfl) | simp only [evE]
theorem ev_nil  : evE g (.nil) ρ μ = .ok (.tup []) μ := by first | rfl | (simp only [evE]; rfl) | simp only [evE]
theorem ev_cons {a : C} {as : C} : evE g (.cons a as) ρ μ = (evE g a ρ μ).bind fun x μ1 => (evE g as ρ μ1).bind fun y μ2 => match y with
      | .tup ds => .ok (.tup (x :: ds)) μ2
      | _ => .no := by first | rfl | (simp only [evE]; rfl) | simp only [evE]
theorem ev_tup {as : C} : evE g (.tup as) ρ μ = (evE g as ρ μ).bind fun x μ1 => match x with
      | .tup ds => if fits ds.length then .ok (.tup ds) μ1 else .no
      | _ => .no := by first | rfl | (simp only [evE]; rfl) | simp only [evE]
theorem ev_lst {as : C} : evE g (.lst as) ρ μ = (evE g as ρ μ).bind fun x μ1 => match x with
      | .tup ds => if fits ds.length then .ok (.lst ds) μ1 else .no
      | _ => .no := by first | rfl | (simp only [evE]; rfl) | simp only [evE]
theorem ev_cel {as : C} : evE g (.cel as) ρ μ = (evE g as ρ μ).bind fun x μ1 => match x with
      | .tup ds => if fits ds.length then .ok (.cel μ1.length) (μ1 ++ [some (.lst ds)]) else .no
      | _ => .no := by first | rfl | (simp only [evE]; rfl) | simp only [evE]
theorem ev_idx {a : C} {b : C} : evE g (.idx a b) ρ μ = (evE g a ρ μ).bind fun x μ1 => (evE g b ρ μ1).bind fun y μ2 => idxD x y μ2 := by first | rfl | (simp only [evE]; rfl) | simp only [evE]
theorem ev_sli {a : C} {lo : C} {hi : C} : evE g (.sli a lo hi) ρ μ = (evE g a ρ μ).bind fun x μ1 => (evE g lo ρ μ1).bind fun l μ2 => match partD l with
      | some l => (evE g hi ρ μ2).bind fun h μ3 => match partD h with
        | some h => sliD x l h μ3
        | none => .no
      | none => .no := by first | rfl | (simp only [evE]; rfl) | simp only [evE]
theorem ev_nop  : evE g (.nop) ρ μ = .ok .non μ := by first | rfl | (simp only [evE]; rfl) | simp only [evE]
theorem ev_err {f : Str} {b : C} : evE g (.err f b) ρ μ = if g.dp then (match evE g.low b ρ μ with
      | .ok _ μ' => told (g.hnd f none) μ'
      | .er x μ' => told (g.hnd f (some x)) μ'
      | .no => .no) else .no := by first | rfl | (simp only [evE]; rfl) | simp only [evE]
theorem ev_isx {i : Nat} {x : Str} : evE g (.isx i x) ρ μ = match ρ[i]? with
      | some (some .exc) => match g.exn with
        | some e => match g.sub e.cls x with
          | some b => .ok (.bl b) μ
          | none => .no
        | none => .no
      | _ => .no := by first | rfl | (simp only [evE]; rfl) | simp only [evE]
theorem ev_joi {a : C} {b : C} : evE g (.joi a b) ρ μ = (evE g a ρ μ).bind fun x μ1 => match x with
      | .str z => (evE g b ρ μ1).bind fun y μ2 => joiD z y μ2
      | _ => .no := by first | rfl | (simp only [evE]; rfl) | simp only [evE]
theorem ev_rng1 {a : C} : evE g (.rng1 a) ρ μ = (evE g a ρ μ).bind fun x μ1 => match x with
      | .int j => if rngOk j then .ok (.tup (rngL 0 j)) μ1 else .no
      | _ => .no := by first | rfl | (simp only [evE]; rfl) | simp only [evE]
theorem ev_rng2 {a : C} {b : C} : evE g (.rng2 a b) ρ μ = (evE g a ρ μ).bind fun x μ1 => (evE g b ρ μ1).bind fun y μ2 => match x, y with
      | .int i, .int j => if rngOk i && rngOk j then .ok (.tup (rngL i j)) μ2 else .no
      | _, _ => .no := by first | rfl | (simp only [evE]; rfl) | simp only [evE]
theorem ev_itr {a : C} : evE g (.itr a) ρ μ = (evE g a ρ μ).bind fun x μ1 => match walkD x with
      | some xs => .ok (.tup xs) μ1
      | none => .no := by first | rfl | (simp only [evE]; rfl) | simp only [evE]
theorem ev_itl {a : C} : evE g (.itl a) ρ μ = (evE g a ρ μ).bind fun x μ1 => match x with
      | .lst xs => .ok (.tup xs) μ1
      | _ => .no := by first | rfl | (simp only [evE]; rfl) | simp only [evE]
theorem ev_zip {a : C} {b : C} : evE g (.zip a b) ρ μ = (evE g a ρ μ).bind fun x μ1 => (evE g b ρ μ1).bind fun y μ2 => match seqF x, seqF y with
      | some xs, some ys => .ok (.tup (pairL xs ys)) μ2
      | _, _ => .no := by first | rfl | (simp only [evE]; rfl) | simp only [evE]
theorem ev_zip3 {a : C} {b : C} {c : C} : evE g (.zip3 a b c) ρ μ = (evE g a ρ μ).bind fun x μ1 => (evE g b ρ μ1).bind fun y μ2 => (evE g c ρ μ2).bind fun z μ3 => match seqF x, seqF y, seqF z with
      | some xs, some ys, some zs => .ok (.tup (pairL3 xs ys zs)) μ3
      | _, _, _ => .no := by first | rfl | (simp only [evE]; rfl) | simp only [evE]
theorem ev_fld {o : C} {c : Str} {f : Str} : evE g (.fld o c f) ρ μ = (evE g o ρ μ).bind fun x μ1 => match fldOf μ1 x c f with
      | some d => .ok d μ1
      | none => .no := by first | rfl | (simp only [evE]; rfl) | simp only [evE]
theorem ev_mth0 {o : C} {c : Str} {m : Str} {n : Str} : evE g (.mth0 o c m n) ρ μ = (evE g o ρ μ).bind fun x μ1 => if isObj μ1 x c m then g.cal n [x] μ1 else .no := by first | rfl | (simp only [evE]; rfl) | simp only [evE]
theorem ev_mth {o : C} {c : Str} {m : Str} {n : Str} {as : C} : evE g (.mth o c m n as) ρ μ = (evE g o ρ μ).bind fun x μ1 => if isObj μ1 x c m then (evE g as ρ μ1).bind fun y μ2 => match y with
      | .tup ds => g.cal n (x :: ds) μ2
      | _ => .no
      else .no := by first | rfl | (simp only [evE]; rfl) | simp only [evE]
theorem ev_mk0 {c : Str} {n : Str} : evE g (.mk0 c n) ρ μ = if g.dp then (g.cal2 n [.cel μ.length] (μ ++ [some (.obj c [])])).bind fun d μ' => match d with
      | .non => .ok (.cel μ.length) μ'
      | _ => .no
      else .no := by first | rfl | (simp only [evE]; rfl) | simp only [evE]
theorem ev_pop0 {o : C} : evE g (.pop0 o) ρ μ = (evE g o ρ μ).bind fun x μ1 => popD x μ1 := by first | rfl | (simp only [evE]; rfl) | simp only [evE]
theorem ev_rev {a : C} : evE g (.rev a) ρ μ = (evE g a ρ μ).bind fun x μ1 => revD x μ1 := by first | rfl | (simp only [evE]; rfl) | simp only [evE]
theorem ev_rgl1 {kd : Nat} {a : C} : evE g (.rgl1 kd a) ρ μ = (evE g a ρ μ).bind fun x μ1 => match x with
      | .int j => rglD kd 0 j μ1
      | _ => .no := by first | rfl | (simp only [evE]; rfl) | simp only [evE]
theorem ev_rgl2 {kd : Nat} {a : C} {b : C} : evE g (.rgl2 kd a b) ρ μ = (evE g a ρ μ).bind fun x μ1 => (evE g b ρ μ1).bind fun y μ2 => match x, y with
      | .int i, .int j => rglD kd i j μ2
      | _, _ => .no := by first | rfl | (simp only [evE]; rfl) | simp only [evE]
theorem ev_lset {a : C} : evE g (.lset a) ρ μ = (evE g a ρ μ).bind fun x μ1 => lsetD x μ1 := by first | rfl | (simp only [evE]; rfl) | simp only [evE]
theorem ev_popi {o : C} {i : C} : evE g (.popi o i) ρ μ = (evE g o ρ μ).bind fun x μ1 => if isCel μ1 x then (evE g i ρ μ1).bind fun y μ2 => (match y with
      | .int k => popI x k μ2
      | _ => .no) else .no := by first | rfl | (simp only [evE]; rfl) | simp only [evE]
theorem ev_newb {op : Operator} {a : C} {b : C} : evE g (.newb op a b) ρ μ = (evE g a ρ μ).bind fun x μ1 => (evE g b ρ μ1).bind fun y μ2 => celR (binD op x y μ2) := by first | rfl | (simp only [evE]; rfl) | simp only [evE]
theorem ev_newl {a : C} : evE g (.newl a) ρ μ = (evE g a ρ μ).bind fun x μ1 => celR (bifD .list [x] μ1) := by first | rfl | (simp only [evE]; rfl) | simp only [evE]
theorem ev_enm {a : C} : evE g (.enm a) ρ μ = (evE g a ρ μ).bind fun x μ1 => match walkD x with
      | some xs => .ok (.tup (enumL 0 xs)) μ1
      | none => .no := by first | rfl | (simp only [evE]; rfl) | simp only [evE]
theorem ex_pass  : evS g (.pass) ρ μ = .ok (.nx ρ) μ := by first | rfl | (simp only [evS]; rfl) | simp only [evS]
theorem ex_nil  : evS g (.nil) ρ μ = .ok (.nx ρ) μ := by first | rfl | (simp only [evS]; rfl) | simp only [evS]
theorem ex_cons {a : S} {r : S} : evS g (.cons a r) ρ μ = (evS g a ρ μ).bind fun f μ' => match f with
      | .nx ρ' => evS g r ρ' μ'
      | f => .ok f μ' := by first | rfl | (simp only [evS]; rfl) | simp only [evS]
theorem ex_set {i : Nat} {e : C} : evS g (.set i e) ρ μ = (evE g e ρ μ).bind fun x μ1 => .ok (.nx (ρ.set i (some x))) μ1 := by first | rfl | (simp only [evS]; rfl) | simp only [evS]
theorem ex_tgt {tg : T} {e : C} : evS g (.tgt tg e) ρ μ = (evE g e ρ μ).bind fun x μ1 => match asg tg x ρ with
      | some ρ' => .ok (.nx ρ') μ1
      | none => .no := by first | rfl | (simp only [evS]; rfl) | simp only [evS]
theorem ex_par {i : Nat} {j : Nat} {a : C} {b : C} : evS g (.par i j a b) ρ μ = (evE g a ρ μ).bind fun x μ1 => (evE g b ρ μ1).bind fun y μ2 => .ok (.nx ((ρ.set i (some x)).set j (some y))) μ2 := by first | rfl | (simp only [evS]; rfl) | simp only [evS]
theorem ex_par3 {i : Nat} {j : Nat} {l : Nat} {a : C} {b : C} {c : C} : evS g (.par3 i j l a b c) ρ μ = (evE g a ρ μ).bind fun x μ1 => (evE g b ρ μ1).bind fun y μ2 => (evE g c ρ μ2).bind fun z μ3 => .ok (.nx (((ρ.set i (some x)).set j (some y)).set l (some z))) μ3 := by first | rfl | (simp only [evS]; rfl) | simp only [evS]
theorem ex_ife {t : C} {a : S} {b : S} : evS g (.ife t a b) ρ μ = (evT g t ρ μ).bind fun c μ1 => if c then evS g a ρ μ1 else evS g b ρ μ1 := by first | rfl | (simp only [evS]; rfl) | simp only [evS]
theorem ex_whl {t : C} {b : S} : evS g (.whl t b) ρ μ = whlL (fun ρ μ => evT g t ρ μ) (fun ρ μ => evS g b ρ μ) g.W ρ μ := by first | rfl | (simp only [evS]; rfl) | simp only [evS]
theorem ex_ret {e : C} : evS g (.ret e) ρ μ = (evE g e ρ μ).bind fun x μ1 => .ok (.rt x) μ1 := by first | rfl | (simp only [evS]; rfl) | simp only [evS]
theorem ex_retn  : evS g (.retn) ρ μ = .ok (.rt .non) μ := by first | rfl | (simp only [evS]; rfl) | simp only [evS]
theorem ex_exp {e : C} : evS g (.exp e) ρ μ = (evE g e ρ μ).bind fun _ μ1 => .ok (.nx ρ) μ1 := by first | rfl | (simp only [evS]; rfl) | simp only [evS]
theorem ex_brk  : evS g (.brk) ρ μ = .ok (.bk ρ) μ := by first | rfl | (simp only [evS]; rfl) | simp only [evS]
theorem ex_cnt  : evS g (.cnt) ρ μ = .ok (.ct ρ) μ := by first | rfl | (simp only [evS]; rfl) | simp only [evS]
theorem ex_rai {x : Str} : evS g (.rai x) ρ μ = .er ⟨x, []⟩ μ := by first | rfl | (simp only [evS]; rfl) | simp only [evS]
theorem ex_frz {i : Nat} : evS g (.frz i) ρ μ = match ρ[i]? with
      | some (some (.cel n)) => match μ[n]? with
        | some (some (.lst xs)) => .ok (.nx (ρ.set i (some (.lst xs)))) (μ.set n none)
        | _ => .no
      | _ => .no := by first | rfl | (simp only [evS]; rfl) | simp only [evS]
theorem ex_app {o : C} {e : C} : evS g (.app o e) ρ μ = (evE g o ρ μ).bind fun x μ1 => if isCel μ1 x then (evE g e ρ μ1).bind fun y μ2 => (appD x y μ2).bind fun _ μ3 => .ok (.nx ρ) μ3 else .no := by first | rfl | (simp only [evS]; rfl) | simp only [evS]
theorem ex_sub {o : C} {i : C} {e : C} : evS g (.sub o i e) ρ μ = (evE g e ρ μ).bind fun y μ1 => (evE g o ρ μ1).bind fun x μ2 => (evE g i ρ μ2).bind fun k μ3 => (subD x k y μ3).bind fun _ μ4 => .ok (.nx ρ) μ4 := by first | rfl | (simp only [evS]; rfl) | simp only [evS]
theorem ex_fset {o : C} {c : Str} {f : Str} {e : C} : evS g (.fset o c f e) ρ μ = (evE g e ρ μ).bind fun y μ1 => (evE g o ρ μ1).bind fun x μ2 => (fldD x c f y μ2).bind fun _ μ3 => .ok (.nx ρ) μ3 := by first | rfl | (simp only [evS]; rfl) | simp only [evS]
theorem ex_fs3 {i : Nat} {c : Str} {f1 : Str} {f2 : Str} {f3 : Str} {e : C} : evS g (.fs3 i c f1 f2 f3 e) ρ μ = (evE g e ρ μ).bind fun v μ1 => match v with
      | .tup [x, y, z] => match ρ[i]? with
        | some (some o) => (fldD o c f1 x μ1).bind fun _ μ4 => (fldD o c f2 y μ4).bind fun _ μ5 => (fldD o c f3 z μ5).bind fun _ μ6 => .ok (.nx ρ) μ6
        | _ => .no
      | _ => .no := by first | rfl | (simp only [evS]; rfl) | simp only [evS]
def forT (g : G) (tg : T) (b : S) : D → DEnv → Mem → R Fl := fun d ρ μ => match asg tg d ρ with
  | some ρ' => evS g b ρ' μ
  | none => .no
theorem ex_for {tg : T} {it : C} {b : S} : evS g (.for tg it b) ρ μ = (evE g it ρ μ).bind fun x μ1 => match x with
    | .tup items => forL (forT g tg b) items ρ μ1
    | _ => .no := by simp only [evS]; rfl
theorem ev_cmpn {own : List (Str × Nat)} {tg : T} {it cnd elt : C} : evE g (.cmpn own tg it cnd elt) ρ μ = (evE g it ρ μ).bind fun x μ1 => match x with
    | .tup items => (compL (turnT g tg cnd elt (wipeD ρ (own.map (·.2)))) items [] μ1).bind fun ys μ2 => .ok (.lst ys) μ2
    | _ => .no := by simp only [evE]; rfl
theorem ev_cmpc {own : List (Str × Nat)} {tg : T} {it cnd elt : C} : evE g (.cmpc own tg it cnd elt) ρ μ = (evE g it ρ μ).bind fun x μ1 => match x with
    | .tup items => (compL (turnT g tg cnd elt (wipeD ρ (own.map (·.2)))) items [] μ1).bind fun ys μ2 => celR (.ok (.lst ys) μ2)
    | _ => .no := by simp only [evE]; rfl
theorem ev_cmp2 {own : List (Str × Nat)} {tg : T} {it cnd : C} {tg1 : T} {it1 cnd1 elt : C} : evE g (.cmp2 own tg it cnd tg1 it1 cnd1 elt) ρ μ = (evE g it ρ μ).bind fun x μ1 => match x with
    | .tup items => (compM (turn2 g tg cnd tg1 it1 cnd1 elt (wipeD ρ (own.map (·.2)))) items [] μ1).bind fun ys μ2 => .ok (.lst ys) μ2
    | _ => .no := by simp only [evE]; rfl
theorem bind_as {α β γ : Type} (r : R α) (f : α → Mem → R β) (h : β → Mem → R γ) : (r.bind f).bind h = r.bind fun a m => (f a m).bind h := by cases r <;> rfl
theorem forT_nm {i : Nat} {b : S} {d : D} : forT g (.nm i) b d ρ μ = evS g b (ρ.set i (some d)) μ := rfl
theorem forT_2 {i j : Nat} {b : S} {d e : D} : forT g (.cons (.nm i) (.cons (.nm j) .nil)) b (.tup [d, e]) ρ μ = evS g b ((ρ.set i (some d)).set j (some e)) μ := rfl
theorem forT_3 {i j l : Nat} {b : S} {d e f : D} : forT g (.cons (.nm i) (.cons (.nm j) (.cons (.nm l) .nil))) b (.tup [d, e, f]) ρ μ = evS g b (((ρ.set i (some d)).set j (some e)).set l (some f)) μ := rfl
theorem turnT_nm {i : Nat} {cnd elt : C} {d : D} : turnT g (.nm i) cnd elt ρ d μ = turnD g cnd elt (ρ.set i (some d)) μ := rfl
theorem turnT_2 {i j : Nat} {cnd elt : C} {d e : D} : turnT g (.cons (.nm i) (.cons (.nm j) .nil)) cnd elt ρ (.tup [d, e]) μ = turnD g cnd elt ((ρ.set i (some d)).set j (some e)) μ := rfl
theorem turnT_3 {i j l : Nat} {cnd elt : C} {d e f : D} : turnT g (.cons (.nm i) (.cons (.nm j) (.cons (.nm l) .nil))) cnd elt ρ (.tup [d, e, f]) μ = turnD g cnd elt (((ρ.set i (some d)).set j (some e)).set l (some f)) μ := rfl
theorem turnD_nop {elt : C} : turnD g .nop elt ρ μ = (evE g elt ρ μ).bind fun y μ3 => .ok (some y) μ3 := rfl
end
end Den

/-! Den21: the interpreter, step by step. -/
namespace Den
open PySem PySem.Spec PyProof.Rows L2
section
variable {α β : Type} {μ : Mem} {g : G} {ρ : DEnv}
theorem bind_ok {a : α} {f : α → Mem → R β} : (R.ok a μ).bind f = f a μ := rfl
theorem bind_er {x : Exn} {f : α → Mem → R β} : (R.er x μ : R α).bind f = .er x μ := rfl
theorem bind_no {f : α → Mem → R β} : (R.no : R α).bind f = .no := rfl
theorem calm_ok {a : α} : (R.ok a μ).calm = .ok a μ := rfl
theorem b_add {i j : Int} : binD .Add (.int i) (.int j) μ = .ok (.int (i + j)) μ := rfl
theorem b_sub {i j : Int} : binD .Sub (.int i) (.int j) μ = .ok (.int (i - j)) μ := rfl
theorem b_mul {i j : Int} (h : mulOk i j = true) : binD .Mult (.int i) (.int j) μ = .ok (.int (i * j)) μ := by
  show (if mulOk i j then _ else _) = _
  rw [if_pos h]
theorem b_div {i j : Int} (h : j ≠ 0) (h2 : j.natAbs.log2 < 9000) : binD .FloorDiv (.int i) (.int j) μ = .ok (.int (i.fdiv j)) μ := by
  show (if decide (j ≠ 0) && decide (j.natAbs.log2 < 9000) then _ else _) = _
  rw [if_pos (by simp [h, h2])]
theorem b_mod {i j : Int} (h : j ≠ 0) : binD .Mod (.int i) (.int j) μ = .ok (.int (i.fmod j)) μ := by
  show (if j ≠ 0 then _ else _) = _
  rw [if_pos h]
theorem b_lst {xs ys : List D} (h : xs.length + ys.length ≤ 16777216) : binD .Add (.lst xs) (.lst ys) μ = .ok (.lst (xs ++ ys)) μ := by
  show (if fits (xs.length + ys.length) then _ else _) = _
  rw [if_pos (by simpa [fits] using h)]
theorem i_t0 {a : D} {l : List D} : idxD (.tup (a :: l)) (.int 0) μ = .ok a μ := by simp [idxD, asSeq, atI, ixN]
theorem i_t1 {a b : D} {l : List D} : idxD (.tup (a :: b :: l)) (.int 1) μ = .ok b μ := by
  have : (1 : Int) < (l.length : Int) + 1 + 1 := by omega
  simp [idxD, asSeq, atI, ixN, this]
theorem c_lt {i j : Int} : cmpD .Lt (.int i) (.int j) μ = .ok (decide (i < j)) μ := rfl
theorem c_le {i j : Int} : cmpD .LtE (.int i) (.int j) μ = .ok (decide (i ≤ j)) μ := rfl
theorem c_gt {i j : Int} : cmpD .Gt (.int i) (.int j) μ = .ok (decide (j < i)) μ := rfl
theorem c_ge {i j : Int} : cmpD .GtE (.int i) (.int j) μ = .ok (decide (j ≤ i)) μ := rfl
theorem c_eq {i j : Int} : cmpD .Eq (.int i) (.int j) μ = .ok (i == j) μ := by
  simp [cmpD, cmpB, eqD, pyM, D.py, SeqAt.shaped, PyData.eqv, PyData.canLay0, PyData.depth]
theorem c_ne {i j : Int} : cmpD .NotEq (.int i) (.int j) μ = .ok (!(i == j)) μ := by
  simp [cmpD, cmpB, eqD, pyM, D.py, SeqAt.shaped, PyData.eqv, PyData.canLay0, PyData.depth]
theorem t_bl {b : Bool} : tru (.bl b) μ = .ok b μ := rfl
theorem get0 {a : Option D} {l : DEnv} : (a :: l)[0]? = some a := rfl
theorem gets {a : Option D} {l : DEnv} {n : Nat} : (a :: l)[n + 1]? = l[n]? := rfl
end
end Den

/-! DenP1: what the helpers of all laws give, whatever the module. -/
namespace Den
open PySem PySem.Spec PyProof.Rows L2
section
variable {M : Md} {W : Nat} {μ : Mem}
theorem gcal (k : Nat) (f : Str) (ds : List D) (μ : Mem) : (gAt M W k).cal f ds μ = run M W k f ds μ := rfl
theorem gcon (k : Nat) (x : Str) : (gAt M W k).con x = M.con.lookup x := rfl
theorem bgcd {a b : Int} {μ : Mem} : bifD .gcd [.int a, .int b] μ = .ok (.int ((Nat.gcd a.natAbs b.natAbs : Nat) : Int)) μ := rfl
theorem babs {a : Int} : bifD .abs [.int a] μ = .ok (.int (if a < 0 then -a else a)) μ := rfl
theorem bint {a : Int} : bifD .int [.int a] μ = .ok (.int a) μ := rfl
theorem blen {xs : List D} : bifD .len [.lst xs] μ = .ok (.int xs.length) μ := rfl
theorem tlen {xs : List D} : bifD .len [.tup xs] μ = .ok (.int xs.length) μ := rfl
theorem p18 : binD .Pow (.int 10) (.int 18) μ = .ok (.int (10 ^ 18)) μ := rfl
theorem i_lst {xs : List D} {v : Int} (h0 : 0 ≤ v) (h : v.toNat < xs.length) : idxD (.lst xs) (.int v) μ = .ok xs[v.toNat] μ := by
  have h1 : v < (xs.length : Int) := by omega
  simp [idxD, asSeq, asLst, atI, ixN, h0, h1, List.getElem?_eq_getElem h]
theorem i_tup {xs : List D} {v : Int} (h0 : 0 ≤ v) (h : v.toNat < xs.length) : idxD (.tup xs) (.int v) μ = .ok xs[v.toNat] μ := by
  have h1 : v < (xs.length : Int) := by omega
  simp [idxD, asSeq, atI, ixN, h0, h1, List.getElem?_eq_getElem h]
end
/-- the list that all draws read and change, in front of all other things -/
def cupM (a b : Int) (r : Mem) : Mem := some (.lst [.int a, .int b]) :: r
section
variable {a b x : Int} {r : Mem}
theorem i_c0 : idxD (.cel 0) (.int 0) (cupM a b r) = .ok (.int a) (cupM a b r) := rfl
theorem i_c1 : idxD (.cel 0) (.int 1) (cupM a b r) = .ok (.int b) (cupM a b r) := rfl
theorem s_c0 : subD (.cel 0) (.int 0) (.int x) (cupM a b r) = .ok () (cupM x b r) := rfl
theorem s_c1 : subD (.cel 0) (.int 1) (.int x) (cupM a b r) = .ok () (cupM a x r) := rfl
theorem cupM_app {r' : Mem} : cupM a b r ++ r' = cupM a b (r ++ r') := rfl
end
local macro_rules | `(tactic| walk_at "go") => `(tactic| simp only [callM, runB, startD, ev_var, ev_num, ev_txt, ev_bl, ev_non, ev_glo, ev_con, ev_bin, ev_neg, ev_not, ev_one, ev_and, ev_or, ev_cmp, ev_chn, ev_ite, ev_cal0, ev_cal, ev_cav, ev_bif, ev_isi, ev_nil, ev_cons, ev_tup, ev_lst, ev_cel, ev_idx, ev_sli, ev_nop, ev_err, ev_isx, ev_joi, ev_rng1, ev_rng2, ev_itr, ev_itl, ev_zip, ev_zip3, ev_fld, ev_mth0, ev_mth, ev_mk0, ev_pop0, ev_enm, ex_pass, ex_nil, ex_cons, ex_set, ex_tgt, ex_par, ex_par3, ex_ife, ex_whl, ex_ret, ex_retn, ex_exp, ex_brk, ex_cnt, ex_rai, ex_frz, ex_app, ex_sub, ex_fset, ex_fs3, ex_for, evT, ev_cmpn, ev_cmp2, wipeD, gcal, gcon, bind_ok, bind_er, bind_no, calm_ok, b_add, b_sub, i_t0, i_t1, c_lt, c_le, c_gt, c_ge, c_eq, c_ne, t_bl, get0, gets, List.length_cons, List.length_nil, List.map_cons, List.map_nil, List.replicate, List.cons_append, List.nil_append, List.set_cons_zero, List.set_cons_succ, List.append_nil, if_true, if_false, Nat.reduceAdd, Nat.reduceSub, Nat.sub_self, Nat.zero_add, reduceIte, Bool.false_eq_true, bgcd, babs, bint, fits, Nat.reduceLeDiff, decide_true, decide_false, Bool.not_true, Bool.not_false, i_c0, i_c1, s_c0, s_c1, blen, tlen, p18, *])
local macro_rules | `(tactic| walk_at "run") => `(tactic| (rw [run_succ]; walk_at "go"))
/-! ### numbers -/
def Lt2 (e : Nat) (i : Int) : Prop := i.natAbs < 2 ^ e
theorem Lt2.mono {e f : Nat} {i : Int} (h : Lt2 e i) (l : e ≤ f) : Lt2 f i := Nat.lt_of_lt_of_le h (Nat.pow_le_pow_right (by decide) l)
theorem Lt2.mul {e f : Nat} {i j : Int} (h : Lt2 e i) (g : Lt2 f j) : Lt2 (e + f) (i * j) := by
  unfold Lt2 at *
  rw [Int.natAbs_mul, Nat.pow_add]
  exact Nat.mul_lt_mul'' h g
theorem Lt2.add {e : Nat} {i j : Int} (h : Lt2 e i) (g : Lt2 e j) : Lt2 (e + 1) (i + j) := by
  unfold Lt2 at *
  have := Int.natAbs_add_le i j
  rw [Nat.pow_succ]
  omega
theorem Lt2.neg {e : Nat} {i : Int} (h : Lt2 e i) : Lt2 e (-i) := by
  unfold Lt2 at *
  rwa [Int.natAbs_neg]
theorem Lt2.log {e : Nat} {i : Int} (h : Lt2 e i) : i.natAbs.log2 < e ∨ i.natAbs = 0 := by
  by_cases z : i.natAbs = 0
  · exact .inr z
  · exact .inl ((Nat.log2_lt z).mpr h)
theorem Lt2.log' {e : Nat} {i : Int} (h : Lt2 e i) (he : 0 < e) : i.natAbs.log2 < e := by
  rcases h.log with h | h
  · exact h
  · rw [h, Nat.log2_zero]; exact he
theorem mulOk_of {e f : Nat} {i j : Int} (h : Lt2 e i) (g : Lt2 f j) (he : 0 < e) (hf : 0 < f) (l : e + f < 1000000) : mulOk i j = true := by
  have a := h.log' he
  have b := g.log' hf
  unfold mulOk
  simp only [Bool.or_eq_true, decide_eq_true_eq]
  left; left
  omega
theorem mulOk_small {i j : Int} (h : -(2 ^ 64) < j) (g : j < 2 ^ 64) : mulOk i j = true := by
  unfold mulOk
  simp only [Bool.or_eq_true, Bool.and_eq_true, decide_eq_true_eq]
  exact .inr ⟨h, g⟩
theorem mulOk_smallL {i j : Int} (h : -(2 ^ 64) < i) (g : i < 2 ^ 64) : mulOk i j = true := by
  unfold mulOk
  simp only [Bool.or_eq_true, Bool.and_eq_true, decide_eq_true_eq]
  exact .inl (.inr ⟨h, g⟩)
theorem log2_small {j : Int} (h : -(2 ^ 64) < j) (g : j < 2 ^ 64) : j.natAbs.log2 < 9000 := by
  have : Lt2 64 j := by unfold Lt2; omega
  exact Nat.lt_of_lt_of_le (this.log' (by decide)) (by decide)
theorem fmod_in {a m : Int} (h : 0 < m) : 0 ≤ a.fmod m ∧ a.fmod m < m := by
  rw [Int.fmod_eq_emod_of_nonneg _ (by omega)]
  exact ⟨Int.emod_nonneg _ (by omega), Int.emod_lt_of_pos _ h⟩
theorem fdiv_nn {a m : Int} (h : 0 ≤ a) (g : 0 < m) : 0 ≤ a.fdiv m := by
  rw [Int.fdiv_eq_ediv_of_nonneg _ (by omega)]
  exact Int.ediv_nonneg h (by omega)
/-! ### the cup -/
def cupFn (p q r s t : Int) : Fn := ⟨"_law_cup", 1, 2, .cons (.set 1 (.bif .abs (.cons (.idx (.bin .Add (.bif .list (.cons (.var 0) .nil)) (.lst (.cons (.num 0) .nil))) (.num 0)) .nil)))
 (.cons (.ret (.cel (.cons (.ite (.cmp .GtE (.var 1) (.bin .Pow (.num 10) (.num 18))) (.bin .FloorDiv (.var 1) (.num p)) (.num 0)) (.cons (.bin .Add (.bin .Mod (.bif .int (.cons (.bin .Add (.bin .Mult (.var 1) (.num q)) (.num r)) .nil)) (.num s)) (.num t)) .nil)))) .nil)⟩
def rollFn (a b c d e f : Int) : Fn := ⟨"_law_roll", 2, 4, .cons (.ife (.cmp .Gt (.idx (.var 0) (.num 0)) (.num 0)) (.cons (.set 2 (.bin .Mod (.bif .int (.cons (.idx (.var 0) (.num 0)) .nil)) (.var 1)))
 (.cons (.sub (.var 0) (.num 0) (.bin .FloorDiv (.idx (.var 0) (.num 0)) (.var 1))) (.cons (.ret (.var 2)) .nil))) .nil)
 (.cons (.sub (.var 0) (.num 1) (.bin .Mod (.bif .int (.cons (.bin .Add (.bin .Mult (.idx (.var 0) (.num 1)) (.num a)) (.num b)) .nil)) (.num c)))
 (.cons (.set 3 (.bin .Mod (.bif .int (.cons (.bin .Mult (.idx (.var 0) (.num 1)) (.bin .Add (.idx (.var 0) (.num 1)) (.num d))) .nil)) (.num e)))
 (.cons (.ret (.bin .Mod (.bif .int (.cons (.bin .FloorDiv (.var 3) (.num f)) .nil)) (.var 1))) .nil)))⟩
def someFn : Fn := ⟨"_law_some", 2, 2, .cons (.ret (.idx (.var 1) (.cal "_law_roll" (.cons (.var 0) (.cons (.bif .len (.cons (.var 1) .nil)) .nil))))) .nil⟩
def rollOk (a c d e f : Int) : Bool := decide (0 ≤ a ∧ a < 2 ^ 60 ∧ 0 < c ∧ c < 2 ^ 60 ∧ 0 ≤ d ∧ d < 2 ^ 60 ∧ 0 < e ∧ 0 < f ∧ f < 2 ^ 60)
section
variable {M : Md} {W : Nat} {a b c d e f : Int}
theorem r_roll (hat : M.at_ "_law_roll" = some (rollFn a b c d e f)) (ok : rollOk a c d e f = true) (k : Nat) (x y : Int) (r : Mem) (m : Int) (hm : 0 < m) (lm : m.natAbs.log2 < 9000) :
    ∃ v x' y', 0 ≤ v ∧ v < m ∧ run M W (k + 1) "_law_roll" [.cel 0, .int m] (cupM x y r) = .ok (.int v) (cupM x' y' r) := by
  unfold rollOk at ok
  have ok := of_decide_eq_true ok
  obtain ⟨o1, o2, o3, o4, o5, o6, o7, o8, o9⟩ := ok
  unfold rollFn at hat
  have m0 : m ≠ 0 := by omega
  by_cases h : 0 < x
  · have e1 := @b_mod (cupM x y r) x m m0
    have e2 := @b_div (cupM x y r) x m m0 lm
    refine ⟨x.fmod m, x.fdiv m, y, (fmod_in hm).1, (fmod_in hm).2, ?_⟩
    clear hm lm m0 o1 o2 o3 o4 o5 o6 o7 o8 o9
    walk_at "run"
  · have e1 := @b_mul (cupM x y r) y a (mulOk_small (by omega) (by omega))
    have e2 := @b_mod (cupM x y r) (y * a + b) c (by omega)
    have q := fmod_in (a := y * a + b) (m := c) o3
    generalize (y * a + b).fmod c = y' at e2 q
    have e3 := @b_mul (cupM x y' r) y' (y' + d) (mulOk_small (by omega) (by omega))
    have e4 := @b_mod (cupM x y' r) (y' * (y' + d)) e (by omega)
    have e5 := @b_div (cupM x y' r) ((y' * (y' + d)).fmod e) f (by omega) (log2_small (by omega) (by omega))
    have e6 := @b_mod (cupM x y' r) (((y' * (y' + d)).fmod e).fdiv f) m m0
    refine ⟨(((y' * (y' + d)).fmod e).fdiv f).fmod m, x, y', (fmod_in hm).1, (fmod_in hm).2, ?_⟩
    clear hm lm m0 q o1 o2 o3 o4 o5 o6 o7 o8 o9
    walk_at "run"
theorem r_some (hr : M.at_ "_law_roll" = some (rollFn a b c d e f)) (ok : rollOk a c d e f = true) (hat : M.at_ "_law_some" = some someFn) (k : Nat) (x y : Int) (r : Mem) (xs : List D) (hx : 0 < xs.length) (hl : xs.length < 2 ^ 60) :
    ∃ (i : Nat) (x' y' : Int) (h : i < xs.length), run M W (k + 2) "_law_some" [.cel 0, .lst xs] (cupM x y r) = .ok xs[i] (cupM x' y' r) := by
  unfold someFn at hat
  obtain ⟨v, x', y', h0, h1, e1⟩ := r_roll (W := W) hr ok k x y r (xs.length : Int) (by omega) (log2_small (by omega) (by omega))
  have hv : v.toNat < xs.length := by omega
  refine ⟨v.toNat, x', y', hv, ?_⟩
  have e2 := @i_lst (cupM x' y' r) xs v h0 hv
  clear hx hl h0 h1 hr ok
  walk_at "run"
theorem r_someT (hr : M.at_ "_law_roll" = some (rollFn a b c d e f)) (ok : rollOk a c d e f = true) (hat : M.at_ "_law_some" = some someFn) (k : Nat) (x y : Int) (r : Mem) (xs : List D) (hx : 0 < xs.length) (hl : xs.length < 2 ^ 60) :
    ∃ (i : Nat) (x' y' : Int) (h : i < xs.length), run M W (k + 2) "_law_some" [.cel 0, .tup xs] (cupM x y r) = .ok xs[i] (cupM x' y' r) := by
  unfold someFn at hat
  obtain ⟨v, x', y', h0, h1, e1⟩ := r_roll (W := W) hr ok k x y r (xs.length : Int) (by omega) (log2_small (by omega) (by omega))
  have hv : v.toNat < xs.length := by omega
  refine ⟨v.toNat, x', y', hv, ?_⟩
  have e2 := @i_tup (cupM x' y' r) xs v h0 hv
  clear hx hl h0 h1 hr ok
  walk_at "run"
theorem r_lawcup {p q s t u : Int} (hat : M.at_ "_law_cup" = some (cupFn p q s t u)) (ok : decide (0 < p ∧ p < 2 ^ 60 ∧ 0 ≤ q ∧ q < 2 ^ 60 ∧ 0 < t) = true) (k : Nat) (ns : List Int) (hl : ns.length ≤ 63) :
    ∃ x y, run M W (k + 1) "_law_cup" [.fls (ns.map .int)] [] = .ok (.cel 0) (cupM x y []) := by
  have ok := of_decide_eq_true ok
  obtain ⟨o1, o2, o3, o4, o5⟩ := ok
  unfold cupFn at hat
  have e1 : bifD .list [.fls (ns.map .int)] [] = .ok (.lst (ns.map .int)) [] := rfl
  have e2 := @b_lst [] (ns.map .int) [.int 0] (by simp; omega)
  have e3 : ∃ x : Int, idxD (.lst (ns.map .int ++ [.int 0])) (.int 0) [] = .ok (.int x) [] := by
    cases ns with
    | nil => exact ⟨0, rfl⟩
    | cons n ns => exact ⟨n, by
        have := @i_lst [] (D.int n :: (ns.map .int ++ [.int 0])) 0 (by decide) (by simp)
        simpa using this⟩
  obtain ⟨x, e3⟩ := e3
  generalize hc : (if x < 0 then -x else x) = c
  have e5 := @b_mul [] c q (mulOk_small (by omega) (by omega))
  have e6 := @b_mod [] (c * q + s) t (by omega)
  have e7 := @b_div [] c p (by omega) (log2_small (by omega) (by omega))
  by_cases h : (10 : Int) ^ 18 ≤ c
  · refine ⟨c.fdiv p, (c * q + s).fmod t + u, ?_⟩
    clear hl o1 o2 o3 o4 o5
    walk_at "run"
    rfl
  · refine ⟨0, (c * q + s).fmod t + u, ?_⟩
    clear hl o1 o2 o3 o4 o5
    walk_at "run"
    rfl
end
/-! ### like -/
def sortFn : Fn := ⟨"_law_sort", 1, 1, .cons (.ife (.or (.cmp .Is (.var 0) (.non)) (.one (.isi (.var 0) .bool))) (.cons (.ret (.ite (.cmp .Is (.var 0) (.non)) (.num 0) (.num 1))) .nil) .nil)
 (.cons (.ife (.or (.isi (.var 0) .int) (.one (.isi (.var 0) .str))) (.cons (.ret (.ite (.isi (.var 0) .int) (.num 2) (.num 3))) .nil) .nil)
 (.cons (.ret (.ite (.isi (.var 0) .tuple) (.num 4) (.ite (.isi (.var 0) .list) (.num 5) (.num 6)))) .nil))⟩
def likeC : C := .not (.cal "_law_like" (.cons (.var 3) (.cons (.var 4) .nil)))
def likeFn : Fn := ⟨"_law_like", 2, 5, .cons (.set 2 (.cal "_law_sort" (.cons (.var 1) .nil)))
 (.cons (.ife (.or (.cmp .NotEq (.cal "_law_sort" (.cons (.var 0) .nil)) (.var 2)) (.one (.cmp .Eq (.var 2) (.num 6)))) (.cons (.ret (.bl false)) .nil) .nil)
 (.cons (.ife (.cmp .In (.var 2) (.tup (.cons (.num 4) (.cons (.num 5) .nil)))) (.cons (.ret (.and (.cmp .Eq (.bif .len (.cons (.var 0) .nil)) (.bif .len (.cons (.var 1) .nil))) (.one (.cmp .Eq (.cmpn [("first", 3), ("second", 4)] (.cons (.nm 3) (.cons (.nm 4) .nil)) (.zip (.var 0) (.var 1)) likeC (.num 1)) (.lst .nil))))) .nil) .nil)
 (.cons (.ret (.cmp .Eq (.var 0) (.var 1))) .nil)))⟩
/-- so deep at most, of numbers, texts, True and False, None, tuples and lists -/
def lkF : D → Bool
  | .str z => PyData.strOk z
  | d => flat d
def lkD : Nat → D → Bool
  | 0, d => lkF d
  | n + 1, d => match d with
    | .tup xs => xs.all (lkD n)
    | .lst xs => xs.all (lkD n)
    | d => lkF d
section
variable {M : Md} {W : Nat}
theorem sort_of (hat : M.at_ "_law_sort" = some sortFn) (k : Nat) (d : D) (μ : Mem) {i : Int} (h : (match d with | .non => i = 0 | .bl _ => i = 1 | .int _ => i = 2 | .str _ => i = 3 | .tup _ => i = 4 | .lst _ => i = 5 | _ => False)) : run M W (k + 1) "_law_sort" [d] μ = .ok (.int i) μ := by
  rw [run_succ]
  unfold callM
  rw [hat]
  cases d <;> first | (exact h.elim; done) | (cases h; rfl)
theorem like_comp (k : Nat) (x0 x1 x2 : Option D) (μ : Mem) : ∀ (xs : List D), (∀ x ∈ xs, run M W k "_law_like" [x, x] μ = .ok (.bl true) μ) →
    compL (turnT (gAt M W k) (.cons (.nm 3) (.cons (.nm 4) .nil)) likeC (.num 1) [x0, x1, x2, none, none]) (pairL xs xs) [] μ = .ok [] μ
  | [], _ => rfl
  | x :: xs, h => by
    have e : turnT (gAt M W k) (.cons (.nm 3) (.cons (.nm 4) .nil)) likeC (.num 1) [x0, x1, x2, none, none] (.tup [x, x]) μ = .ok none μ := by
      have h0 := h x List.mem_cons_self
      unfold turnT likeC
      simp only [asg, Option.bind_some, List.set_cons_zero, List.set_cons_succ, turnD, evE, get0, gets, bind_ok, gcal, h0, t_bl, Bool.not_true, Bool.false_eq_true, if_false]
    have ih := like_comp k x0 x1 x2 μ xs fun y hy => h y (List.mem_cons_of_mem _ hy)
    show (((turnT _ _ _ _ _ (.tup [x, x]) μ).calm).bind _) = _
    rw [e]
    exact ih
theorem in_n {i : Int} {b : Bool} {μ : Mem} (h : ((4 : Int) == i || (5 : Int) == i) = b) : cmpD .In (.int i) (.tup [.int 4, .int 5]) μ = .ok b μ := by
  show (match (if flat (.int i) && [D.int 4, .int 5].all flat then some ([D.int 4, .int 5].any fun z => eqF z (.int i)) else none : Option Bool) with | some b => R.ok b μ | none => .no) = _
  rw [if_pos (by rfl)]
  show R.ok ((4 : Int) == i || ((5 : Int) == i || false)) μ = _
  rw [Bool.or_false, h]
theorem eqbl {b : Bool} {μ : Mem} : cmpD .Eq (.bl b) (.bl b) μ = .ok true μ := by cases b <;> rfl
theorem eqnil {μ : Mem} : cmpD .Eq (.lst []) (.lst []) μ = .ok true μ := rfl
theorem eqstr {z : Str} {μ : Mem} (h : PyData.strOk z = true) : cmpD .Eq (.str z) (.str z) μ = .ok true μ := by
  simp [cmpD, cmpB, eqD, pyM, D.py, SeqAt.shaped, PyData.eqv, PyData.canLay0, PyData.depth, h]
theorem eqnon {μ : Mem} : cmpD .Eq .non .non μ = .ok true μ := rfl
/-- a thing is like itself -/
theorem r_like (hat : M.at_ "_law_like" = some likeFn) (hs : M.at_ "_law_sort" = some sortFn) (k : Nat) (μ : Mem) : ∀ (n : Nat) (d : D), lkD n d = true → run M W (k + n + 2) "_law_like" [d, d] μ = .ok (.bl true) μ := by
  have fl : ∀ (j : Nat) (d : D), lkF d = true → run M W (j + 2) "_law_like" [d, d] μ = .ok (.bl true) μ := fun j d h => by
    unfold likeFn at hat
    cases d <;> first | (cases h; done) | skip
    case non =>
      have e1 := sort_of (W := W) hs j .non μ (i := 0) rfl
      have e3 : ((0 : Int) == 0) = true := rfl
      have e4 : ((0 : Int) == 6) = false := rfl
      have e5 := @in_n 0 false μ rfl
      have e6 := @eqnon μ
      walk_at "run"
    case bl b =>
      have e1 := sort_of (W := W) hs j (.bl b) μ (i := 1) rfl
      have e3 : ((1 : Int) == 1) = true := rfl
      have e4 : ((1 : Int) == 6) = false := rfl
      have e5 := @in_n 1 false μ rfl
      have e6 := @eqbl b μ
      walk_at "run"
    case int i =>
      have e1 := sort_of (W := W) hs j (.int i) μ (i := 2) rfl
      have e2 : (i == i) = true := by simp
      have e3 : ((2 : Int) == 2) = true := rfl
      have e4 : ((2 : Int) == 6) = false := rfl
      have e5 := @in_n 2 false μ rfl
      walk_at "run"
    case str z =>
      have e1 := sort_of (W := W) hs j (.str z) μ (i := 3) rfl
      have e3 : ((3 : Int) == 3) = true := rfl
      have e4 : ((3 : Int) == 6) = false := rfl
      have e5 := @in_n 3 false μ rfl
      have e6 := @eqstr z μ h
      walk_at "run"
  intro n
  induction n with
  | zero => exact fun d h => fl k d h
  | succ n ih =>
    intro d h
    have seq : ∀ xs : List D, xs.all (lkD n) = true → ∀ x0 x1 x2, compL (turnT (gAt M W (k + n + 2)) (.cons (.nm 3) (.cons (.nm 4) .nil)) likeC (.num 1) [x0, x1, x2, none, none]) (pairL xs xs) [] μ = .ok [] μ := fun xs hx x0 x1 x2 =>
      like_comp (k + n + 2) x0 x1 x2 μ xs fun x hm => ih x (List.all_eq_true.mp hx x hm)
    cases d with
    | tup xs =>
      have hc := seq xs h
      have e2 : ((xs.length : Int) == (xs.length : Int)) = true := by simp
      have e6 := @eqnil μ
      unfold likeFn at hat
      simp only [likeC] at hc hat
      have e1 := sort_of (W := W) hs (k + n + 1) (.tup xs) μ (i := 4) rfl
      have e3 : ((4 : Int) == 4) = true := rfl
      have e4 : ((4 : Int) == 6) = false := rfl
      have e5 := @in_n 4 true μ rfl
      rw [show k + (n + 1) + 2 = (k + n + 2) + 1 from by omega, run_succ]
      simp only [callM, hat, runB, startD, evS, evT, ev_cmpn, ev_var, ev_num, ev_txt, ev_bl, ev_non, ev_glo, ev_con, ev_bin, ev_neg, ev_not, ev_one, ev_and, ev_or, ev_cmp, ev_chn, ev_ite, ev_cal0, ev_cal, ev_cav, ev_bif, ev_isi, ev_nil, ev_cons, ev_tup, ev_lst, ev_cel, ev_idx, ev_sli, ev_nop, ev_err, ev_isx, ev_joi, ev_rng1, ev_rng2, ev_itr, ev_itl, ev_zip, ev_zip3, ev_enm, ex_pass, ex_nil, ex_cons, ex_set, ex_tgt, ex_par, ex_par3, ex_ife, ex_whl, ex_ret, ex_retn, ex_exp, ex_brk, ex_cnt, ex_rai, ex_frz, ex_app, ex_sub, gcal, bind_ok, get0, gets, List.length_cons, List.length_nil, List.map_cons, List.map_nil, List.replicate, List.cons_append, List.nil_append, List.set_cons_zero, List.set_cons_succ, List.append_nil, if_true, if_false, Nat.reduceAdd, Nat.reduceSub, e1, e2, e3, e4, e5, e6, tlen, seqF, c_eq, c_ne, t_bl, Bool.not_true, Bool.false_eq_true, wipeD, fits, Nat.reduceLeDiff, decide_true, hc]
    | lst xs =>
      have hc := seq xs h
      have e2 : ((xs.length : Int) == (xs.length : Int)) = true := by simp
      have e6 := @eqnil μ
      unfold likeFn at hat
      simp only [likeC] at hc hat
      have e1 := sort_of (W := W) hs (k + n + 1) (.lst xs) μ (i := 5) rfl
      have e3 : ((5 : Int) == 5) = true := rfl
      have e4 : ((5 : Int) == 6) = false := rfl
      have e5 := @in_n 5 true μ rfl
      rw [show k + (n + 1) + 2 = (k + n + 2) + 1 from by omega, run_succ]
      simp only [callM, hat, runB, startD, evS, evT, ev_cmpn, ev_var, ev_num, ev_txt, ev_bl, ev_non, ev_glo, ev_con, ev_bin, ev_neg, ev_not, ev_one, ev_and, ev_or, ev_cmp, ev_chn, ev_ite, ev_cal0, ev_cal, ev_cav, ev_bif, ev_isi, ev_nil, ev_cons, ev_tup, ev_lst, ev_cel, ev_idx, ev_sli, ev_nop, ev_err, ev_isx, ev_joi, ev_rng1, ev_rng2, ev_itr, ev_itl, ev_zip, ev_zip3, ev_enm, ex_pass, ex_nil, ex_cons, ex_set, ex_tgt, ex_par, ex_par3, ex_ife, ex_whl, ex_ret, ex_retn, ex_exp, ex_brk, ex_cnt, ex_rai, ex_frz, ex_app, ex_sub, gcal, bind_ok, get0, gets, List.length_cons, List.length_nil, List.map_cons, List.map_nil, List.replicate, List.cons_append, List.nil_append, List.set_cons_zero, List.set_cons_succ, List.append_nil, if_true, if_false, Nat.reduceAdd, Nat.reduceSub, e1, e2, e3, e4, e5, e6, blen, seqF, c_eq, c_ne, t_bl, Bool.not_true, Bool.false_eq_true, wipeD, fits, Nat.reduceLeDiff, decide_true, hc]
    | _ => exact fl (k + (n + 1)) _ h
end
end Den

/-! DenP2: comprehensions and loops over lists of numbers; the tests of numbers. -/
namespace Den
open PySem PySem.Spec PyProof.Rows L2
section
variable {μ : Mem}
theorem comp_fm {turn : D → Mem → R (Option D)} (h : D → Option D) : ∀ {xs acc : List D}, (∀ d ∈ xs, turn d μ = .ok (h d) μ) → acc.length + xs.length ≤ 16777216 → compL turn xs acc μ = .ok (acc ++ xs.filterMap h) μ
  | [], acc, _, _ => by simp [compL]
  | d :: ds, acc, ht, hl => by
    have e := ht d List.mem_cons_self
    simp only [List.length_cons] at hl
    simp only [compL, e, calm_ok, bind_ok]
    cases q : h d with
    | none =>
      simp only [List.filterMap_cons, q]
      exact comp_fm h (fun x hx => ht x (List.mem_cons_of_mem _ hx)) (by omega)
    | some y =>
      simp only [List.filterMap_cons, q]
      rw [if_pos (by simp; omega), comp_fm h (fun x hx => ht x (List.mem_cons_of_mem _ hx)) (by simp; omega)]
      simp
theorem fm_some (f : D → D) : ∀ xs : List D, xs.filterMap (fun d => some (f d)) = xs.map f
  | [] => rfl
  | x :: xs => by simp [fm_some f xs]
theorem comp_map {turn : D → Mem → R (Option D)} (f : D → D) {xs acc : List D} (ht : ∀ d ∈ xs, turn d μ = .ok (some (f d)) μ) (hl : acc.length + xs.length ≤ 16777216) : compL turn xs acc μ = .ok (acc ++ xs.map f) μ := by
  rw [comp_fm (fun d => some (f d)) ht hl, fm_some]
theorem comp_inv {turn : D → Mem → R (Option D)} {I : Mem → Prop} {Q : D → Prop} : ∀ {xs acc : List D} {μ : Mem}, (∀ d ∈ xs, ∀ μ, I μ → ∃ y μ', I μ' ∧ Q y ∧ turn d μ = .ok (some y) μ') → acc.length + xs.length ≤ 16777216 → I μ →
    ∃ ys μ', I μ' ∧ ys.length = xs.length ∧ (∀ y ∈ ys, Q y) ∧ compL turn xs acc μ = .ok (acc ++ ys) μ'
  | [], acc, μ, _, _, hI => ⟨[], μ, hI, rfl, (fun _ h => nomatch h), by simp [compL]⟩
  | d :: ds, acc, μ, ht, hl, hI => by
    obtain ⟨y, μ1, h1, q1, e⟩ := ht d List.mem_cons_self μ hI
    simp only [List.length_cons] at hl
    obtain ⟨ys, μ2, h2, l2, q2, e2⟩ := comp_inv (acc := acc ++ [y]) (fun x hx => ht x (List.mem_cons_of_mem _ hx)) (by simp; omega) h1
    refine ⟨y :: ys, μ2, h2, by simp [l2], fun z hz => ?_, ?_⟩
    · rcases List.mem_cons.mp hz with rfl | hz
      · exact q1
      · exact q2 z hz
    · simp only [compL, e, calm_ok, bind_ok]
      rw [if_pos (by simp; omega), e2]
      simp
theorem compM_map {turn : D → List D → Mem → R (List D)} (h : D → List D) : ∀ {xs acc : List D}, (∀ d ∈ xs, ∀ acc : List D, acc.length + (h d).length ≤ 16777216 → turn d acc μ = .ok (acc ++ h d) μ) → acc.length + (xs.flatMap h).length ≤ 16777216 → compM turn xs acc μ = .ok (acc ++ xs.flatMap h) μ
  | [], acc, _, _ => by simp [compM]
  | d :: ds, acc, ht, hl => by
    simp only [List.flatMap_cons, List.length_append] at hl
    have e := ht d List.mem_cons_self acc (by omega)
    simp only [compM, e, bind_ok]
    rw [compM_map h (fun x hx => ht x (List.mem_cons_of_mem _ hx)) (by rw [List.length_append]; omega)]
    simp
theorem for_inv {turn : D → DEnv → Mem → R Fl} {I : Nat → DEnv → Mem → Prop} : ∀ {xs : List D} {n : Nat} {ρ : DEnv} {μ : Mem}, (∀ i d ρ μ, xs[i]? = some d → I (n + i) ρ μ → ∃ ρ' μ', I (n + i + 1) ρ' μ' ∧ turn d ρ μ = .ok (.nx ρ') μ') → I n ρ μ →
    ∃ ρ' μ', I (n + xs.length) ρ' μ' ∧ forL turn xs ρ μ = .ok (.nx ρ') μ'
  | [], n, ρ, μ, _, hI => ⟨ρ, μ, hI, rfl⟩
  | d :: ds, n, ρ, μ, ht, hI => by
    obtain ⟨ρ1, μ1, h1, e⟩ := ht 0 d ρ μ rfl hI
    obtain ⟨ρ2, μ2, h2, e2⟩ := for_inv (n := n + 1) (xs := ds) (fun i x ρ μ hx hi => by
      have := ht (i + 1) x ρ μ (by simpa using hx)
      rw [show n + (i + 1) = n + 1 + i from by omega] at this
      exact this hi) h1
    refine ⟨ρ2, μ2, ?_, by simp only [forL, e, bind_ok, e2]⟩
    rw [List.length_cons, show n + (ds.length + 1) = n + 1 + ds.length from by omega]
    exact h2
end
/-! ### lists of numbers -/
def il (xs : List Int) : List D := xs.map D.int
theorem il_length (xs : List Int) : (il xs).length = xs.length := List.length_map _
theorem il_get {xs : List Int} {i : Nat} (h : i < xs.length) : (il xs)[i]'(by rw [il_length]; exact h) = .int xs[i] := List.getElem_map _
theorem il_of : ∀ {ys : List D} {P : Int → Prop}, (∀ y ∈ ys, ∃ i, y = D.int i ∧ P i) → ∃ xs : List Int, ys = il xs ∧ (∀ x ∈ xs, P x)
  | [], P, _ => ⟨[], rfl, (fun _ h => nomatch h)⟩
  | y :: ys, P, h => by
    obtain ⟨i, rfl, hi⟩ := h y List.mem_cons_self
    obtain ⟨xs, rfl, hx⟩ := il_of (P := P) fun z hz => h z (List.mem_cons_of_mem _ hz)
    refine ⟨i :: xs, rfl, fun z hz => ?_⟩
    rcases List.mem_cons.mp hz with rfl | hz
    · exact hi
    · exact hx z hz
theorem pair_il : ∀ (xs ys : List Int), pairL (il xs) (il ys) = (xs.zip ys).map fun p => D.tup [.int p.1, .int p.2]
  | [], ys => by simp [pairL, il]
  | x :: xs, [] => by simp [pairL, il]
  | x :: xs, y :: ys => by
    have := pair_il xs ys
    simp only [pairL, il, List.map_cons, List.zipWith_cons_cons, List.zip_cons_cons] at this ⊢
    rw [this]
theorem pair3_il : ∀ (xs ys zs : List Int), pairL3 (il xs) (il ys) (il zs) = (xs.zip (ys.zip zs)).map fun p => D.tup [.int p.1, .int p.2.1, .int p.2.2]
  | [], ys, zs => by simp [pairL3, il]
  | x :: xs, [], zs => by simp [pairL3, il]
  | x :: xs, y :: ys, [] => by simp [pairL3, il]
  | x :: xs, y :: ys, z :: zs => by
    have := pair3_il xs ys zs
    simp only [il, List.map_cons, List.zip_cons_cons, pairL3] at this ⊢
    rw [this]
theorem enum_il : ∀ (n : Nat) (xs : List Int), enumL n (il xs) = (xs.zipIdx n).map fun p => D.tup [.int (p.2 : Nat), .int p.1]
  | n, [] => rfl
  | n, x :: xs => by
    have := enum_il (n + 1) xs
    simp only [il, List.map_cons, enumL, List.zipIdx_cons] at this ⊢
    rw [this]
theorem intsOf_il : ∀ xs : List Int, intsOf (il xs) = some xs
  | [] => rfl
  | x :: xs => by
    have := intsOf_il xs
    simp only [il, List.map_cons, intsOf] at this ⊢
    rw [this]
    rfl
theorem blsOf_map {α : Type} (f : α → Bool) : ∀ xs : List α, blsOf (xs.map fun x => D.bl (f x)) = some (xs.map f)
  | [] => rfl
  | x :: xs => by
    have := blsOf_map f xs
    simp only [List.map_cons, blsOf] at this ⊢
    rw [this]
    rfl
section
variable {μ : Mem}
theorem ball {α : Type} (f : α → Bool) (xs : List α) : bifD .all [.lst (xs.map fun x => D.bl (f x))] μ = .ok (.bl (xs.all f)) μ := by
  show (match asLst μ (.lst (xs.map fun x => D.bl (f x))) with
    | some xs => (match blsOf xs with
      | some bs => R.ok (D.bl (bs.all id)) μ
      | none => .no)
    | none => .no) = _
  simp only [asLst, blsOf_map, List.all_map]
  rfl
theorem bany {α : Type} (f : α → Bool) (xs : List α) : bifD .any [.lst (xs.map fun x => D.bl (f x))] μ = .ok (.bl (xs.any f)) μ := by
  show (match asLst μ (.lst (xs.map fun x => D.bl (f x))) with
    | some xs => (match blsOf xs with
      | some bs => R.ok (D.bl (bs.any id)) μ
      | none => .no)
    | none => .no) = _
  simp only [asLst, blsOf_map, List.any_map]
  rfl
theorem btup {xs : List D} : bifD .tuple [.lst xs] μ = .ok (.tup xs) μ := rfl
theorem btupT {xs : List D} : bifD .tuple [.tup xs] μ = .ok (.tup xs) μ := rfl
theorem blst {xs : List D} : bifD .list [.tup xs] μ = .ok (.lst xs) μ := rfl
theorem blstL {xs : List D} : bifD .list [.lst xs] μ = .ok (.lst xs) μ := rfl
theorem bsum (xs : List Int) : bifD .sum [.lst (il xs)] μ = .ok (.int xs.sum) μ := by
  show (match asLst μ (.lst (il xs)) with
    | some xs => (match intsOf xs with
      | some ns => R.ok (D.int ns.sum) μ
      | none => .no)
    | none => .no) = _
  simp only [asLst, intsOf_il]
end
/-! ### tests of values -/
def is_wholeFn : Fn := ⟨"is_whole", 3, 3, .cons (.ret (.and (.isi (.var 0) .int) (.and (.not (.isi (.var 0) .bool)) (.one (.chn .LtE .LtE (.var 1) (.var 0) (.var 2)))))) .nil⟩
def is_tuple_ofFn : Fn := ⟨"is_tuple_of", 3, 3, .cons (.ret (.and (.isi (.var 0) .tuple) (.one (.chn .LtE .LtE (.var 1) (.bif .len (.cons (.var 0) .nil)) (.var 2))))) .nil⟩
def are_wholesFn : Fn := ⟨"are_wholes", 4, 5, .cons (.ret (.and (.cal "is_tuple_of" (.cons (.var 0) (.cons (.var 1) (.cons (.var 1) .nil)))) (.one (.bif .all (.cons (.cmpn [("one", 4)] (.nm 4) (.itr (.var 0)) .nop (.cal "is_whole" (.cons (.var 4) (.cons (.var 2) (.cons (.var 3) .nil))))) .nil))))) .nil⟩
def need_wholeFn : Fn := ⟨"need_whole", 3, 3, .cons (.ife (.not (.cal "is_whole" (.cons (.var 0) (.cons (.var 1) (.cons (.var 2) .nil))))) (.cons (.rai "InvalidNumber") .nil) .nil) .nil⟩
section
variable {M : Md} {W : Nat} {μ : Mem}
local macro_rules | `(tactic| walk_at "go") => `(tactic| simp only [callM, runB, startD, ev_var, ev_num, ev_txt, ev_bl, ev_non, ev_glo, ev_con, ev_bin, ev_neg, ev_not, ev_one, ev_and, ev_or, ev_cmp, ev_chn, ev_ite, ev_cal0, ev_cal, ev_cav, ev_bif, ev_isi, ev_nil, ev_cons, ev_tup, ev_lst, ev_cel, ev_idx, ev_sli, ev_nop, ev_err, ev_isx, ev_joi, ev_rng1, ev_rng2, ev_itr, ev_itl, ev_zip, ev_zip3, ev_fld, ev_mth0, ev_mth, ev_mk0, ev_pop0, ev_enm, ex_pass, ex_nil, ex_cons, ex_set, ex_tgt, ex_par, ex_par3, ex_ife, ex_whl, ex_ret, ex_retn, ex_exp, ex_brk, ex_cnt, ex_rai, ex_frz, ex_app, ex_sub, ex_fset, ex_fs3, ex_for, evT, ev_cmpn, ev_cmp2, wipeD, gcal, gcon, bind_ok, bind_er, bind_no, calm_ok, b_add, b_sub, i_t0, i_t1, c_lt, c_le, c_gt, c_ge, c_eq, c_ne, t_bl, get0, gets, List.length_cons, List.length_nil, List.map_cons, List.map_nil, List.replicate, List.cons_append, List.nil_append, List.set_cons_zero, List.set_cons_succ, List.append_nil, if_true, if_false, Nat.reduceAdd, Nat.reduceSub, Nat.sub_self, Nat.zero_add, reduceIte, Bool.false_eq_true, bgcd, babs, bint, fits, Nat.reduceLeDiff, decide_true, decide_false, Bool.not_true, Bool.not_false, i_c0, i_c1, s_c0, s_c1, blen, tlen, p18, *])
local macro_rules | `(tactic| walk_at "run") => `(tactic| (rw [run_succ]; walk_at "go"))

theorem isI {i : Int} : isTy .int (.int i) = some true := rfl
theorem isB {i : Int} : isTy .bool (.int i) = some false := rfl
theorem isT {xs : List D} : isTy .tuple (.tup xs) = some true := rfl
theorem r_is_whole (hat : M.at_ "is_whole" = some is_wholeFn) (k : Nat) (μ : Mem) (v lo hi : Int) : run M W (k + 1) "is_whole" [.int v, .int lo, .int hi] μ = .ok (.bl (decide (lo ≤ v) && decide (v ≤ hi))) μ := by
  unfold is_wholeFn at hat
  have e1 := @isI v
  have e2 := @isB v
  by_cases h : lo ≤ v
  · walk_at "run"
    simp
  · walk_at "run"
    simp
theorem r_need_whole (hn : M.at_ "need_whole" = some need_wholeFn) (hat : M.at_ "is_whole" = some is_wholeFn) (k : Nat) (μ : Mem) (v lo hi : Int) (h1 : lo ≤ v) (h2 : v ≤ hi) : run M W (k + 2) "need_whole" [.int v, .int lo, .int hi] μ = .ok .non μ := by
  have e1 := r_is_whole (W := W) hat k μ v lo hi
  have e2 : (decide (lo ≤ v) && decide (v ≤ hi)) = true := by simp [h1, h2]
  rw [e2] at e1
  unfold need_wholeFn at hn
  clear hat h1 h2 e2
  walk_at "run"
theorem r_need_whole_no (hn : M.at_ "need_whole" = some need_wholeFn) (hat : M.at_ "is_whole" = some is_wholeFn) (k : Nat) (μ : Mem) (v lo hi : Int) (h : ¬ (lo ≤ v ∧ v ≤ hi)) : run M W (k + 2) "need_whole" [.int v, .int lo, .int hi] μ = .er ⟨"InvalidNumber", []⟩ μ := by
  have e1 := r_is_whole (W := W) hat k μ v lo hi
  have e2 : (decide (lo ≤ v) && decide (v ≤ hi)) = false := by
    simp only [Bool.and_eq_false_iff, decide_eq_false_iff_not]
    omega
  rw [e2] at e1
  unfold need_wholeFn at hn
  clear hat h e2
  walk_at "run"
theorem r_is_tuple (hat : M.at_ "is_tuple_of" = some is_tuple_ofFn) (k : Nat) (μ : Mem) (xs : List D) (lo hi : Int) : run M W (k + 1) "is_tuple_of" [.tup xs, .int lo, .int hi] μ = .ok (.bl (decide (lo ≤ (xs.length : Int)) && decide ((xs.length : Int) ≤ hi))) μ := by
  unfold is_tuple_ofFn at hat
  have e1 := @isT xs
  by_cases h : lo ≤ (xs.length : Int)
  · walk_at "run"
    simp
  · walk_at "run"
    simp
theorem r_are_wholes (ha : M.at_ "are_wholes" = some are_wholesFn) (ht : M.at_ "is_tuple_of" = some is_tuple_ofFn) (hat : M.at_ "is_whole" = some is_wholeFn) (k : Nat) (μ : Mem) (xs : List Int) (n lo hi : Int) (hl : xs.length ≤ 16777216) (hn : n = (xs.length : Int)) :
    run M W (k + 2) "are_wholes" [.tup (il xs), .int n, .int lo, .int hi] μ = .ok (.bl (xs.all fun v => decide (lo ≤ v) && decide (v ≤ hi))) μ := by
  subst hn
  have e1 := r_is_tuple (W := W) ht k μ (il xs) (xs.length : Int) (xs.length : Int)
  have e2 : (decide ((xs.length : Int) ≤ ((il xs).length : Int)) && decide (((il xs).length : Int) ≤ (xs.length : Int))) = true := by rw [il_length]; simp
  rw [e2] at e1
  have e3 : ∀ x0 x1 : Option D, compL (turnT (gAt M W (k + 1)) (.nm 4) .nop (.cal "is_whole" (.cons (.var 4) (.cons (.var 2) (.cons (.var 3) .nil)))) [x0, x1, some (.int lo), some (.int hi), none]) (il xs) [] μ = .ok (xs.map fun v => D.bl (decide (lo ≤ v) && decide (v ≤ hi))) μ := fun x0 x1 => by
    have := comp_map (μ := μ) (turn := turnT (gAt M W (k + 1)) (.nm 4) .nop (.cal "is_whole" (.cons (.var 4) (.cons (.var 2) (.cons (.var 3) .nil)))) [x0, x1, some (.int lo), some (.int hi), none]) (fun d => match d with | .int v => D.bl (decide (lo ≤ v) && decide (v ≤ hi)) | d => d) (xs := il xs) (acc := []) (fun d hd => by
      obtain ⟨v, hv, rfl⟩ := List.mem_map.mp hd
      have e := r_is_whole (W := W) hat k μ v lo hi
      rw [turnT_nm, turnD_nop]
      walk_at "go") (by simp [il_length]; exact hl)
    rw [this]
    simp [il]
  have e4 := ball (μ := μ) (fun v => decide (lo ≤ v) && decide (v ≤ hi)) xs
  unfold are_wholesFn at ha
  have e5 : walkD (.tup (il xs)) = some (il xs) := rfl
  clear e2 hl
  walk_at "run"
end
end Den

/-! DenP3: rows made of one list; lists of numbers compared. -/
namespace Den
open PySem PySem.Spec PyProof.Rows L2
section
variable {α : Type} {μ : Mem}
theorem pairL_m (F G : α → D) : ∀ ps : List α, pairL (ps.map F) (ps.map G) = ps.map fun p => D.tup [F p, G p]
  | [] => rfl
  | p :: ps => by
    have := pairL_m F G ps
    simp only [pairL, List.map_cons, List.zipWith_cons_cons] at this ⊢
    rw [this]
theorem pairL3_m (F G K : α → D) : ∀ ps : List α, pairL3 (ps.map F) (ps.map G) (ps.map K) = ps.map fun p => D.tup [F p, G p, K p]
  | [] => rfl
  | p :: ps => by
    simp only [pairL3, List.map_cons, pairL3_m F G K ps]
theorem enumL_m (F : α → D) : ∀ (n : Nat) (ps : List α), enumL n (ps.map F) = (ps.zipIdx n).map fun q => D.tup [.int (q.2 : Nat), F q.1]
  | n, [] => rfl
  | n, p :: ps => by simp only [enumL, List.map_cons, List.zipIdx_cons, enumL_m F (n + 1) ps]
theorem comp_fmm {turn : D → Mem → R (Option D)} (G : α → D) (h : α → Option D) {ps : List α} {acc : List D} (ht : ∀ p ∈ ps, turn (G p) μ = .ok (h p) μ) (hl : acc.length + ps.length ≤ 16777216) : compL turn (ps.map G) acc μ = .ok (acc ++ ps.filterMap h) μ := by
  induction ps generalizing acc with
  | nil => simp [compL]
  | cons p ps ih =>
    have e := ht p List.mem_cons_self
    simp only [List.length_cons] at hl
    simp only [List.map_cons, compL, e, calm_ok, bind_ok]
    cases q : h p with
    | none =>
      simp only [List.filterMap_cons, q]
      exact ih (fun x hx => ht x (List.mem_cons_of_mem _ hx)) (by omega)
    | some y =>
      simp only [List.filterMap_cons, q]
      rw [if_pos (by simp; omega), ih (fun x hx => ht x (List.mem_cons_of_mem _ hx)) (by simp; omega)]
      simp
theorem comp_mm {turn : D → Mem → R (Option D)} (G f : α → D) {ps : List α} {acc : List D} (ht : ∀ p ∈ ps, turn (G p) μ = .ok (some (f p)) μ) (hl : acc.length + ps.length ≤ 16777216) : compL turn (ps.map G) acc μ = .ok (acc ++ ps.map f) μ := by
  rw [comp_fmm G (fun p => some (f p)) ht hl]
  congr 2
  clear ht hl
  induction ps with
  | nil => rfl
  | cons p ps ih => simp [ih]
end
/-! ### lists of numbers compared -/
theorem pys_il : ∀ xs : List Int, pys (il xs) = some (xs.map PyData.int)
  | [] => rfl
  | x :: xs => by
    have := pys_il xs
    simp only [il, List.map_cons, pys, D.py] at this ⊢
    rw [this]
theorem canLay_ints : ∀ xs : List Int, PyData.canLayAll0 (xs.map PyData.int) = true
  | [] => by simp [PyData.canLayAll0]
  | x :: xs => by simp [PyData.canLayAll0, PyData.canLay0, canLay_ints xs]
theorem depth_ints : ∀ xs : List Int, PyData.depthAll (xs.map PyData.int) = 0
  | [] => by simp [PyData.depthAll]
  | x :: xs => by simp [PyData.depthAll, PyData.depth, depth_ints xs]
theorem eqv_ints : ∀ xs ys : List Int, PyData.eqvAll (xs.map PyData.int) (ys.map PyData.int) = decide (xs = ys)
  | [], [] => by simp [PyData.eqvAll]
  | [], _ :: _ => by simp [PyData.eqvAll]
  | _ :: _, [] => by simp [PyData.eqvAll]
  | x :: xs, y :: ys => by
    simp only [List.map_cons, PyData.eqvAll, PyData.eqv, eqv_ints xs ys, List.cons.injEq]
    by_cases h : x = y
    · subst h; simp
    · simp [h]
theorem shaped_lst (xs : List Int) : SeqAt.shaped (.list (xs.map PyData.int)) = true := by
  simp [SeqAt.shaped, PyData.canLay0, canLay_ints, PyData.depth, depth_ints]
theorem shaped_tup (xs : List Int) : SeqAt.shaped (.tuple (xs.map PyData.int)) = true := by
  simp [SeqAt.shaped, PyData.canLay0, canLay_ints, PyData.depth, depth_ints]
section
variable {μ : Mem} {xs ys : List Int}
theorem py_lst : pyM μ (.lst (il xs)) = some (.list (xs.map PyData.int)) := by
  show (pys (il xs)).map PyData.list = _
  rw [pys_il]
  rfl
theorem py_tup : pyM μ (.tup (il xs)) = some (.tuple (xs.map PyData.int)) := by
  show (pys (il xs)).map PyData.tuple = _
  rw [pys_il]
  rfl
theorem py_cel {n : Nat} (h : μ[n]? = some (some (.lst (il xs)))) : pyM μ (.cel n) = some (.list (xs.map PyData.int)) := by
  simp only [pyM, h]
  rw [pys_il]
  rfl
theorem eqD_of {x y : D} {a b : PyData} (hx : pyM μ x = some a) (hy : pyM μ y = some b) (sa : SeqAt.shaped a = true) (sb : SeqAt.shaped b = true) : eqD μ x y = some (PyData.eqv a b) := by
  simp only [eqD, hx, hy, sa, sb, Bool.and_self, if_true]
theorem eq_tup : cmpD .Eq (.tup (il xs)) (.tup (il ys)) μ = .ok (decide (xs = ys)) μ := by
  simp only [cmpD, cmpB, eqD_of py_tup py_tup (shaped_tup _) (shaped_tup _), PyData.eqv, eqv_ints]
theorem ne_tup : cmpD .NotEq (.tup (il xs)) (.tup (il ys)) μ = .ok (!decide (xs = ys)) μ := by
  simp only [cmpD, cmpB, eqD_of py_tup py_tup (shaped_tup _) (shaped_tup _), PyData.eqv, eqv_ints, Option.map_some]
theorem eq_lst : cmpD .Eq (.lst (il xs)) (.lst (il ys)) μ = .ok (decide (xs = ys)) μ := by
  simp only [cmpD, cmpB, eqD_of py_lst py_lst (shaped_lst _) (shaped_lst _), PyData.eqv, eqv_ints]
theorem ne_lst : cmpD .NotEq (.lst (il xs)) (.lst (il ys)) μ = .ok (!decide (xs = ys)) μ := by
  simp only [cmpD, cmpB, eqD_of py_lst py_lst (shaped_lst _) (shaped_lst _), PyData.eqv, eqv_ints, Option.map_some]
theorem ne_cel0 {n : Nat} (h : μ[n]? = some (some (.lst (il xs)))) : cmpD .NotEq (.cel n) (.lst []) μ = .ok (!decide (xs = [])) μ := by
  have := eqD_of (py_cel h) (py_lst (μ := μ) (xs := [])) (shaped_lst _) (shaped_lst _)
  simp only [cmpD, cmpB]
  rw [show (D.lst []) = D.lst (il []) from rfl, this]
  simp only [PyData.eqv, eqv_ints, Option.map_some]
theorem eq_cel0 {n : Nat} (h : μ[n]? = some (some (.lst (il xs)))) : cmpD .Eq (.cel n) (.lst []) μ = .ok (decide (xs = [])) μ := by
  have := eqD_of (py_cel h) (py_lst (μ := μ) (xs := [])) (shaped_lst _) (shaped_lst _)
  simp only [cmpD, cmpB]
  rw [show (D.lst []) = D.lst (il []) from rfl, this]
  simp only [PyData.eqv, eqv_ints]
theorem bmin_cel {n : Nat} {m : Int} (h : μ[n]? = some (some (.lst (il xs)))) (hm : minOf xs = some m) : bifD .min1 [.cel n] μ = .ok (.int m) μ := by
  simp only [bifD, asLst, h, Option.bind_some, intsOf_il, hm]
theorem bmax_cel {n : Nat} {m : Int} (h : μ[n]? = some (some (.lst (il xs)))) (hm : maxOf xs = some m) : bifD .max1 [.cel n] μ = .ok (.int m) μ := by
  simp only [bifD, asLst, h, Option.bind_some, intsOf_il, hm]
theorem bmin_lst {m : Int} (hm : minOf xs = some m) : bifD .min1 [.lst (il xs)] μ = .ok (.int m) μ := by
  simp only [bifD, asLst, Option.bind_some, intsOf_il, hm]
theorem bmax_lst {m : Int} (hm : maxOf xs = some m) : bifD .max1 [.lst (il xs)] μ = .ok (.int m) μ := by
  simp only [bifD, asLst, Option.bind_some, intsOf_il, hm]
end
theorem minOf_spec : ∀ {xs : List Int}, xs ≠ [] → ∃ m, minOf xs = some m ∧ m ∈ xs ∧ ∀ x ∈ xs, m ≤ x
  | [], h => absurd rfl h
  | [x], _ => ⟨x, rfl, List.mem_cons_self, fun y hy => by simp at hy; omega⟩
  | x :: y :: r, _ => by
    obtain ⟨m, h1, h2, h3⟩ := minOf_spec (xs := y :: r) (by simp)
    refine ⟨if m < x then m else x, by simp only [minOf, h1, Option.map_some], ?_, fun z hz => ?_⟩
    · split
      · exact List.mem_cons_of_mem _ h2
      · exact List.mem_cons_self
    · rcases List.mem_cons.mp hz with rfl | hz
      · split <;> omega
      · have := h3 z hz
        split <;> omega
theorem maxOf_spec : ∀ {xs : List Int}, xs ≠ [] → ∃ m, maxOf xs = some m ∧ m ∈ xs ∧ ∀ x ∈ xs, x ≤ m
  | [], h => absurd rfl h
  | [x], _ => ⟨x, rfl, List.mem_cons_self, fun y hy => by simp at hy; omega⟩
  | x :: y :: r, _ => by
    obtain ⟨m, h1, h2, h3⟩ := maxOf_spec (xs := y :: r) (by simp)
    refine ⟨if m > x then m else x, by simp only [maxOf, h1, Option.map_some], ?_, fun z hz => ?_⟩
    · split
      · exact List.mem_cons_of_mem _ h2
      · exact List.mem_cons_self
    · rcases List.mem_cons.mp hz with rfl | hz
      · split <;> omega
      · have := h3 z hz
        split <;> omega
/-! ### memory -/
theorem mem_last {μ : Mem} {c : Option Cell} : (μ ++ [c])[μ.length]? = some c := by simp
theorem app_last {μ : Mem} {xs : List D} {x : D} (h : xs.length < 16777216) : appD (.cel μ.length) x (μ ++ [some (.lst xs)]) = .ok () (μ ++ [some (.lst (xs ++ [x]))]) := by
  simp [appD, h]
theorem isCel_last {μ : Mem} {xs : List D} : isCel (μ ++ [some (.lst xs)]) (.cel μ.length) = true := by
  simp [isCel]
end Den

/-! DenP4: texts compared; things in memory. -/
namespace Den
open PySem PySem.Spec PyProof.Rows L2
section
variable {μ : Mem}
theorem eq_str {a b : Str} (ha : PyData.strOk a = true) (hb : PyData.strOk b = true) : cmpD .Eq (.str a) (.str b) μ = .ok (a == b) μ := by
  simp [cmpD, cmpB, eqD, pyM, D.py, SeqAt.shaped, PyData.eqv, PyData.canLay0, PyData.depth, ha, hb]
theorem ne_str {a b : Str} (ha : PyData.strOk a = true) (hb : PyData.strOk b = true) : cmpD .NotEq (.str a) (.str b) μ = .ok (!(a == b)) μ := by
  simp [cmpD, cmpB, eqD, pyM, D.py, SeqAt.shaped, PyData.eqv, PyData.canLay0, PyData.depth, ha, hb]
theorem in_sign {c : Nat} {z : Str} : cmpD .In (.str ⟨#[c]⟩) (.str z) μ = .ok (decide (c ∈ z.cps.toList)) μ := by
  show (match (some (!(Builtin.Str.occurrences z ⟨#[c]⟩ 0 z.length 1).isEmpty) : Option Bool) with | some b => R.ok b μ | none => .no) = _
  rw [PySem.StrLaws.found_one]
theorem nin_sign {c : Nat} {z : Str} : cmpD .NotIn (.str ⟨#[c]⟩) (.str z) μ = .ok (!decide (c ∈ z.cps.toList)) μ := by
  show (match (some (!(Builtin.Str.occurrences z ⟨#[c]⟩ 0 z.length 1).isEmpty) : Option Bool).map (!·) with | some b => R.ok b μ | none => .no) = _
  rw [PySem.StrLaws.found_one]
  rfl
theorem sign_ok {c : Nat} (h : c < 128) : PyData.strOk ⟨#[c]⟩ = true := by
  unfold PyData.strOk
  have : c < 0x110000 := by omega
  simp [this]
theorem sign_eq {c d : Nat} : ((⟨#[c]⟩ : Str) == ⟨#[d]⟩) = decide (c = d) := by
  by_cases h : c = d
  · subst h; simp
  · simp [h]
theorem eq_sign {c d : Nat} (hc : c < 128) (hd : d < 128) : cmpD .Eq (.str ⟨#[c]⟩) (.str ⟨#[d]⟩) μ = .ok (decide (c = d)) μ := by rw [eq_str (sign_ok hc) (sign_ok hd), sign_eq]
theorem ne_sign {c d : Nat} (hc : c < 128) (hd : d < 128) : cmpD .NotEq (.str ⟨#[c]⟩) (.str ⟨#[d]⟩) μ = .ok (!decide (c = d)) μ := by rw [ne_str (sign_ok hc) (sign_ok hd), sign_eq]
theorem add_str {a b : Str} (h : a.length + b.length ≤ 16777216) : binD .Add (.str a) (.str b) μ = .ok (.str (a ++ b)) μ := by
  show (if fits (a.length + b.length) then _ else _) = _
  rw [if_pos (by simpa [fits] using h)]
theorem len_str {a : Str} (h : a.length ≤ 16777216) : bifD .len [.str a] μ = .ok (.int a.length) μ := by
  show (if fits a.length then _ else _) = _
  rw [if_pos (by simpa [fits] using h)]
theorem set_self {n : Nat} {c : Option Cell} (h : n < μ.length) : (μ.set n c)[n]? = some c := List.getElem?_set_self h
theorem set_other {n m : Nat} {c : Option Cell} (h : m ≠ n) : (μ.set n c)[m]? = μ[m]? := List.getElem?_set_ne (Ne.symm h)
theorem lt_of_get {n : Nat} {c : Option Cell} (h : μ[n]? = some c) : n < μ.length := (List.getElem?_eq_some_iff.mp h).1
theorem app_at {n : Nat} {xs : List D} {x : D} (h : μ[n]? = some (some (.lst xs))) (hl : xs.length < 16777216) : appD (.cel n) x μ = .ok () (μ.set n (some (.lst (xs ++ [x])))) := by
  simp [appD, h, hl]
theorem isCel_at {n : Nat} {xs : List D} (h : μ[n]? = some (some (.lst xs))) : isCel μ (.cel n) = true := by
  simp [isCel, h]
theorem pop_at {n : Nat} {xs : List D} {d : D} (h : μ[n]? = some (some (.lst xs))) (hd : xs[xs.length - 1]? = some d) : popD (.cel n) μ = .ok d (μ.set n (some (.lst xs.dropLast))) := by
  simp [popD, h, hd]
theorem len_at {n : Nat} {xs : List D} (h : μ[n]? = some (some (.lst xs))) : bifD .len [.cel n] μ = .ok (.int xs.length) μ := by
  simp [bifD, asSeq, asLst, h]
theorem last_at {n : Nat} {xs : List D} {d : D} (h : μ[n]? = some (some (.lst xs))) (hd : xs[xs.length - 1]? = some d) : idxD (.cel n) (.int (-1)) μ = .ok d μ := by
  have hl : 0 < xs.length := by
    have := (List.getElem?_eq_some_iff.mp hd).1
    omega
  have e : ixN xs.length (-1) = some (xs.length - 1) := by
    unfold ixN
    simp only [show ¬ (0 : Int) ≤ -1 by decide, false_and, if_false]
    split <;> first | (congr 1; omega) | (exfalso; omega) | skip
  simp [idxD, asSeq, asLst, h, atI, e, hd]
theorem first_at {n : Nat} {xs : List D} {d : D} (h : μ[n]? = some (some (.lst (d :: xs)))) : idxD (.cel n) (.int 0) μ = .ok d μ := by
  simp [idxD, asSeq, asLst, h, atI, ixN]
theorem tup_at {n : Nat} {xs : List D} (h : μ[n]? = some (some (.lst xs))) : bifD .tuple [.cel n] μ = .ok (.tup xs) μ := by
  simp [bifD, asSeq, asLst, h]
theorem fld_at {n : Nat} {c f : Str} {fs : List (Str × D)} {d : D} (h : μ[n]? = some (some (.obj c fs))) (hd : fs.lookup f = some d) : fldOf μ (.cel n) c f = some d := by
  simp [fldOf, h, hd]
theorem obj_at {n : Nat} {c m : Str} {fs : List (Str × D)} (h : μ[n]? = some (some (.obj c fs))) (hd : fs.lookup m = none) : isObj μ (.cel n) c m = true := by
  simp [isObj, h, hd]
theorem put_at {n : Nat} {c f : Str} {fs : List (Str × D)} {y : D} (h : μ[n]? = some (some (.obj c fs))) (hl : fs.length < 1000) : fldD (.cel n) c f y μ = .ok () (μ.set n (some (.obj c (putD f y fs)))) := by
  simp [fldD, h, hl]
end
end Den

/-! DenP5: texts: their signs, their lengths, parts, repeats; a sign drawn from a text. -/
namespace Den
open PySem PySem.Spec PyProof.Rows L2
def Asc (z : Str) : Prop := ∀ c ∈ z.cps.toList, c < 128
theorem str_len {z : Str} : z.length = z.cps.toList.length := by rw [Array.length_toList]; rfl
theorem str_ext {a b : Str} (h : a.cps.toList = b.cps.toList) : a = b := by
  cases a; cases b; simp at h; simp [h]
theorem app_list (a b : Str) : (a ++ b).cps.toList = a.cps.toList ++ b.cps.toList := by
  show (a.cps ++ b.cps).toList = _
  simp
theorem app_len (a b : Str) : (a ++ b).length = a.length + b.length := by
  rw [str_len, str_len, str_len, app_list, List.length_append]
theorem Asc.app {a b : Str} (ha : Asc a) (hb : Asc b) : Asc (a ++ b) := fun c hc => by
  rw [app_list] at hc
  rcases List.mem_append.mp hc with h | h
  · exact ha c h
  · exact hb c h
theorem one_list (c : Nat) : (⟨#[c]⟩ : Str).cps.toList = [c] := rfl
theorem Asc.one {c : Nat} (h : c < 128) : Asc ⟨#[c]⟩ := fun d hd => by
  rw [one_list] at hd
  rw [List.mem_singleton.mp hd]
  exact h
theorem Asc.ok {z : Str} (h : Asc z) : PyData.strOk z = true := by
  unfold PyData.strOk
  rw [← Array.all_toList]
  refine List.all_eq_true.mpr fun c hc => ?_
  have := h c hc
  simp; omega
theorem cut_list (z : Str) (lo hi : Option Int) : (cutS z lo hi).cps.toList = (z.cps.toList.drop (HT.sIx z.length 0 lo)).take (HT.sIx z.length z.length hi - HT.sIx z.length 0 lo) := rfl
theorem Asc.cut {z : Str} (h : Asc z) (lo hi : Option Int) : Asc (cutS z lo hi) := fun c hc => by
  rw [cut_list] at hc
  exact h c (List.mem_of_mem_drop (List.mem_of_mem_take hc))
theorem cut_to {z : Str} {v : Nat} (h : v ≤ z.length) : (cutS z none (some (v : Int))).length = v := by
  rw [str_len, cut_list, HT.sIx_none, HT.sIx_nat, List.length_take, List.length_drop, ← str_len]
  omega
theorem cut_from {z : Str} {v : Nat} : (cutS z (some (v : Int)) none).length = z.length - v := by
  rw [str_len, cut_list, HT.sIx_none, HT.sIx_nat, List.length_take, List.length_drop, ← str_len]
  omega
theorem rep_list (a : Str) (n : Nat) : (repS a n).cps.toList = (List.replicate n a.cps.toList).flatten := rfl
theorem rep_len (a : Str) (n : Nat) : (repS a n).length = n * a.length := by
  rw [str_len, str_len, rep_list]
  simp
theorem Asc.rep {a : Str} (h : Asc a) (n : Nat) : Asc (repS a n) := fun c hc => by
  rw [rep_list] at hc
  obtain ⟨l, h1, h2⟩ := List.mem_flatten.mp hc
  rw [(List.mem_replicate.mp h1).2] at h2
  exact h c h2
section
variable {M : Md} {W : Nat} {a b c d e f : Int}
theorem i_str {μ : Mem} {z : Str} {v : Int} (h0 : 0 ≤ v) (hl : z.length ≤ 16777216) (h : v.toNat < z.cps.toList.length) : idxD (.str z) (.int v) μ = .ok (.str ⟨#[z.cps.toList[v.toNat]]⟩) μ := by
  have h1 : v < (z.cps.toList.length : Int) := by omega
  have f : fits z.length = true := by unfold fits; exact decide_eq_true hl
  have e : atI z.cps.toList v = some z.cps.toList[v.toNat] := by
    unfold atI ixN
    rw [if_pos h0, if_pos h1]
    exact List.getElem?_eq_getElem h
  show (if fits z.length then (match atI z.cps.toList v with
    | some c => R.ok (D.str ⟨#[c]⟩) μ
    | none => .no) else .no) = _
  rw [f, e]
  rfl
theorem mul_str {μ : Mem} {a : Str} {k : Nat} (h : a.length * k ≤ 16777216) (hk : k < 2 ^ 60) : binD .Mult (.str a) (.int k) μ = .ok (.str (repS a k)) μ := by
  have f : fits (a.length * k) = true := by unfold fits; exact decide_eq_true h
  have d1 : decide (-(2 ^ 63) ≤ (k : Int)) = true := decide_eq_true (by omega)
  have d2 : decide ((k : Int) < 2 ^ 63) = true := decide_eq_true (by omega)
  clear h hk
  simp only [binD, d1, d2, f, Bool.and_self, if_true, Int.toNat_natCast]
theorem cut_str {μ : Mem} {z : Str} {lo hi : Option Int} (h : z.length ≤ 16777216) : sliD (.str z) lo hi μ = .ok (.str (cutS z lo hi)) μ := by
  show (if fits z.length then R.ok (D.str (cutS z lo hi)) μ else .no) = _
  rw [if_pos (by unfold fits; exact decide_eq_true h)]
theorem str_eq {μ : Mem} {i : Int} : bifD .str [.int i] μ = if decide (i.natAbs < 10 ^ 100) then .ok (.str (toString i : String)) μ else .no := by delta bifD; rfl
theorem pow6 {n : Nat} (h : n < 10 ^ 6) : decide (n < 10 ^ 100) = true := decide_eq_true (Nat.lt_of_lt_of_le h (Nat.pow_le_pow_right (by decide) (by decide)))
theorem str_int {μ : Mem} {i : Int} (h : i.natAbs < 10 ^ 6) : bifD .str [.int i] μ = .ok (.str (toString i : String)) μ := str_eq.trans (if_pos (pow6 h))
local macro_rules | `(tactic| walk_at "go") => `(tactic| simp only [callM, runB, startD, ev_var, ev_cal, ev_bif, ev_nil, ev_cons, ev_idx, ex_nil, ex_cons, ex_ret, gcal, bind_ok, get0, gets, List.length_cons, List.length_nil, List.map_cons, List.map_nil, List.replicate, List.cons_append, List.nil_append, List.append_nil, if_true, Nat.reduceAdd, Nat.reduceSub, Nat.sub_self, reduceIte, *])
local macro_rules | `(tactic| walk_at "run") => `(tactic| (rw [run_succ]; walk_at "go"))
theorem r_someS (hr : M.at_ "_law_roll" = some (rollFn a b c d e f)) (ok : rollOk a c d e f = true) (hat : M.at_ "_law_some" = some someFn) (k : Nat) (x y : Int) (r : Mem) (z : Str) (hx : 0 < z.length) (hl : z.length ≤ 16777216) :
    ∃ (s : Nat) (x' y' : Int), s ∈ z.cps.toList ∧ run M W (k + 2) "_law_some" [.cel 0, .str z] (cupM x y r) = .ok (.str ⟨#[s]⟩) (cupM x' y' r) := by
  unfold someFn at hat
  obtain ⟨v, x', y', h0, h1, e1⟩ := r_roll (W := W) hr ok k x y r (z.length : Int) (by omega) (log2_small (by omega) (by omega))
  have hv : v.toNat < z.cps.toList.length := by rw [← str_len]; omega
  refine ⟨z.cps.toList[v.toNat], x', y', List.getElem_mem _, ?_⟩
  have e2 := @i_str (cupM x' y' r) z v h0 hl hv
  have e3 := @len_str (cupM x y r) z hl
  clear hx hl h0 h1 hr ok
  walk_at "run"
end
end Den

/-! DenP6: the tests of values, whatever the value; two loops in one comprehension. -/
namespace Den
open PySem PySem.Spec PyProof.Rows PySem.W L2
local macro_rules | `(tactic| walk_at "go") => `(tactic| simp only [callM, runB, startD, ev_var, ev_num, ev_txt, ev_bl, ev_non, ev_glo, ev_con, ev_bin, ev_neg, ev_not, ev_one, ev_and, ev_or, ev_cmp, ev_chn, ev_ite, ev_cal0, ev_cal, ev_cav, ev_bif, ev_isi, ev_nil, ev_cons, ev_tup, ev_lst, ev_cel, ev_idx, ev_sli, ev_nop, ev_err, ev_isx, ev_joi, ev_rng1, ev_rng2, ev_itr, ev_itl, ev_zip, ev_zip3, ev_fld, ev_mth0, ev_mth, ev_mk0, ev_pop0, ev_rev, ev_rgl1, ev_rgl2, ev_lset, ev_popi, ev_newb, ev_newl, ev_enm, ex_pass, ex_nil, ex_cons, ex_set, ex_tgt, ex_par, ex_par3, ex_ife, ex_whl, ex_ret, ex_retn, ex_exp, ex_brk, ex_cnt, ex_rai, ex_frz, ex_app, ex_sub, ex_fset, ex_fs3, ex_for, evT, asg, Option.bind_some, ev_cmpn, ev_cmp2, ev_cmpc, wipeD, gcal, gcon, bind_ok, bind_er, bind_no, calm_ok, b_add, b_sub, i_t0, i_t1, c_lt, c_le, c_gt, c_ge, c_eq, c_ne, t_bl, get0, gets, List.length_cons, List.length_nil, List.map_cons, List.map_nil, List.replicate, List.cons_append, List.nil_append, List.set_cons_zero, List.set_cons_succ, List.append_nil, if_true, if_false, Nat.reduceAdd, Nat.reduceSub, Nat.sub_self, Nat.zero_add, reduceIte, Bool.false_eq_true, bgcd, babs, bint, fits, Nat.reduceLeDiff, decide_true, decide_false, Bool.not_true, Bool.not_false, i_c0, i_c1, s_c0, s_c1, blen, tlen, p18, *])
local macro_rules | `(tactic| walk_at "run") => `(tactic| (rw [run_succ]; walk_at "go"))

/-- no thing that may be changed, no def, no exception -/
def sane : D → Bool
  | .cel _ => false
  | .glo _ => false
  | .exc => false
  | _ => true
/-- a whole number within the bounds -/
def okW (lo hi : Int) : D → Bool
  | .int v => decide (lo ≤ v) && decide (v ≤ hi)
  | _ => false
/-- a tuple of so many things -/
def okT (lo hi : Int) : D → Bool
  | .tup xs => decide (lo ≤ (xs.length : Int)) && decide ((xs.length : Int) ≤ hi)
  | _ => false
section
variable {M : Md} {W : Nat}
theorem r_is_wholeD (hat : M.at_ "is_whole" = some is_wholeFn) (k : Nat) (μ : Mem) (d : D) (lo hi : Int) (hs : sane d = true) : run M W (k + 1) "is_whole" [d, .int lo, .int hi] μ = .ok (.bl (okW lo hi d)) μ := by
  cases d with
  | int v => exact r_is_whole hat k μ v lo hi
  | bl b =>
    have e1 : isTy .int (.bl b) = some true := rfl
    have e2 : isTy .bool (.bl b) = some true := rfl
    have e3 : okW lo hi (.bl b) = false := rfl
    rw [e3]
    unfold is_wholeFn at hat
    clear e3 hs
    walk_at "run"
  | non => have e1 : isTy .int .non = some false := rfl; have e3 : okW lo hi .non = false := rfl; rw [e3]; unfold is_wholeFn at hat; clear e3 hs; walk_at "run"
  | str z => have e1 : isTy .int (.str z) = some false := rfl; have e3 : okW lo hi (.str z) = false := rfl; rw [e3]; unfold is_wholeFn at hat; clear e3 hs; walk_at "run"
  | tup z => have e1 : isTy .int (.tup z) = some false := rfl; have e3 : okW lo hi (.tup z) = false := rfl; rw [e3]; unfold is_wholeFn at hat; clear e3 hs; walk_at "run"
  | lst z => have e1 : isTy .int (.lst z) = some false := rfl; have e3 : okW lo hi (.lst z) = false := rfl; rw [e3]; unfold is_wholeFn at hat; clear e3 hs; walk_at "run"
  | fls z => have e1 : isTy .int (.fls z) = some false := rfl; have e3 : okW lo hi (.fls z) = false := rfl; rw [e3]; unfold is_wholeFn at hat; clear e3 hs; walk_at "run"
  | _ => cases hs
theorem r_is_tupleD (hat : M.at_ "is_tuple_of" = some is_tuple_ofFn) (k : Nat) (μ : Mem) (d : D) (lo hi : Int) (hs : sane d = true) : run M W (k + 1) "is_tuple_of" [d, .int lo, .int hi] μ = .ok (.bl (okT lo hi d)) μ := by
  cases d with
  | tup xs => exact r_is_tuple hat k μ xs lo hi
  | non => have e1 : isTy .tuple .non = some false := rfl; have e3 : okT lo hi .non = false := rfl; rw [e3]; unfold is_tuple_ofFn at hat; clear e3 hs; walk_at "run"
  | bl z => have e1 : isTy .tuple (.bl z) = some false := rfl; have e3 : okT lo hi (.bl z) = false := rfl; rw [e3]; unfold is_tuple_ofFn at hat; clear e3 hs; walk_at "run"
  | int z => have e1 : isTy .tuple (.int z) = some false := rfl; have e3 : okT lo hi (.int z) = false := rfl; rw [e3]; unfold is_tuple_ofFn at hat; clear e3 hs; walk_at "run"
  | str z => have e1 : isTy .tuple (.str z) = some false := rfl; have e3 : okT lo hi (.str z) = false := rfl; rw [e3]; unfold is_tuple_ofFn at hat; clear e3 hs; walk_at "run"
  | lst z => have e1 : isTy .tuple (.lst z) = some false := rfl; have e3 : okT lo hi (.lst z) = false := rfl; rw [e3]; unfold is_tuple_ofFn at hat; clear e3 hs; walk_at "run"
  | fls z => have e1 : isTy .tuple (.fls z) = some false := rfl; have e3 : okT lo hi (.fls z) = false := rfl; rw [e3]; unfold is_tuple_ofFn at hat; clear e3 hs; walk_at "run"
  | _ => cases hs
/-- all of so many within the bounds -/
def okWs (n lo hi : Int) : D → Bool
  | .tup xs => okT n n (.tup xs) && xs.all (okW lo hi)
  | _ => false
theorem r_are_wholesD (ha : M.at_ "are_wholes" = some are_wholesFn) (ht : M.at_ "is_tuple_of" = some is_tuple_ofFn) (hat : M.at_ "is_whole" = some is_wholeFn) (k : Nat) (μ : Mem) (d : D) (n lo hi : Int) (hs : sane d = true)
    (hx : ∀ xs, d = .tup xs → xs.length ≤ 16777216 ∧ ∀ x ∈ xs, sane x = true) : run M W (k + 2) "are_wholes" [d, .int n, .int lo, .int hi] μ = .ok (.bl (okWs n lo hi d)) μ := by
  have e1 := r_is_tupleD (W := W) ht k μ d n n hs
  cases q : okT n n d with
  | false =>
    rw [q] at e1
    have e2 : okWs n lo hi d = false := by
      cases d <;> first | rfl | (simp only [okWs, q, Bool.false_and])
    rw [e2]
    unfold are_wholesFn at ha
    clear e2 hx hs q
    walk_at "run"
  | true =>
    rw [q] at e1
    cases d with
    | tup xs =>
      obtain ⟨hl, hx⟩ := hx xs rfl
      have e2 : okWs n lo hi (.tup xs) = xs.all (okW lo hi) := by simp only [okWs, q, Bool.true_and]
      rw [e2]
      have e3 : ∀ x0 x1 : Option D, compL (turnT (gAt M W (k + 1)) (.nm 4) .nop (.cal "is_whole" (.cons (.var 4) (.cons (.var 2) (.cons (.var 3) .nil)))) [x0, x1, some (.int lo), some (.int hi), none]) xs [] μ = .ok (xs.map fun v => D.bl (okW lo hi v)) μ := fun x0 x1 => by
        have := comp_map (μ := μ) (turn := turnT (gAt M W (k + 1)) (.nm 4) .nop (.cal "is_whole" (.cons (.var 4) (.cons (.var 2) (.cons (.var 3) .nil)))) [x0, x1, some (.int lo), some (.int hi), none]) (fun d => D.bl (okW lo hi d)) (xs := xs) (acc := []) (fun d hd => by
          have e := r_is_wholeD (W := W) hat k μ d lo hi (hx d hd)
          rw [turnT_nm, turnD_nop]
          clear hx hd
          walk_at "go") (by simp; exact hl)
        rw [this]
        simp
      have e4 := ball (μ := μ) (okW lo hi) xs
      unfold are_wholesFn at ha
      have e5 : walkD (.tup xs) = some xs := rfl
      clear e2 hl hx hs q
      walk_at "run"
    | _ => cases q
theorem r_need_wholeD (hn : M.at_ "need_whole" = some need_wholeFn) (hat : M.at_ "is_whole" = some is_wholeFn) (k : Nat) (μ : Mem) (d : D) (lo hi : Int) (hs : sane d = true) (h : okW lo hi d = false) : run M W (k + 2) "need_whole" [d, .int lo, .int hi] μ = .er ⟨"InvalidNumber", []⟩ μ := by
  have e1 := r_is_wholeD (W := W) hat k μ d lo hi hs
  rw [h] at e1
  unfold need_wholeFn at hn
  clear hat h hs
  walk_at "run"
end
/-- two loops: each turn of the first adds the turns of the second -/
theorem turn2_map {g : G} {tg tg1 : T} {it1 elt : C} {ρw ρ' : DEnv} {d : D} {acc : List D} {μ : Mem} {items1 : List D} (f : D → D) (ha : asg tg d ρw = some ρ') (hi : evE g it1 ρ' μ = .ok (.tup items1) μ)
    (ht : ∀ e ∈ items1, turnT g tg1 .nop elt (wipeD ρ' tg1.slots) e μ = .ok (some (f e)) μ) (hl : acc.length + items1.length ≤ 16777216) : turn2 g tg .nop tg1 it1 .nop elt ρw d acc μ = .ok (acc ++ items1.map f) μ := by
  unfold turn2
  rw [ha]
  show ((okD g .nop ρ' μ).calm.bind _) = _
  show (((R.ok true μ).calm).bind _) = _
  rw [calm_ok, bind_ok]
  simp only [if_true, hi, calm_ok, bind_ok]
  exact comp_map f ht hl
theorem compM_mm {α : Type} {μ : Mem} {turn : D → List D → Mem → R (List D)} (G : α → D) (h : α → List D) : ∀ {ps : List α} {acc : List D}, (∀ p ∈ ps, ∀ acc : List D, acc.length + (h p).length ≤ 16777216 → turn (G p) acc μ = .ok (acc ++ h p) μ) → acc.length + (ps.flatMap h).length ≤ 16777216 →
    compM turn (ps.map G) acc μ = .ok (acc ++ ps.flatMap h) μ
  | [], acc, _, _ => by simp [compM]
  | p :: ps, acc, ht, hl => by
    simp only [List.flatMap_cons, List.length_append] at hl
    have e := ht p List.mem_cons_self acc (by omega)
    simp only [List.map_cons, compM, e, bind_ok]
    rw [compM_mm G h (fun x hx => ht x (List.mem_cons_of_mem _ hx)) (by rw [List.length_append]; omega)]
    simp
theorem all_bls (bs : List Bool) (μ : Mem) : bifD .all [.lst (bs.map D.bl)] μ = .ok (.bl (bs.all id)) μ := ball (fun b => b) bs
theorem bmax2 {i j : Int} {μ : Mem} : bifD .max2 [.int i, .int j] μ = .ok (.int (if j > i then j else i)) μ := rfl
theorem bmin2 {i j : Int} {μ : Mem} : bifD .min2 [.int i, .int j] μ = .ok (.int (if j < i then j else i)) μ := rfl
/-- a loop that changes no memory, told by a function of its state -/
theorem for_fold {α β : Type} {turn : D → DEnv → Mem → R Fl} {μ : Mem} (G : α → D) (E : β → DEnv) (f : β → α → β) : ∀ {ps : List α} {s : β}, (∀ p ∈ ps, ∀ s, turn (G p) (E s) μ = .ok (.nx (E (f s p))) μ) → forL turn (ps.map G) (E s) μ = .ok (.nx (E (ps.foldl f s))) μ
  | [], s, _ => rfl
  | p :: ps, s, h => by
    have e := h p List.mem_cons_self s
    simp only [List.map_cons, forL, e, bind_ok, List.foldl_cons]
    exact for_fold G E f fun q hq => h q (List.mem_cons_of_mem _ hq)
/-! ### slices of lists -/
theorem cut_none (xs : List D) (n : Nat) : cutD xs none (some (n : Int)) = xs.take n := by
  unfold cutD
  rw [HT.sIx_none, HT.sIx_nat, List.drop_zero, Nat.sub_zero]
  rw [Nat.min_def]
  split
  · rfl
  · rw [List.take_of_length_le (Nat.le_refl _), List.take_of_length_le (by omega)]
theorem cut_some (xs : List D) (n : Nat) : cutD xs (some (n : Int)) none = xs.drop n := by
  unfold cutD
  rw [HT.sIx_none, HT.sIx_nat]
  by_cases h : n ≤ xs.length
  · rw [Nat.min_eq_left h, List.take_of_length_le (by rw [List.length_drop]; omega)]
  · rw [Nat.min_eq_right (by omega), List.drop_of_length_le (Nat.le_refl _), List.drop_of_length_le (by omega)]
    simp
theorem sl_to {xs : List D} {i : Int} {μ : Mem} (h : 0 ≤ i) : sliD (.lst xs) none (some i) μ = .ok (.lst (xs.take i.toNat)) μ := by
  have := cut_none xs i.toNat
  rw [Int.toNat_of_nonneg h] at this
  simp only [sliD, asLst, this]
theorem sl_from {xs : List D} {i : Int} {μ : Mem} (h : 0 ≤ i) : sliD (.lst xs) (some i) none μ = .ok (.lst (xs.drop i.toNat)) μ := by
  have := cut_some xs i.toNat
  rw [Int.toNat_of_nonneg h] at this
  simp only [sliD, asLst, this]
theorem st_to {xs : List D} {i : Int} {μ : Mem} (h : 0 ≤ i) : sliD (.tup xs) none (some i) μ = .ok (.tup (xs.take i.toNat)) μ := by
  have := cut_none xs i.toNat
  rw [Int.toNat_of_nonneg h] at this
  simp only [sliD, this]
theorem st_from {xs : List D} {i : Int} {μ : Mem} (h : 0 ≤ i) : sliD (.tup xs) (some i) none μ = .ok (.tup (xs.drop i.toNat)) μ := by
  have := cut_some xs i.toNat
  rw [Int.toNat_of_nonneg h] at this
  simp only [sliD, this]
theorem p_non : partD .non = some none := rfl
theorem p_int {i : Int} : partD (.int i) = some (some i) := rfl
theorem w_lst {xs : List D} : walkD (.lst xs) = some xs := rfl
theorem w_tup {xs : List D} : walkD (.tup xs) = some xs := rfl
/-! ### in order -/
theorem rowsOf_rows : ∀ {rs : List (List Int)}, (∀ r ∈ rs, r ≠ []) → rowsOf (rs.map rowD) = some rs
  | [], _ => rfl
  | r :: rs, h => by
    have ih := rowsOf_rows fun q hq => h q (List.mem_cons_of_mem _ hq)
    cases r with
    | nil => exact absurd rfl (h [] List.mem_cons_self)
    | cons n ns =>
      have e : intsOf ((n :: ns).map D.int) = some (n :: ns) := intsOf_il (n :: ns)
      simp only [List.map_cons, rowsOf, rowD, ih] at e ⊢
      rw [e]
      rfl
theorem intsOf_rows {r : List Int} {rs : List (List Int)} : intsOf ((r :: rs).map rowD) = none := rfl
theorem bsort_rows {rs : List (List Int)} (h : ∀ r ∈ rs, r ≠ []) (μ : Mem) : bifD .sorted [.lst (rs.map rowD)] μ = .ok (.lst ((rs.mergeSort ZN.leR).map rowD)) μ := by
  cases rs with
  | nil => simp [bifD, asSeq, asLst, intsOf]
  | cons r rs => simp only [bifD, asSeq, asLst, intsOf_rows, rowsOf_rows h]
theorem bsort_l (ns : List Int) (μ : Mem) : bifD .sorted [.lst (il ns)] μ = .ok (.lst (il (ns.mergeSort ZN.leI))) μ := by
  simp only [bifD, asSeq, asLst, intsOf_il]
  rfl
theorem bsort_t (ns : List Int) (μ : Mem) : bifD .sorted [.tup (il ns)] μ = .ok (.lst (il (ns.mergeSort ZN.leI))) μ := by
  simp only [bifD, asSeq, intsOf_il]
  rfl
theorem bmin_rows {r : List Int} {rs : List (List Int)} (h : ∀ q ∈ r :: rs, q ≠ []) (μ : Mem) : bifD .min1 [.lst ((r :: rs).map rowD)] μ = .ok (rowD (ZN.minRow r rs)) μ := by
  simp only [bifD, asLst, intsOf_rows, rowsOf_rows h]
/-- the order of rows -/
def KE_lt (a b : List Int) : Bool := dataLt (ZN.encR a) (ZN.encR b)
theorem lt_two (a b i j : Int) : KE_lt [a, i] [b, j] = decide (a < b ∨ a = b ∧ i < j) := dataLt_ii a i b j
theorem leR_two (a b i j : Int) : ZN.leR [a, i] [b, j] = decide (a < b ∨ a = b ∧ i ≤ j) := by
  show (!KE_lt [b, j] [a, i]) = _
  rw [lt_two, ← decide_not, decide_eq_decide]
  omega
theorem minRow_map {α : Type} (f : α → List Int) : ∀ (l : List α) (i : α), ZN.minRow (f i) (l.map f) = f (l.foldl (fun a y => if KE_lt (f y) (f a) then y else a) i)
  | [], _ => rfl
  | y :: l, i => by
    have ih := minRow_map f l (if KE_lt (f y) (f i) then y else i)
    unfold ZN.minRow at ih ⊢
    rw [List.map_cons, List.foldl_cons, List.foldl_cons, ← ih]
    unfold KE_lt
    split <;> rfl
theorem leI_trans (a b c : Int) (h1 : ZN.leI a b = true) (h2 : ZN.leI b c = true) : ZN.leI a c = true := by
  unfold ZN.leI at *
  simp only [decide_eq_true_eq] at *
  omega
theorem leI_total (a b : Int) : (ZN.leI a b || ZN.leI b a) = true := by
  unfold ZN.leI
  simp only [Bool.or_eq_true, decide_eq_true_eq]
  omega
/-! ### each once -/
theorem nub_same : ∀ {xs : List Int}, (ZN.nub xs).length = xs.length → xs.Nodup
  | [], _ => .nil
  | x :: xs, h => by
    unfold ZN.nub at h
    have l := ZN.nub_len_le xs
    split at h
    · rw [List.length_cons] at h
      omega
    · rename_i hx
      simp only [List.length_cons] at h
      exact List.nodup_cons.mpr ⟨hx, nub_same (by omega)⟩
theorem nub_id : ∀ {xs : List Int}, xs.Nodup → ZN.nub xs = xs
  | [], _ => rfl
  | x :: xs, h => by
    obtain ⟨h1, h2⟩ := List.nodup_cons.mp h
    unfold ZN.nub
    rw [if_neg h1, nub_id h2]
theorem b_lset {ns : List Int} {μ : Mem} (h : ns.length ≤ 1000) : lsetD (.tup (il ns)) μ = .ok (.int (ZN.nub ns).length) μ := by
  simp only [lsetD, intsOf_il, decide_eq_true h, if_true]
theorem b_rev {xs : List D} {μ : Mem} : revD (.tup xs) μ = .ok (.tup xs.reverse) μ := rfl
theorem rgl_il (n : Nat) : rngL 0 (n : Int) = il ((List.range n).map fun (i : Nat) => (i : Int)) := by
  unfold rngL il
  rw [List.map_map, Int.sub_zero, Int.toNat_natCast]
  refine List.map_congr_left fun i _ => ?_
  simp
theorem b_rgl {n : Nat} (h : n ≤ 16777216) (μ : Mem) : rglD 0 0 (n : Int) μ = .ok (.lst (il ((List.range n).map fun (i : Nat) => (i : Int)))) μ ∧ rglD 1 0 (n : Int) μ = .ok (.tup (il ((List.range n).map fun (i : Nat) => (i : Int)))) μ ∧
    rglD 2 0 (n : Int) μ = .ok (.cel μ.length) (μ ++ [some (.lst (il ((List.range n).map fun (i : Nat) => (i : Int))))]) := by
  have e : (rngOk 0 && rngOk (n : Int) && fits (rngL 0 (n : Int)).length) = true := by
    have h1 : rngOk 0 = true := rfl
    have h2 : rngOk (n : Int) = true := by unfold rngOk; exact decide_eq_true (by omega)
    have h3 : fits (rngL 0 (n : Int)).length = true := by unfold fits; rw [rngL, List.length_map, List.length_range]; exact decide_eq_true (by omega)
    rw [h1, h2, h3]
    rfl
  refine ⟨?_, ?_, ?_⟩ <;> unfold rglD <;> rw [if_pos e, rgl_il] <;> rfl
/-! ### is a list empty? -/
/-- data that can be laid, at most so deep -/
def layd : List D → Bool
  | [] => true
  | d :: ds => lkF d && layd ds
theorem pys_flat : ∀ {ys : List D}, (∀ y ∈ ys, lkF y = true) → ∃ ps, pys ys = some ps ∧ ps.length = ys.length ∧ PyData.canLayAll0 ps = true ∧ PyData.depthAll ps = 0
  | [], _ => ⟨[], rfl, rfl, by simp [PyData.canLayAll0], by simp [PyData.depthAll]⟩
  | y :: ys, h => by
    obtain ⟨ps, h1, h2, h3, h4⟩ := pys_flat fun x hx => h x (List.mem_cons_of_mem _ hx)
    have hy := h y List.mem_cons_self
    cases y with
    | non => exact ⟨.none :: ps, by simp [pys, D.py, h1], by simp [h2], by simp [PyData.canLayAll0, PyData.canLay0, h3], by simp [PyData.depthAll, PyData.depth, h4]⟩
    | bl b => exact ⟨.bool b :: ps, by simp [pys, D.py, h1], by simp [h2], by simp [PyData.canLayAll0, PyData.canLay0, h3], by simp [PyData.depthAll, PyData.depth, h4]⟩
    | int b => exact ⟨.int b :: ps, by simp [pys, D.py, h1], by simp [h2], by simp [PyData.canLayAll0, PyData.canLay0, h3], by simp [PyData.depthAll, PyData.depth, h4]⟩
    | str b =>
      have hy : PyData.strOk b = true := hy
      exact ⟨.str b :: ps, by simp [pys, D.py, h1], by simp [h2], by simp [PyData.canLayAll0, PyData.canLay0, h3, hy], by simp [PyData.depthAll, PyData.depth, h4]⟩
    | _ => cases hy
theorem pys_rows : ∀ rs : List (List Int), ∃ ps, pys (rs.map rowD) = some ps ∧ ps.length = rs.length ∧ PyData.canLayAll0 ps = true ∧ PyData.depthAll ps ≤ 1
  | [] => ⟨[], rfl, rfl, by simp [PyData.canLayAll0], by simp [PyData.depthAll]⟩
  | r :: rs => by
    obtain ⟨ps, h1, h2, h3, h4⟩ := pys_rows rs
    have e := pys_il r
    refine ⟨.tuple (r.map .int) :: ps, ?_, by simp [h2], by simp [PyData.canLayAll0, PyData.canLay0, canLay_ints, h3], ?_⟩
    · simp only [List.map_cons, pys, rowD, D.py]
      rw [show r.map D.int = il r from rfl, e, h1]
      rfl
    · simp only [PyData.depthAll, PyData.depth, depth_ints]
      omega
theorem ne_nil_of {ys : List D} {ps : List PyData} (h : pys ys = some ps) (hl : ps.length = ys.length) (hc : PyData.canLayAll0 ps = true) (hd : PyData.depthAll ps ≤ 1) (μ : Mem) : cmpD .NotEq (.lst ys) (.lst []) μ = .ok (!ys.isEmpty) μ := by
  have e1 : pyM μ (.lst ys) = some (.list ps) := by
    show (pys ys).map PyData.list = _
    rw [h]
    rfl
  have e2 : pyM μ (.lst []) = some (.list []) := rfl
  have e3 : SeqAt.shaped (.list ps) = true := by
    simp [SeqAt.shaped, PyData.canLay0, hc, PyData.depth]
    omega
  have e4 : SeqAt.shaped (.list []) = true := by decide +kernel
  simp only [cmpD, cmpB, eqD_of e1 e2 e3 e4, Option.map_some]
  cases ys with
  | nil =>
    have : ps = [] := List.length_eq_zero_iff.mp hl
    subst this
    simp [PyData.eqv, PyData.eqvAll]
  | cons y ys =>
    cases ps with
    | nil => cases hl
    | cons p ps => simp [PyData.eqv, PyData.eqvAll]
theorem ne_nil_flat {ys : List D} (h : ∀ y ∈ ys, lkF y = true) (μ : Mem) : cmpD .NotEq (.lst ys) (.lst []) μ = .ok (!ys.isEmpty) μ := by
  obtain ⟨ps, h1, h2, h3, h4⟩ := pys_flat h
  exact ne_nil_of h1 h2 h3 (by omega) μ
theorem ne_nil_rows (rs : List (List Int)) (μ : Mem) : cmpD .NotEq (.lst (rs.map rowD)) (.lst []) μ = .ok (!rs.isEmpty) μ := by
  obtain ⟨ps, h1, h2, h3, h4⟩ := pys_rows rs
  rw [ne_nil_of h1 (by simp [h2]) h3 h4 μ]
  cases rs <;> rfl
/-- a loop that changes no memory, told by what was done ahead -/
theorem for_pre {α β : Type} {turn : D → DEnv → Mem → R Fl} {μ : Mem} (G : α → D) (E : β → DEnv) (f : β → α → β) {s0 : β} : ∀ {ps pre : List α}, (∀ pre' p post, pre ++ ps = pre' ++ p :: post → turn (G p) (E (pre'.foldl f s0)) μ = .ok (.nx (E (f (pre'.foldl f s0) p))) μ) → forL turn (ps.map G) (E (pre.foldl f s0)) μ = .ok (.nx (E ((pre ++ ps).foldl f s0))) μ
  | [], pre, _ => by simp [forL]
  | p :: ps, pre, h => by
    have e := h pre p ps rfl
    have ih := for_pre G E f (s0 := s0) (ps := ps) (pre := pre ++ [p]) (fun pre' q post hq => h pre' q post (by rw [← hq]; simp))
    simp only [List.map_cons, forL, e, bind_ok]
    rw [show f (pre.foldl f s0) p = (pre ++ [p]).foldl f s0 from by simp, ih]
    simp
theorem in_ints {a : Int} {xs : List Int} {μ : Mem} : cmpD .NotIn (.int a) (.tup (il xs)) μ = .ok (!decide (a ∈ xs)) μ := by
  have e1 : (il xs).all flat = true := List.all_eq_true.mpr fun d hd => by
    obtain ⟨v, _, rfl⟩ := List.mem_map.mp hd
    rfl
  have e2 : ((il xs).any fun z => eqF z (.int a)) = decide (a ∈ xs) := by
    rw [Bool.eq_iff_iff, List.any_eq_true, decide_eq_true_eq]
    refine ⟨fun ⟨d, hd, h⟩ => ?_, fun h => ⟨.int a, List.mem_map.mpr ⟨a, h, rfl⟩, by simp [eqF]⟩⟩
    obtain ⟨v, hv, rfl⟩ := List.mem_map.mp hd
    have : v = a := by simpa [eqF] using h
    rw [← this]
    exact hv
  have e3 : inD μ (.int a) (.tup (il xs)) = some (decide (a ∈ xs)) := by
    show (match asSeq μ (.tup (il xs)) with | some ys => if flat (.int a) && ys.all flat then some (ys.any fun z => eqF z (.int a)) else none | none => none) = _
    show (if flat (.int a) && (il xs).all flat then some ((il xs).any fun z => eqF z (.int a)) else none) = _
    rw [e1, e2]
    rfl
  simp only [cmpD, cmpB, e3, Option.map_some]
theorem b_tup {xs ys : List D} {μ : Mem} (h : xs.length + ys.length ≤ 16777216) : binD .Add (.tup xs) (.tup ys) μ = .ok (.tup (xs ++ ys)) μ := by
  show (if fits (xs.length + ys.length) then _ else _) = _
  rw [if_pos (by simpa [fits] using h)]
/-- a new list, one that may be changed -/
theorem cel_ok {ds : List D} {μ : Mem} : celR (.ok (.lst ds) μ) = .ok (.cel μ.length) (μ ++ [some (.lst ds)]) := rfl
/-- the last thing is done -/
theorem frz_last {μ : Mem} {c : Option Cell} : (μ ++ [c]).set μ.length none = μ ++ [none] := by
  rw [List.set_append_right _ _ (Nat.le_refl _), Nat.sub_self]
  rfl
end Den

/-! Den14: expressions are sound: pairs, comprehensions; all. -/
namespace Den
open PySem PySem.Spec PyProof.Rows L2 RZ
variable [Lams]

theorem walk_enT {K : PySem.W.Frag} {a : Addr} {xs : List V} : Walk (ZN.IteT K a) xs.length (fun H => SqT K H a xs) (YPair (fun i => some (.int (i : Nat))) (fun i => xs[i]?)) where
  goes := fun i H hi q => ⟨xs, xs[i], q, List.getElem?_eq_getElem hi⟩
  stops := fun H q => ⟨xs, q, Nat.le_refl _⟩
  yields := fun i H v H' _ q y => by
    obtain ⟨T, x, h1, h2, h3, h4⟩ := y
    exact ⟨T, .int (i : Nat), x, h1, h2, h3, rfl, h4 xs q⟩
/-- the i-th column -/
def colAt : List (List V) → Nat → Option (List V)
  | [], _ => some []
  | xs :: r, i => match xs[i]?, colAt r i with
    | some v, some vs => some (v :: vs)
    | _, _ => none
def AllK (K : PySem.W.Frag) (H : Hp) : List (ZN.SK × Addr) → List (List V) → Prop
  | [], [] => True
  | c :: cs, xs :: r => ZN.SqK K H c.1 c.2 xs ∧ AllK K H cs r
  | _, _ => False
theorem allK_row {K : PySem.W.Frag} {H : Hp} {i : Nat} : ∀ {cs : List (ZN.SK × Addr)} {xss : List (List V)}, AllK K H cs xss → (∀ xs ∈ xss, i < xs.length) → ∃ vs, ZN.Row K H i cs vs
  | [], [], _, _ => ⟨[], trivial⟩
  | [], _ :: _, h, _ => h.elim
  | _ :: _, [], h, _ => h.elim
  | c :: cs, xs :: r, ⟨h1, h2⟩, hl => by
    obtain ⟨vs, q⟩ := allK_row h2 fun ys hy => hl ys (List.mem_cons_of_mem _ hy)
    have l1 := hl xs List.mem_cons_self
    exact ⟨xs[i] :: vs, ⟨xs, h1, List.getElem?_eq_getElem l1⟩, q⟩
theorem allK_stop {K : PySem.W.Frag} {H : Hp} {n : Nat} : ∀ {cs : List (ZN.SK × Addr)} {xss : List (List V)}, AllK K H cs xss → (∀ c ∈ cs, ∃ xs, ZN.SqK K H c.1 c.2 xs) ∧ ((∃ xs ∈ xss, xs.length ≤ n) → ∃ c ∈ cs, ∃ xs, ZN.SqK K H c.1 c.2 xs ∧ xs.length ≤ n)
  | [], [], _ => ⟨(fun c hc => nomatch hc), fun ⟨_, h, _⟩ => nomatch h⟩
  | [], _ :: _, h => h.elim
  | _ :: _, [], h => h.elim
  | c :: cs, xs :: r, ⟨h1, h2⟩ => by
    obtain ⟨q1, q2⟩ := allK_stop (n := n) h2
    refine ⟨fun d hd => ?_, fun ⟨ys, hy, hl⟩ => ?_⟩
    · rcases List.mem_cons.mp hd with rfl | hd
      · exact ⟨xs, h1⟩
      · exact q1 d hd
    · rcases List.mem_cons.mp hy with rfl | hy
      · exact ⟨c, List.mem_cons_self, ys, h1, hl⟩
      · obtain ⟨d, hd, q3⟩ := q2 ⟨ys, hy, hl⟩
        exact ⟨d, List.mem_cons_of_mem _ hd, q3⟩
theorem allK_col {K : PySem.W.Frag} {H : Hp} {i : Nat} : ∀ {cs : List (ZN.SK × Addr)} {xss : List (List V)} {vs : List V}, AllK K H cs xss → ZN.RowA K H i cs vs → colAt xss i = some vs
  | [], [], [], _, _ => rfl
  | [], [], _ :: _, _, h => h.elim
  | [], _ :: _, _, h, _ => h.elim
  | _ :: _, [], _, h, _ => h.elim
  | _ :: _, _ :: _, [], _, h => h.elim
  | c :: cs, xs :: r, v :: vs, ⟨h1, h2⟩, ⟨q1, q2⟩ => by
    unfold colAt
    rw [q1 xs h1, allK_col h2 q2]
theorem walk_N {K : PySem.W.Frag} {cs : List (ZN.SK × Addr)} {xss : List (List V)} {n : Nat} (h1 : ∀ xs ∈ xss, n ≤ xs.length) (h2 : ∃ xs ∈ xss, xs.length ≤ n) : Walk (ZN.ItN K cs) n (fun H => AllK K H cs xss) (YRow (colAt xss)) where
  goes := fun i H hi q => allK_row q fun xs hx => Nat.lt_of_lt_of_le hi (h1 xs hx)
  stops := fun H q => ⟨(allK_stop (n := n) q).1, (allK_stop q).2 h2⟩
  yields := fun i H v H' _ q y => by
    obtain ⟨T, vs, e1, e2, e3, e4⟩ := y
    exact ⟨T, vs, e1, e2, e3, allK_col q e4⟩
theorem pairL3_get : ∀ {xs ys zs : List D} {i : Nat} {d : D}, (pairL3 xs ys zs)[i]? = some d → ∃ x y z, xs[i]? = some x ∧ ys[i]? = some y ∧ zs[i]? = some z ∧ d = .tup [x, y, z]
  | [], _, _, i, d, h => by simp [pairL3] at h
  | _ :: _, [], _, i, d, h => by simp [pairL3] at h
  | _ :: _, _ :: _, [], i, d, h => by simp [pairL3] at h
  | x :: xs, y :: ys, z :: zs, i, d, h => by
    cases i with
    | zero => simp only [pairL3, List.getElem?_cons_zero, Option.some.injEq] at h; exact ⟨x, y, z, rfl, rfl, rfl, h.symm⟩
    | succ i =>
      simp only [pairL3, List.getElem?_cons_succ] at h
      simp only [List.getElem?_cons_succ]
      exact pairL3_get h
theorem pairL3_length : ∀ xs ys zs : List D, (pairL3 xs ys zs).length = min xs.length (min ys.length zs.length)
  | [], _, _ => by simp [pairL3]
  | _ :: _, [], _ => by simp [pairL3]
  | _ :: _, _ :: _, [] => by simp [pairL3]
  | _ :: xs, _ :: ys, _ :: zs => by
    simp only [pairL3, List.length_cons, pairL3_length xs ys zs]
    omega
theorem seqF_rd {K : PySem.W.Frag} {H : Hp} {φ : List Addr} {μ : Mem} {B : Addr → Prop} {d : D} {v : V} {xs : List D} (r : RdV K H (Live φ μ B) φ d v) (h : seqF d = some xs) :
    ∃ k a vs, v = .ref a ∧ ZN.SqK K H k a vs ∧ RdL K H (Live φ μ B) φ xs vs ∧ ∀ H' φ' μ', ExtU B H φ μ H' φ' μ' → ZN.SqK K H' k a vs := by
  cases d with
  | tup ys =>
    cases h
    obtain ⟨a, vs, rfl, q1, q2⟩ := rdV_tup r
    refine ⟨.t, a, vs, rfl, q1, q2, fun H' φ' μ' e => ?_⟩
    rcases q1 with (h1 | ⟨o, h1⟩) | h1
    · exact .inl (.inl (e.tup a vs h1))
    · exact .inl (.inr ⟨o, e.frz a o _ h1⟩)
    · exact .inr h1
  | lst ys =>
    cases h
    obtain ⟨a, vs, rfl, q1, n1, q2⟩ := rdV_lst r
    exact ⟨.l, a, vs, rfl, SqL.of q1, q2, fun H' φ' μ' e => SqL.of (e.keep a _ q1 nt_lst (fun z => n1 (.inr z)) (fun z => n1 (.inl z)))⟩
  | _ => cases h
section
variable {Γ : Nm} {g : G} {k : Nat} {N : List Str} {sc : Scope} {st : Str → Bool} {W : XK} {X : Cx}
theorem snd_zip {a b : C} (sa : Snd Γ g k N a) (sb : Snd Γ g k N b) : Snd Γ g k N (.zip a b) := by
  refine .ofI (fun _ _ => rfl) (fun _ _ => rfl) fun {sc t e st W X} h cx => ?_
  simp only [mI] at h
  split at h
  · split at h
    · rename_i y p x z pos
      simp only [Bool.and_eq_true, decide_eq_true_eq] at h
      obtain ⟨⟨⟨h1, h2⟩, h3⟩, h4⟩ := h
      subst h1
      have q := cx.blt h2
      have sx := star_eq (mE_forms h3).1 [z] X.env
      have sz := star_eq (mE_forms h4).1 [] X.env
      refine PI.weak (ZN.pi_zip2 q.1 q.2.1 (pa_cons (sa.e h3 cx) (pa_cons (sb.e h4 cx) pa_nil sz) sx) sx (by rw [sz]; rfl)) fun σ H R ⟨B, φ, ρ, μ, ab, hw⟩ => ?_
      refine ⟨B, φ, ρ, μ, ab, (DenI.bindV ab.mem.len hw).imp fun v H1 ⟨φ1, μ1, d, e1, m1, r1, h1⟩ => ⟨B, φ1, ρ, μ1, ab.ext e1 m1, (DenI.bindV m1.len h1).imp fun w H2 ⟨φ2, μ2, d2, e2, m2, r2, h2⟩ => ?_⟩⟩
      have r1' := RdV.mono e2 m1.len r1
      split at h2
      · rename_i xs ys hx hy
        obtain ⟨k1, a1, va, rfl, q1, l1, p1⟩ := seqF_rd r1' hx
        obtain ⟨k2, a2, vb, rfl, q2, l2, p2⟩ := seqF_rd r2 hy
        refine ⟨k1, k2, a1, a2, va, vb, rfl, q1, q2, DenI.here m2 h2 ?_⟩
        have n1 := l1.length
        have n2 := l2.length
        refine itok_row (walk_N (xss := [va, vb]) ?_ ?_) (fun H' φ' μ' e => ⟨p1 _ _ _ e, p2 _ _ _ e, trivial⟩) m2.len fun i d hd => ?_
        · intro zs hz
          rw [pairL_length]
          simp only [List.mem_cons, List.not_mem_nil, or_false] at hz
          rcases hz with rfl | rfl <;> omega
        · rw [pairL_length]
          by_cases hc : xs.length ≤ ys.length
          · exact ⟨va, by simp, by omega⟩
          · exact ⟨vb, by simp, by omega⟩
        · obtain ⟨x, y, g1, g2, rfl⟩ := pairL_get hd
          obtain ⟨v1, g3, g4⟩ := l1.get g1
          obtain ⟨v2, g5, g6⟩ := l2.get g2
          exact ⟨[x, y], [v1, v2], rfl, by simp [colAt, g3, g5], .cons g4 (.cons g6 .nil)⟩
      · exact False.elim h2
    · cases h
  · cases h
theorem snd_zip3 {a b c : C} (sa : Snd Γ g k N a) (sb : Snd Γ g k N b) (sc' : Snd Γ g k N c) : Snd Γ g k N (.zip3 a b c) := by
  refine .ofI (fun _ _ => rfl) (fun _ _ => rfl) fun {sc t e st W X} h cx => ?_
  simp only [mI] at h
  split at h
  · split at h
    · rename_i y p x z u pos
      simp only [Bool.and_eq_true, decide_eq_true_eq] at h
      obtain ⟨⟨⟨⟨h1, h2⟩, h3⟩, h4⟩, h5⟩ := h
      subst h1
      have q := cx.blt h2
      have sx := star_eq (mE_forms h3).1 [z, u] X.env
      have sz := star_eq (mE_forms h4).1 [u] X.env
      have su := star_eq (mE_forms h5).1 [] X.env
      refine PI.weak (ZN.pi_zip3 q.1 q.2.1 (pa_cons (sa.e h3 cx) (pa_cons (sb.e h4 cx) (pa_cons (sc'.e h5 cx) pa_nil su) sz) sx) sx (by rw [sz, su]; rfl)) fun σ H R ⟨B, φ, ρ, μ, ab, hw⟩ => ?_
      refine ⟨B, φ, ρ, μ, ab, (DenI.bindV ab.mem.len hw).imp fun v H1 ⟨φ1, μ1, d, e1, m1, r1, h1⟩ => ⟨B, φ1, ρ, μ1, ab.ext e1 m1, (DenI.bindV m1.len h1).imp fun w H2 ⟨φ2, μ2, d2, e2, m2, r2, h2⟩ =>
        ⟨B, φ2, ρ, μ2, (ab.ext e1 m1).ext e2 m2, (DenI.bindV m2.len h2).imp fun v3 H3 ⟨φ3, μ3, d3, e3, m3, r3, h3⟩ => ?_⟩⟩⟩
      have r1' := RdV.mono e3 m2.len (RdV.mono e2 m1.len r1)
      have r2' := RdV.mono e3 m2.len r2
      split at h3
      · rename_i xs ys zs hx hy hz
        obtain ⟨k1, a1, va, rfl, q1, l1, p1⟩ := seqF_rd r1' hx
        obtain ⟨k2, a2, vb, rfl, q2, l2, p2⟩ := seqF_rd r2' hy
        obtain ⟨k3, a3, vc, rfl, q3, l3, p3⟩ := seqF_rd r3 hz
        refine ⟨k1, k2, k3, a1, a2, a3, va, vb, vc, rfl, q1, q2, q3, DenI.here m3 h3 ?_⟩
        have n1 := l1.length
        have n2 := l2.length
        have n3 := l3.length
        refine itok_row (walk_N (xss := [va, vb, vc]) ?_ ?_) (fun H' φ' μ' e => ⟨p1 _ _ _ e, p2 _ _ _ e, p3 _ _ _ e, trivial⟩) m3.len fun i d hd => ?_
        · intro ws hw
          rw [pairL3_length]
          simp only [List.mem_cons, List.not_mem_nil, or_false] at hw
          rcases hw with rfl | rfl | rfl <;> omega
        · rw [pairL3_length]
          by_cases hc : xs.length ≤ ys.length
          · by_cases hc2 : xs.length ≤ zs.length
            · exact ⟨va, by simp, by omega⟩
            · exact ⟨vc, by simp, by omega⟩
          · by_cases hc2 : ys.length ≤ zs.length
            · exact ⟨vb, by simp, by omega⟩
            · exact ⟨vc, by simp, by omega⟩
        · obtain ⟨x, y, z, g1, g2, g7, rfl⟩ := pairL3_get hd
          obtain ⟨v1, g3, g4⟩ := l1.get g1
          obtain ⟨v2, g5, g6⟩ := l2.get g2
          obtain ⟨v3, g8, g9⟩ := l3.get g7
          exact ⟨[x, y, z], [v1, v2, v3], rfl, by simp [colAt, g3, g5, g8], .cons g4 (.cons g6 (.cons g9 .nil))⟩
      · exact False.elim h3
    · cases h
  · cases h
theorem snd_enm {a : C} (sa : Snd Γ g k N a) : Snd Γ g k N (.enm a) := by
  refine .ofI (fun _ _ => rfl) (fun _ _ => rfl) fun {sc t e st W X} h cx => ?_
  simp only [mI] at h
  split at h
  · split at h
    · rename_i y p x pos
      simp only [Bool.and_eq_true, decide_eq_true_eq] at h
      obtain ⟨⟨h1, h2⟩, h3⟩ := h
      subst h1
      have q := cx.blt h2
      have sx := star_eq (mE_forms h3).1 [] X.env
      refine PI.weak (ZN.pi_enumB q.1 q.2.1 (pa_cons (sa.e h3 cx) pa_nil sx) sx) fun σ H R ⟨B, φ, ρ, μ, ab, hw⟩ => ?_
      refine ⟨B, φ, ρ, μ, ab, (DenI.bindV ab.mem.len hw).imp fun v H1 ⟨φ1, μ1, d, e1, m1, r1, h1⟩ => ?_⟩
      have seq : ∀ {xs : List D}, seqF d = some xs → DenI X.K W B H1 φ1 μ1 (.ok (.tup (enumL 0 xs)) μ1) R →
          (∃ a vs, [v] = [V.ref a] ∧ ((SqL X.K H1 a vs ∧ R (Ite X.K a) H1) ∨ (SqT X.K H1 a vs ∧ R (ZN.IteT X.K a) H1))) ∨ ∃ z, [v] = [V.str z] ∧ R (ZN.IteS z) H1 := fun {xs} hx h1 => by
        obtain ⟨k1, a1, va, rfl, q1, l1, p1⟩ := seqF_rd r1 hx
        have n1 := l1.length
        have each : ∀ {J : It} {G : Hp → Prop}, Walk J va.length G (YPair (fun i => some (.int (i : Nat))) (fun i => va[i]?)) → (∀ H' φ' μ', ExtU B H1 φ1 μ1 H' φ' μ' → G H') → ItOk X.K H1 φ1 μ1 B J (enumL 0 xs) := fun {J G} w hG => by
          refine itok_pair (as := []) (bs := []) (w := by rw [enumL_length, n1]; exact w) hG m1.len fun i d hd => ?_
          obtain ⟨x, g1, rfl⟩ := enumL_get hd
          obtain ⟨v1, g3, g4⟩ := l1.get g1
          exact ⟨.int (i : Nat), x, .int (i : Nat), v1, by rw [Nat.zero_add], rfl, g3, rd_int, g4⟩
        refine .inl ⟨a1, va, rfl, ?_⟩
        cases k1 with
        | l => exact .inl ⟨q1, DenI.here m1 h1 (each walk_enum fun H' φ' μ' e => p1 _ _ _ e)⟩
        | t => exact .inr ⟨q1, DenI.here m1 h1 (each walk_enT fun H' φ' μ' e => p1 _ _ _ e)⟩
      cases d with
      | str z =>
        refine .inr ⟨z, by rw [rdV_str r1], DenI.here m1 h1 ?_⟩
        have e : (enumL 0 (strL z)).length = z.cps.size := by rw [enumL_length]; unfold strL; rw [List.length_map, Array.length_toList]
        refine itok_pair (as := []) (bs := []) (vs := fun i => some (.int (i : Nat))) (ws := fun i => (z.cps[i]?).map fun c => .str ⟨#[c]⟩) (G := fun _ => True) (w := ?_) (fun _ _ _ _ => trivial) m1.len fun i d hd => ?_
        · rw [e]
          refine ⟨fun i _ hi _ => hi, fun _ _ => Nat.le_refl _, fun i H' v' H2 _ _ y => ?_⟩
          obtain ⟨T, c, y1, y2, y3, y4⟩ := y
          exact ⟨T, .int (i : Nat), .str ⟨#[c]⟩, y1, y2, y4, rfl, by show (z.cps[i]?).map _ = _; rw [y3]; rfl⟩
        · obtain ⟨x, g1, rfl⟩ := enumL_get hd
          unfold strL at g1
          rw [List.getElem?_map, Array.getElem?_toList] at g1
          cases hc : z.cps[i]? with
          | none => rw [hc] at g1; cases g1
          | some c =>
            rw [hc] at g1
            cases g1
            exact ⟨.int (i : Nat), .str ⟨#[c]⟩, .int (i : Nat), .str ⟨#[c]⟩, by rw [Nat.zero_add], rfl, rfl, rd_int, rd_str⟩
      | tup xs => exact seq rfl h1
      | lst xs => exact seq rfl h1
      | _ => exact False.elim h1
    · cases h
  · cases h
/-- a comprehension's parts in its block -/
theorem pts_of {Γ : Nm} {g : G} {k : Nat} {N : List Str} {sc : Scope} {st : Str → Bool} {X : Cx} {cnd : C} {ifs : List Expr} (s1 : Snd Γ g k N cnd) (c2 : Cxd Γ g k N sc st noW X) (h5 : (match ifs with | [] => isNop cnd | [x] => mE Γ N sc cnd x | _ => false) = true) : PTs X ifs (ttOf X.K g cnd) := by
  cases ifs with
  | nil =>
    have e : cnd = .nop := by cases cnd <;> first | rfl | cases h5
    subst e
    exact pts_nil
  | cons x r =>
    cases r with
    | nil =>
      dsimp only at h5
      have e : ttOf X.K g cnd = tT X.K noW g cnd := by cases cnd <;> first | rfl | (simp [mE] at h5)
      rw [e]
      exact pts_one (s1.t h5 c2)
    | cons _ _ => cases h5
theorem PII.weak {X : Cx} {tg e : Expr} {t t' : TI} (h : PII X tg e t) (f : ∀ σ H Q, t' σ H Q → t σ H Q) : PII X tg e t' := ⟨fun pins s σ H Q I hw => h.run pins s σ H Q I (f σ H Q hw)⟩
theorem snd_cmpn {own : List (Str × Nat)} {tg : T} {it cnd elt : C} (si : ∀ {Γ : Nm} {g : G} {k : Nat} {N : List Str}, Snd Γ g k N it) (s1 : ∀ {Γ : Nm} {g : G} {k : Nat} {N : List Str}, Snd Γ g k N cnd) (se : ∀ {Γ : Nm} {g : G} {k : Nat} {N : List Str}, Snd Γ g k N elt) : Snd Γ g k N (.cmpn own tg it cnd elt) := by
  refine .ofE (fun h => ?_) (fun _ _ => rfl) (fun _ _ _ => rfl) fun {sc e st W X} h cx => ?_
  · simp only [mE] at h; split at h <;> first | rfl | cases h
  · simp only [mE] at h
    split at h
    · rename_i el t i ifs scope pos
      simp only [Bool.and_eq_true, Bool.not_eq_true'] at h
      obtain ⟨⟨⟨⟨⟨⟨ho, h1⟩, h2⟩, h3⟩, h4⟩, h5⟩, h6⟩ := h
      have ok : BlkOk X.N X.env.scope scope own := by rw [cx.nm, cx.scp]; exact blkOk_by h1
      have hs : ∀ i ∈ tg.slots, i ∈ own.map (·.2) := fun i hi => List.contains_iff_mem.mp (List.all_eq_true.mp h2 i hi)
      refine PE.weak (pe_lc (tt := ttOf X.K g cnd) (cx.calm ho) cx.nd (si.i h4 cx) ok (fun s H C cl fp => ?_) (fun s H C cl fp => ?_) (fun s H C cl fp => ?_) (folded_eq (mI_notSet h4) X.env)) fun σ H Q hw => comp_den hs hw
      · have c2 := cx.blk s H scope cl C fp own (fun z => by rw [ho] at z; cases z)
        exact s_tgt c2.nm c2.nd c2.scp (.inl (c2.calm ho)) c2.sto h3
      · exact pts_of s1 (cx.blk s H scope cl C fp own (fun z => by rw [ho] at z; cases z)) h5
      · exact se.e h6 (cx.blk s H scope cl C fp own (fun z => by rw [ho] at z; cases z))
    · cases h
theorem snd_cmp2 {own : List (Str × Nat)} {tg tg1 : T} {it cnd it1 cnd1 elt : C} (si : ∀ {Γ : Nm} {g : G} {k : Nat} {N : List Str}, Snd Γ g k N it) (s1 : ∀ {Γ : Nm} {g : G} {k : Nat} {N : List Str}, Snd Γ g k N cnd) (si1 : ∀ {Γ : Nm} {g : G} {k : Nat} {N : List Str}, Snd Γ g k N it1)
    (s2 : ∀ {Γ : Nm} {g : G} {k : Nat} {N : List Str}, Snd Γ g k N cnd1) (se : ∀ {Γ : Nm} {g : G} {k : Nat} {N : List Str}, Snd Γ g k N elt) : Snd Γ g k N (.cmp2 own tg it cnd tg1 it1 cnd1 elt) := by
  refine .ofE (fun h => ?_) (fun _ _ => rfl) (fun _ _ _ => rfl) fun {sc e st W X} h cx => ?_
  · simp only [mE] at h; split at h <;> first | rfl | cases h
  · simp only [mE] at h
    split at h
    · rename_i el t i ifs t1 i1 ifs1 scope pos
      simp only [Bool.and_eq_true, Bool.not_eq_true'] at h
      obtain ⟨⟨⟨⟨⟨⟨⟨⟨⟨⟨ho, h1⟩, h2⟩, h3⟩, h4⟩, h5⟩, h6⟩, h7⟩, h8⟩, h9⟩, h10⟩ := h
      have ok : BlkOk X.N X.env.scope scope own := by rw [cx.nm, cx.scp]; exact blkOk_by h1
      have hs : ∀ i ∈ tg.slots, i ∈ own.map (·.2) := fun i hi => List.contains_iff_mem.mp (List.all_eq_true.mp h2 i hi)
      have hv : ∀ i ∈ tg1.slots, i ∈ own.map (·.2) := fun i hi => List.contains_iff_mem.mp (List.all_eq_true.mp h3 i hi)
      have blk := fun s H C cl fp => cx.blk s H scope cl C fp own (fun z => by rw [ho] at z; cases z)
      refine PE.weak (pe_lc2 (vs1 := tg1.slots) (tt := ttOf X.K g cnd) (tt1 := ttOf X.K g cnd1) (cx.calm ho) cx.nd (si.i h6 cx) ok hv (fun s H C cl fp => ?_) (fun s H C cl fp => ?_) (fun s H C cl fp => ?_) (fun s H C cl fp => ?_) (fun s H C cl fp => ?_) (fun s H C cl fp => ?_) (folded_eq (mI_notSet h6) X.env)
        (folded_eq (mI_notSet h7))) fun σ H Q hw => comp2_den hs hw
      · have c2 := blk s H C cl fp
        exact s_tgt c2.nm c2.nd c2.scp (.inl (c2.calm ho)) c2.sto h4
      · exact pts_of s1 (blk s H C cl fp) h8
      · exact si1.i h7 (blk s H C cl fp)
      · have c2 := blk s H C cl fp
        exact s_tgt c2.nm c2.nd c2.scp (.inl (c2.calm ho)) c2.sto h5
      · exact pts_of s2 (blk s H C cl fp) h9
      · exact se.e h10 (blk s H C cl fp)
    · cases h
theorem popD_rd {K : PySem.W.Frag} {W : XK} {H : Hp} {φ : List Addr} {μ : Mem} {B : Addr → Prop} {x : D} {v : V} {Q : VK} (m : MemOk K H φ μ B) (r : RdV K H (Live φ μ B) φ x v) (h : DenV K W B H φ μ (popD x μ) Q) :
    ∃ a xs y, v = .ref a ∧ H a = some (.lst xs) ∧ xs[xs.length - 1]? = some y ∧ Q y (upd H a (.lst xs.dropLast)) := by
  unfold popD at h
  split at h
  · split at h
    · rename_i n _ xs hn
      split at h
      · rename_i d hd
        simp only [RdV] at r
        obtain ⟨a, ha, rfl⟩ := r
        obtain ⟨⟨_, vs, q1, rfl, q2⟩, _⟩ := m.cell n _ a hn ha
        have q2 : RdL K H (Live φ μ B) φ xs vs := q2
        have hl := q2.length
        obtain ⟨y, y1, y2⟩ := q2.get hd
        obtain ⟨e3, m3⟩ := write_cell m hn ha q1 (ys := xs.dropLast) (ws := vs.dropLast) (by rw [List.dropLast_eq_take, List.dropLast_eq_take, ← hl]; exact q2.take _)
        refine ⟨a, vs, y, rfl, q1, by rw [← hl]; exact y1, ?_⟩
        exact h y _ φ e3 m3 (RdV.mono e3 m.len y2)
      · exact False.elim h
    · exact False.elim h
  · exact False.elim h
theorem evE_cmpl (own : List (Str × Nat)) (tg : T) (a cnd elt : C) (ρ : DEnv) (μ : Mem) : evE g (.cmpl own tg a cnd elt) ρ μ = evE g (.cmpn own tg (.itl a) cnd elt) ρ μ := by
  simp only [evE]
  rw [R.bind_assoc]
  cases evE g a ρ μ with
  | ok d m => cases d <;> rfl
  | er x m => rfl
  | no => rfl
theorem snd_cmpl {own : List (Str × Nat)} {tg : T} {a cnd elt : C} (sa : ∀ {Γ : Nm} {g : G} {k : Nat} {N : List Str}, Snd Γ g k N a) (s1 : ∀ {Γ : Nm} {g : G} {k : Nat} {N : List Str}, Snd Γ g k N cnd) (se : ∀ {Γ : Nm} {g : G} {k : Nat} {N : List Str}, Snd Γ g k N elt) : Snd Γ g k N (.cmpl own tg a cnd elt) := by
  refine .ofE (fun h => ?_) (fun _ _ => rfl) (fun _ _ _ => rfl) fun {sc e st W X} h cx => ?_
  · simp only [mE] at h; split at h <;> first | rfl | cases h
  · simp only [mE] at h
    split at h
    · rename_i el t i ifs scope pos
      simp only [Bool.and_eq_true] at h
      obtain ⟨⟨⟨⟨⟨⟨ho, h1⟩, h2⟩, h3⟩, h4⟩, h5⟩, h6⟩ := h
      have ok : BlkOk X.N X.env.scope scope own := by rw [cx.nm, cx.scp]; exact blkOk_by h1
      have hs : ∀ i ∈ tg.slots, i ∈ own.map (·.2) := fun i hi => List.contains_iff_mem.mp (List.all_eq_true.mp h2 i hi)
      refine PE.weak (pe_lcH (wi := tI X.K W g (.itl a)) (g := gT X.K tg) (tt := ttOf X.K g cnd) (te := tC X.K noW g elt) (cx.hoti ho) cx.nd (PII.weak (pii_list (sa.e h4 cx)) fun σ H R hw => w_itl hw) ok (fun s H C cl fp hI => ?_) (fun s H C cl fp hI => ?_) (fun s H C cl fp hI => ?_) (folded_eq (mE_forms h4).2 X.env)) fun σ H Q hw => ?_
      · have c2 := cx.blk s H scope cl C fp own (fun _ => hI)
        exact s_tgt c2.nm c2.nd c2.scp (.inr hI) c2.sto h3
      · exact pts_of s1 (cx.blk s H scope cl C fp own (fun _ => hI)) h5
      · exact se.e h6 (cx.blk s H scope cl C fp own (fun _ => hI))
      · obtain ⟨B, φ, ρ, μ, ab, hw⟩ := hw
        rw [evE_cmpl] at hw
        exact comp_den hs ⟨B, φ, ρ, μ, ab, hw⟩
    · cases h
theorem snd_isx {i : Nat} {x : Str} : Snd Γ g k N (.isx i x) := by
  refine .ofE (fun h => ?_) (fun _ _ => rfl) (fun _ _ _ => rfl) fun {sc e st W X} h cx => ?_
  · simp only [mE] at h; split at h <;> first | rfl | cases h
  · simp only [mE] at h
    split at h
    · rename_i y p1 z p2 c p3 pos
      simp only [Bool.and_eq_true, decide_eq_true_eq] at h
      obtain ⟨⟨⟨⟨⟨⟨⟨⟨⟨h1, h2⟩, h3⟩, h4⟩, h5⟩, h6⟩, h7⟩, h8⟩, h9⟩, h10⟩ := h
      subst h2
      subst h7
      have q := cx.blt h3
      have nz := nmOk_out h6
      have nc := nmOk_out h9
      obtain ⟨ex, e1, e2, e3⟩ := cx.isx h1
      have bt : bootBuiltins ("isinstance" : Str) = some (.builtin "isinstance") := by decide +kernel
      refine PE.weak (pe_callB e2 q.1 q.2.1 bt (pa_cons (pe_var (by rw [cx.nm]; exact h4) (visB_out (by rw [cx.scp]; exact h5)) nz.1 nz.2.1) (pa_cons (pe_glob (v := .ref (He.ga X.K x)) (glB_out (by rw [cx.scp]; exact h8)) (cx.cls x h10) rfl nc.1) pa_nil)) q.2.2.2 q.2.2.1) fun σ H Q ⟨B, φ, ρ, μ, ab, hw⟩ => ?_
      simp only [evE, e1] at hw
      split at hw
      · rename_i hi
        split at hw
        · rename_i b hb
          obtain ⟨v, r1, r2⟩ := ab.env i _ hi
          have hv : v = .ref Lams.exa := by simpa only [RdV] using r2
          subst hv
          exact ⟨_, r1, .ref (He.ga X.K x), .ref (He.ga X.K x), b, rfl, fun u hu => hu, e3 x b h10 hb, DenV.here ab.mem hw rd_bl⟩
        · exact False.elim hw
      · exact False.elim hw
    · cases h
theorem strsOf_rd {K : PySem.W.Frag} {H : Hp} {L : Addr → Prop} {φ : List Addr} : ∀ {ds : List D} {vs : List V} {ns : List Str}, RdL K H L φ ds vs → strsOf ds = some ns → vs = ns.map V.str
  | [], vs, ns, h, q => by
    simp only [strsOf, Option.some.injEq] at q
    simp only [RdL] at h
    subst q h
    rfl
  | d :: ds, vs, ns, h, q => by
    cases d with
    | str z =>
      simp only [strsOf] at q
      simp only [RdL] at h
      obtain ⟨w, ws, rfl, h1, h2⟩ := h
      cases e : strsOf ds with
      | none => rw [e] at q; cases q
      | some l =>
        rw [e] at q
        cases q
        rw [strsOf_rd h2 e, rdV_str h1]
        rfl
    | _ => simp [strsOf] at q
theorem snd_joi {a b : C} (sa : Snd Γ g k N a) (sb : Snd Γ g k N b) : Snd Γ g k N (.joi a b) := by
  refine .ofE (fun h => ?_) (fun _ _ => rfl) (fun _ _ _ => rfl) fun {sc e st W X} h cx => ?_
  · simp only [mE] at h; split at h <;> first | rfl | cases h
  · simp only [mE] at h
    split at h
    · rename_i v n ap x cp
      simp only [Bool.and_eq_true, decide_eq_true_eq] at h
      obtain ⟨⟨⟨⟨h1, h2⟩, h3⟩, h4⟩, h5⟩ := h
      subst h1
      refine PE.weak (pe_join (sa.e h4 cx) (sb.e h5 cx) (star_eq (mE_forms h5).1 [] X.env) (base_eq h2 _ _ _) h3) fun σ H Q ⟨B, φ, ρ, μ, ab, hw⟩ => ?_
      refine ⟨B, φ, ρ, μ, ab, (DenV.bindV ab.mem.len hw).imp fun v H1 ⟨φ1, μ1, d, e1, m1, r1, h1⟩ => ?_⟩
      cases d with
      | str z =>
        refine ⟨⟨z, rdV_str r1⟩, B, φ1, ρ, μ1, ab.ext e1 m1, (DenV.bindV m1.len h1).imp fun w H2 ⟨φ2, μ2, d2, e2, m2, r2, h2⟩ => ?_⟩
        unfold joiD at h2
        split at h2
        · rename_i ys hy
          split at h2
          · rename_i zs hz
            split at h2
            · rename_i hl
              obtain ⟨p, vs, rfl, sq, rl⟩ := asSeq_rd m2 r2 hy
              have e := strsOf_rd rl hz
              rw [e] at sq
              exact ⟨z, p, zs, rdV_str r1, rfl, sq, of_decide_eq_true hl, DenV.here m2 h2 rd_str⟩
            · exact False.elim h2
          · exact False.elim h2
        · exact False.elim h2
      | _ => exact False.elim h1
    · cases h
theorem rd_toV {K : PySem.W.Frag} {H : Hp} {L : Addr → Prop} {φ : List Addr} {d : D} (h : flat d = true) : RdV K H L φ d (toV d) := by
  cases d <;> first | (cases h; done) | (simp only [RdV, toV])
theorem Cxd.lamb (cx : Cxd Γ g k N sc st W X) (hh : Γ.hot = false) (hi : Γ.isx = false) {k2 : Nat} (low : ∀ f, Γ.fns.contains f = true → ∃ fd ps, FnOk X.prog X.w X.K X.mg X.base (L2N.CX X.prog X.w) k2 (He.ga X.K f) fd ps (spOf X.K g.low f) ∧ Binds X.K fd ps [])
    {A : Around} {outer : List PySem.Env} {s : Shared} {H : Hp} {E : XK} {scope : Scope} {f c' : Addr} (hr : Room k2 (A.deeper (LamX.lamEnv X scope s.heap.objs.size f c'))) :
    Cxd Γ.low g.low k2 N scope (fun _ => false) E (lamN X A outer s H E scope f c') where
  nd := cx.nd
  nm := cx.nm
  scp := rfl
  calm := fun _ => rfl
  hoti := fun z => by rw [show Γ.low.hot = Γ.hot from rfl, hh] at z; cases z
  sto := fun x h => by cases h
  room := fun _ => hr
  un := hr.units
  isx := fun z => by rw [show Γ.low.isx = Γ.isx from rfl, hi] at z; cases z
  cls := cx.cls
  takes := L2N.takes_of rfl rfl rfl rfl
  own := PassesOwn.leaving
  glo := cx.glo
  con := cx.con
  free := cx.free
  bfn := cx.bfn
  exs := cx.exs
  flds := cx.flds
  mts := fun c m n h => by cases h
  mks := fun c n h => by cases h
  low := fun h => by cases h
  hnd := cx.hnd
  lam := fun h => by cases h
  fns := low
theorem noPar_out {p : Arguments} (h : noPar p = true) : p = ⟨[], [], none, [], [], none, []⟩ := by
  unfold noPar at h
  split at h
  · rfl
  · cases h
theorem told_out {K : PySem.W.Frag} {W : XK} {B : Addr → Prop} {H : Hp} {φ : List Addr} {μ μ' : Mem} {r : Option D} {Q : VK} (h : DenV K W B H φ μ (told r μ') Q) : ∃ d, r = some d ∧ flat d = true ∧ ∀ H' φ', Ext H φ μ H' φ' μ' → MemOk K H' φ' μ' B → Q (toV d) H' := by
  unfold told at h
  split at h
  · rename_i d
    split at h
    · rename_i hf
      exact ⟨d, rfl, hf, fun H' φ' e m => h _ H' φ' e m (rd_toV hf)⟩
    · exact False.elim h
  · exact False.elim h
theorem snd_pop0 {o : C} (so : Snd Γ g k N o) : Snd Γ g k N (.pop0 o) := by
  refine .ofE (fun h => ?_) (fun _ _ => rfl) (fun _ _ _ => rfl) fun {sc e st W X} h cx => ?_
  · simp only [mE] at h; split at h <;> first | rfl | cases h
  · simp only [mE] at h
    split at h
    · rename_i x y ap cp
      simp only [Bool.and_eq_true, decide_eq_true_eq] at h
      obtain ⟨⟨⟨h1, h2⟩, h3⟩, h4⟩ := h
      subst h1
      refine PE.weak (pe_bm0 PySem.F.plainAttrs_list PySem.F.slot_list_pop PySem.F.type_list_pop mt_pop (so.e h4 cx) (base_eq h2 _ _ _) h3) fun σ H Q ⟨B, φ, ρ, μ, ab, hw⟩ => ?_
      refine ⟨B, φ, ρ, μ, ab, (DenV.bindV ab.mem.len hw).imp fun v H1 ⟨φ1, μ1, d, e1, m1, r1, h1⟩ => ?_⟩
      obtain ⟨a, xs, y, rfl, q1, q2, q3⟩ := popD_rd m1 r1 h1
      exact ⟨.inl ⟨rfl, xs, SqL.of q1⟩, a, xs, y, rfl, rfl, q1, q2, q3⟩
    · cases h
theorem isCel_out {K : PySem.W.Frag} {H : Hp} {φ : List Addr} {μ : Mem} {B : Addr → Prop} (m : MemOk K H φ μ B) {d : D} {v : V} (h : isCel μ d = true) (r : RdV K H (Live φ μ B) φ d v) :
    ∃ n a xs vs, d = .cel n ∧ v = .ref a ∧ μ[n]? = some (some (.lst xs)) ∧ φ[n]? = some a ∧ H a = some (.lst vs) ∧ RdL K H (Live φ μ B) φ xs vs := by
  unfold isCel at h
  split at h
  · rename_i n
    split at h
    · rename_i xs hn
      simp only [RdV] at r
      obtain ⟨a, ha, rfl⟩ := r
      obtain ⟨⟨_, vs, q1, rfl, q2⟩, _⟩ := m.cell n _ a hn ha
      exact ⟨n, a, xs, vs, rfl, rfl, hn, ha, q1, q2⟩
    · cases h
  · cases h
theorem RdL.rev {K : PySem.W.Frag} {H : Hp} {φ : List Addr} {L : Addr → Prop} : ∀ {ds : List D} {vs : List V}, RdL K H L φ ds vs → RdL K H L φ ds.reverse vs.reverse
  | [], vs, h => by
    simp only [RdL] at h
    subst h
    exact .nil
  | d :: ds, vs, h => by
    simp only [RdL] at h
    obtain ⟨w, ws, rfl, h1, h2⟩ := h
    rw [List.reverse_cons, List.reverse_cons]
    exact (RdL.rev h2).append (.cons h1 .nil)
theorem RdL.erase {K : PySem.W.Frag} {H : Hp} {φ : List Addr} {L : Addr → Prop} {ds : List D} {vs : List V} (n : Nat) (h : RdL K H L φ ds vs) : RdL K H L φ (ds.eraseIdx n) (vs.eraseIdx n) := by
  rw [List.eraseIdx_eq_take_drop_succ, List.eraseIdx_eq_take_drop_succ]
  exact (h.take n).append (h.drop (n + 1))
theorem snd_rev {a : C} (sa : Snd Γ g k N a) : Snd Γ g k N (.rev a) := by
  refine .ofE (fun h => ?_) (fun _ _ => rfl) (fun _ _ _ => rfl) fun {sc e st W X} h cx => ?_
  · simp only [mE] at h; split at h <;> first | rfl | cases h
  · simp only [mE] at h
    split at h
    · refine PE.weak (ZN.pe_rev (sa.e h cx)) fun σ H Q ⟨B, φ, ρ, μ, ab, hw⟩ => ?_
      refine ⟨B, φ, ρ, μ, ab, (DenV.bindV ab.mem.len hw).imp fun v H1 ⟨φ1, μ1, d, e1, m1, r1, h1⟩ => ?_⟩
      have lst : ∀ {xs : List D}, asLst μ1 d = some xs → DenV X.K W B H1 φ1 μ1 (.ok (.lst xs.reverse) μ1) Q → ∃ a xs, v = .ref a ∧
          ((SqL X.K H1 a xs ∧ ∀ p, H1 p = none → Q (.ref p) (upd H1 p (.lst xs.reverse))) ∨ (SqT X.K H1 a xs ∧ ∀ p, H1 p = none → Q (.ref p) (upd H1 p (.tup xs.reverse)))) := fun {xs} q1 q2 => by
        obtain ⟨a, vs, rfl, e1, e2⟩ := asLst_rd m1 r1 q1
        exact ⟨a, vs, rfl, .inl ⟨.of e1, fun p hp => DenV.new m1 q2 hp (rd_newL m1 hp e2.rev)⟩⟩
      cases d with
      | tup xs =>
        obtain ⟨a, vs, rfl, e1, e2⟩ := rdV_tup r1
        exact ⟨a, vs, rfl, .inr ⟨e1, fun p hp => DenV.new m1 h1 hp (rd_newT m1 hp e2.rev)⟩⟩
      | _ =>
        simp only [revD] at h1
        split at h1
        · rename_i xs q1
          exact lst q1 h1
        · exact False.elim h1
    · cases h
theorem snd_lset {a : C} (sa : Snd Γ g k N a) : Snd Γ g k N (.lset a) := by
  refine .ofE (fun h => ?_) (fun _ _ => rfl) (fun _ _ _ => rfl) fun {sc e st W X} h cx => ?_
  · simp only [mE] at h; split at h <;> first | rfl | cases h
  · simp only [mE] at h
    split at h
    · rename_i y p z p2 x p3 pos
      simp only [Bool.and_eq_true, decide_eq_true_eq, Bool.not_eq_true'] at h
      obtain ⟨⟨⟨⟨⟨ho, h1⟩, h2⟩, h3⟩, h4⟩, h5⟩ := h
      subst h1
      subst h3
      have q := cx.blt h2
      have q2 := cx.blt h4
      refine PE.weak (ZN.pe_lenSet (cx.calm ho) q.1 q.2.1 q2.1 q2.2.1 (sa.e h5 cx) (star_eq (mE_forms h5).1 [] X.env)) fun σ H Q ⟨B, φ, ρ, μ, ab, hw⟩ => ?_
      refine ⟨B, φ, ρ, μ, ab, (DenV.bindV ab.mem.len hw).imp fun v H1 ⟨φ1, μ1, d, e1, m1, r1, h1⟩ => ?_⟩
      cases d with
      | tup xs =>
        simp only [lsetD] at h1
        split at h1
        · rename_i ns hn
          split at h1
          · rename_i hl
            obtain ⟨a, vs, rfl, e1, e2⟩ := rdV_tup r1
            rw [intsOf_rd e2 hn] at e1
            exact ⟨a, ns, rfl, e1, of_decide_eq_true hl, DenV.here m1 h1 rd_int⟩
          · exact False.elim h1
        · exact False.elim h1
      | _ => exact False.elim h1
    · cases h
theorem rgV_rd {K : PySem.W.Frag} {H : Hp} {φ : List Addr} {L : Addr → Prop} (i j : Int) : RdL K H L φ (rngL i j) (rgV i j) := by
  have : ∀ l : List Nat, RdL K H L φ (l.map fun (n : Nat) => D.int (i + n)) (l.map fun (n : Nat) => V.int (i + n)) := by
    intro l
    induction l with
    | nil => exact .nil
    | cons n l ih => exact .cons rd_int ih
  exact this _
theorem rgOk_of {i j : Int} (h : (rngOk i && rngOk j && fits (rngL i j).length) = true) : RgOk i j := by
  simp only [Bool.and_eq_true, rngOk, decide_eq_true_eq] at h
  obtain ⟨⟨h1, h2⟩, h3⟩ := h
  have h3 := fits_iff.mp h3
  rw [sizeLine_eq] at h3
  have e : (rngL i j).length = (j - i).toNat := by unfold rngL; rw [List.length_map, List.length_range]
  rw [e] at h3
  exact ⟨by omega, by omega, by omega, by omega, by omega⟩
theorem rgl_out {X : Cx} {W : XK} {B : Addr → Prop} {H : Hp} {φ : List Addr} {μ : Mem} {kd : Nat} {i j : Int} {Q : VK} (m : MemOk X.K H φ μ B) (h : DenV X.K W B H φ μ (rglD kd i j μ) Q) :
    RgOk i j ∧ ((kd = 1 ∧ ∀ q, H q = none → Q (.ref q) (upd H q (.tup (rgV i j)))) ∨ (kd ≠ 1 ∧ ∀ q, H q = none → Q (.ref q) (upd H q (.lst (rgV i j))))) := by
  unfold rglD at h
  split at h
  · rename_i hr
    refine ⟨rgOk_of hr, ?_⟩
    split at h
    · exact .inr ⟨by decide, fun p hp => DenV.new m h hp (rd_newL m hp (rgV_rd i j))⟩
    · exact .inl ⟨rfl, fun p hp => DenV.new m h hp (rd_newT m hp (rgV_rd i j))⟩
    · rename_i n1 n2
      refine .inr ⟨n2, fun p hp => ?_⟩
      obtain ⟨e3, m3⟩ := new_cell m (c0 := .lst (rngL i j)) (o := .lst (rgV i j)) hp rfl (rgV_rd i j)
      refine h _ _ _ e3 m3 ?_
      simp only [RdV]
      exact ⟨p, by rw [← m.len, List.getElem?_append_right (Nat.le_refl _), Nat.sub_self]; rfl, rfl⟩
  · exact False.elim h
theorem tC_imp {X : Cx} {W : XK} {g : G} {c : C} {σ : L2.St} {H : Hp} {Q Q' : VK} (h : tC X.K W g c σ H Q) (f : ∀ v H1, Q v H1 → Q' v H1) : tC X.K W g c σ H Q' := by
  obtain ⟨B, φ, ρ, μ, ab, hw⟩ := h
  exact ⟨B, φ, ρ, μ, ab, hw.imp f⟩
theorem snd_rgl1 {kd : Nat} {a : C} (sa : Snd Γ g k N a) : Snd Γ g k N (.rgl1 kd a) := by
  refine .ofE (fun h => ?_) (fun _ _ => rfl) (fun _ _ _ => rfl) fun {sc e st W X} h cx => ?_
  · simp only [mE] at h; split at h <;> first | rfl | cases h
  · simp only [mE] at h
    split at h
    · rename_i y p z p2 x p3 pos
      simp only [Bool.and_eq_true, decide_eq_true_eq, Bool.not_eq_true'] at h
      obtain ⟨⟨⟨⟨⟨ho, h1⟩, h2⟩, h3⟩, h4⟩, h5⟩ := h
      subst h1
      subst h3
      have q := cx.blt h2
      have q2 := cx.blt h4
      have pr := prg_1 (p := p2) (pos := p3) q2.1 q2.2.1 (sa.e h5 cx) (star_eq (mE_forms h5).1 [] X.env)
      have ev : ∀ {σ : L2.St} {H : Hp} {Q : VK}, tC X.K W g (.rgl1 kd a) σ H Q → tRg1 (tC X.K W g a) σ H fun i j H1 => RgOk i j ∧ ((kd = 1 ∧ ∀ q, H1 q = none → Q (.ref q) (upd H1 q (.tup (rgV i j)))) ∨ (kd ≠ 1 ∧ ∀ q, H1 q = none → Q (.ref q) (upd H1 q (.lst (rgV i j))))) := fun {σ H Q} ⟨B, φ, ρ, μ, ab, hw⟩ => by
        refine ⟨B, φ, ρ, μ, ab, (DenV.bindV ab.mem.len hw).imp fun v H1 ⟨φ1, μ1, d, e1, m1, r1, h1⟩ => ?_⟩
        cases d with
        | int j => exact ⟨j, rdV_int r1, rgl_out m1 h1⟩
        | _ => exact False.elim h1
      by_cases hk : kd = 1
      · subst hk
        refine PE.weak (pe_tupRg (cx.calm ho) q.1 q.2.1 pr) fun σ H Q hw => ?_
        refine (tC_imp (ev hw)) fun v H1 ⟨n, e, ok, q⟩ => ⟨n, e, ok, q.elim (fun q => q.2) fun q => absurd rfl q.1⟩
      · have en : rgN kd = "list" := if_neg hk
        rw [en] at q ⊢
        refine PE.weak (pe_listRg (cx.calm ho) q.1 q.2.1 pr) fun σ H Q hw => ?_
        refine (tC_imp (ev hw)) fun v H1 ⟨n, e, ok, q⟩ => ⟨n, e, ok, q.elim (fun q => absurd q.1 hk) fun q => q.2⟩
    · cases h
theorem snd_rgl2 {kd : Nat} {a b : C} (sa : Snd Γ g k N a) (sb : Snd Γ g k N b) : Snd Γ g k N (.rgl2 kd a b) := by
  refine .ofE (fun h => ?_) (fun _ _ => rfl) (fun _ _ _ => rfl) fun {sc e st W X} h cx => ?_
  · simp only [mE] at h; split at h <;> first | rfl | cases h
  · simp only [mE] at h
    split at h
    · rename_i y p z p2 x w p3 pos
      simp only [Bool.and_eq_true, decide_eq_true_eq, Bool.not_eq_true'] at h
      obtain ⟨⟨⟨⟨⟨⟨ho, h1⟩, h2⟩, h3⟩, h4⟩, h5⟩, h6⟩ := h
      subst h1
      subst h3
      have q := cx.blt h2
      have q2 := cx.blt h4
      have sx := star_eq (mE_forms h5).1 [w] X.env
      have sw := star_eq (mE_forms h6).1 [] X.env
      have pr := prg_2 (p := p2) (pos := p3) q2.1 q2.2.1 (sa.e h5 cx) (sb.e h6 cx) sx sw (by rw [sw]; rfl)
      have ev : ∀ {σ : L2.St} {H : Hp} {Q : VK}, tC X.K W g (.rgl2 kd a b) σ H Q → tRg2 (tC X.K W g a) (tC X.K W g b) σ H fun i j H1 => RgOk i j ∧ ((kd = 1 ∧ ∀ q, H1 q = none → Q (.ref q) (upd H1 q (.tup (rgV i j)))) ∨ (kd ≠ 1 ∧ ∀ q, H1 q = none → Q (.ref q) (upd H1 q (.lst (rgV i j))))) := fun {σ H Q} ⟨B, φ, ρ, μ, ab, hw⟩ => by
        refine ⟨B, φ, ρ, μ, ab, (DenV.bindV ab.mem.len hw).imp fun v H1 ⟨φ1, μ1, d, e1, m1, r1, h1⟩ => ⟨B, φ1, ρ, μ1, ab.ext e1 m1, (DenV.bindV m1.len h1).imp fun v2 H2 ⟨φ2, μ2, d2, e2, m2, r2, h2⟩ => ?_⟩⟩
        have r1' := RdV.mono e2 m1.len r1
        cases d with
        | int i =>
          cases d2 with
          | int j => exact ⟨i, j, rdV_int r1', rdV_int r2, rgl_out m2 h2⟩
          | _ => exact False.elim h2
        | _ => exact False.elim h2
      by_cases hk : kd = 1
      · subst hk
        refine PE.weak (pe_tupRg (cx.calm ho) q.1 q.2.1 pr) fun σ H Q hw => ?_
        refine (tC_imp (ev hw)) fun v H1 hv => tC_imp hv fun v2 H2 ⟨i, j, e, e', ok, q⟩ => ⟨i, j, e, e', ok, q.elim (fun q => q.2) fun q => absurd rfl q.1⟩
      · have en : rgN kd = "list" := if_neg hk
        rw [en] at q ⊢
        refine PE.weak (pe_listRg (cx.calm ho) q.1 q.2.1 pr) fun σ H Q hw => ?_
        refine (tC_imp (ev hw)) fun v H1 hv => tC_imp hv fun v2 H2 ⟨i, j, e, e', ok, q⟩ => ⟨i, j, e, e', ok, q.elim (fun q => absurd q.1 hk) fun q => q.2⟩
    · cases h
theorem snd_popi {o i : C} (so : Snd Γ g k N o) (si : Snd Γ g k N i) : Snd Γ g k N (.popi o i) := by
  refine .ofE (fun h => ?_) (fun _ _ => rfl) (fun _ _ _ => rfl) fun {sc e st W X} h cx => ?_
  · simp only [mE] at h; split at h <;> first | rfl | cases h
  · simp only [mE] at h
    split at h
    · rename_i x y ap z cp
      simp only [Bool.and_eq_true, decide_eq_true_eq] at h
      obtain ⟨⟨⟨⟨h1, h2⟩, h3⟩, h4⟩, h5⟩ := h
      subst h1
      have sx := star_eq (mE_forms h5).1 [] X.env
      refine PE.weak (pe_bm PySem.F.plainAttrs_list PySem.F.slot_list_pop PySem.F.type_list_pop mt_popAt (so.e h4 cx) (pa_cons (si.e h5 cx) pa_nil sx) (base_eq h2 _ _ _) (by rw [sx]; rfl) h3 sx rfl) fun σ H Q ⟨B, φ, ρ, μ, ab, hw⟩ => ?_
      refine ⟨B, φ, ρ, μ, ab, (DenV.bindV ab.mem.len hw).imp fun v H1 ⟨φ1, μ1, d, e1, m1, r1, h1⟩ => ?_⟩
      split at h1
      · rename_i hc
        obtain ⟨n, a, xs, vs, rfl, rfl, g1, g2, g3, g4⟩ := isCel_out m1 hc r1
        refine ⟨.inl ⟨rfl, vs, SqL.of g3⟩, B, φ1, ρ, μ1, ab.ext e1 m1, (DenV.bindV m1.len h1).imp fun w H2 ⟨φ2, μ2, d2, e2, m2, r2, h2⟩ => ?_⟩
        have r1' := RdV.mono e2 m1.len r1
        split at h2
        · rename_i kk
          simp only [popI] at h2
          split at h2
          · rename_i xs2 g5
            split at h2
            · rename_i hk
              simp only [Bool.and_eq_true, rngOk, decide_eq_true_eq] at hk
              split at h2
              · rename_i dd hd
                simp only [RdV] at r1'
                obtain ⟨b, g6, g7⟩ := r1'
                cases g7
                obtain ⟨⟨_, vs2, g8, rfl, g9⟩, _⟩ := m2.cell n _ a g5 g6
                have g9 : RdL X.K H2 (Live φ2 μ2 B) φ2 xs2 vs2 := g9
                obtain ⟨yy, y1, y2⟩ := g9.get hd
                obtain ⟨e3, m3⟩ := write_cell m2 g5 g6 g8 (g9.erase kk.toNat)
                refine ⟨a, vs2, kk, kk.toNat, yy, rfl, by rw [rdV_int r2], g8, by omega, by omega, ?_, y1, h2 _ _ _ e3 m3 (RdV.mono e3 m2.len y2)⟩
                have hlt := (List.getElem?_eq_some_iff.mp y1).1
                unfold seqIndex?
                simp only []
                rw [if_neg (by omega : ¬ kk < 0), decide_eq_true (by omega : (0 : Int) ≤ kk), decide_eq_true (by omega : kk < (vs2.length : Int))]
                rfl
              · exact False.elim h2
            · exact False.elim h2
          · exact False.elim h2
        · exact False.elim h2
      · exact False.elim h1
    · cases h
/-- a new list, one that may be changed -/
theorem cel_new {X : Cx} {W : XK} {B : Addr → Prop} {H : Hp} {φ : List Addr} {μ : Mem} {ds : List D} {vs : List V} {Q : VK} (m : MemOk X.K H φ μ B) (r : RdL X.K H (Live φ μ B) φ ds vs) (h : DenV X.K W B H φ μ (celR (.ok (.lst ds) μ)) Q) {p : Addr} (hp : H p = none) : Q (.ref p) (upd H p (.lst vs)) := by
  obtain ⟨e3, m3⟩ := new_cell m (c0 := .lst ds) (o := .lst vs) hp rfl r
  refine h _ _ _ e3 m3 ?_
  simp only [RdV]
  exact ⟨p, by rw [← m.len, List.getElem?_append_right (Nat.le_refl _), Nat.sub_self]; rfl, rfl⟩
theorem celR_no {r : R D} {P : Prop} {X : Cx} {W : XK} {B : Addr → Prop} {H : Hp} {φ : List Addr} {μ : Mem} {Q : VK} (h : DenV X.K W B H φ μ (celR r) Q) : ∃ ds μ1, r = .ok (.lst ds) μ1 := by
  unfold celR at h
  split at h
  · exact ⟨_, _, rfl⟩
  · exact False.elim h
theorem add_lst {x y : D} {μ : Mem} {ds : List D} {μ1 : Mem} (h : binD .Add x y μ = .ok (.lst ds) μ1) : μ1 = μ ∧ ∃ xs ys, asLst μ x = some xs ∧ asLst μ y = some ys ∧ ds = xs ++ ys ∧ fits (xs.length + ys.length) = true := by
  have gen : (match asLst μ x, asLst μ y with | some xs, some ys => if fits (xs.length + ys.length) then R.ok (D.lst (xs ++ ys)) μ else .no | _, _ => .no) = R.ok (D.lst ds) μ1 → μ1 = μ ∧ ∃ xs ys, asLst μ x = some xs ∧ asLst μ y = some ys ∧ ds = xs ++ ys ∧ fits (xs.length + ys.length) = true := fun h => by
    split at h
    · rename_i xs ys q1 q2
      split at h
      · rename_i hz
        cases h
        exact ⟨rfl, xs, ys, q1, q2, rfl, hz⟩
      · cases h
    · cases h
  cases x with
  | int i => cases y with
    | int j => simp [binD] at h
    | _ => exact gen h
  | str i => cases y with
    | str j => simp only [binD] at h; split at h <;> cases h
    | _ => exact gen h
  | tup i => cases y with
    | tup j => simp only [binD] at h; split at h <;> cases h
    | _ => exact gen h
  | _ => exact gen h
theorem mul_lst {x y : D} {μ : Mem} {ds : List D} {μ1 : Mem} (h : binD .Mult x y μ = .ok (.lst ds) μ1) : μ1 = μ ∧ ∃ xs k, asLst μ x = some xs ∧ y = .int k ∧ ds = (List.replicate k.toNat xs).flatten ∧ -(2 ^ 63) ≤ k ∧ k < 2 ^ 63 ∧ fits (xs.length * k.toNat) = true := by
  have gen : ∀ k : Int, (match asLst μ x with | some xs => if decide (-(2 ^ 63) ≤ k) && decide (k < 2 ^ 63) && fits (xs.length * k.toNat) then R.ok (D.lst (List.replicate k.toNat xs).flatten) μ else .no | none => .no) = R.ok (D.lst ds) μ1 → μ1 = μ ∧ ∃ xs k', asLst μ x = some xs ∧ D.int k = .int k' ∧ ds = (List.replicate k'.toNat xs).flatten ∧ -(2 ^ 63) ≤ k' ∧ k' < 2 ^ 63 ∧ fits (xs.length * k'.toNat) = true := fun k h => by
    split at h
    · rename_i xs q1
      split at h
      · rename_i hz
        simp only [Bool.and_eq_true, decide_eq_true_eq] at hz
        cases h
        exact ⟨rfl, xs, k, q1, rfl, rfl, hz.1.1, hz.1.2, hz.2⟩
      · cases h
    · cases h
  cases y with
  | int k =>
    cases x with
    | int i => simp only [binD] at h; split at h <;> cases h
    | str i => simp only [binD] at h; split at h <;> cases h
    | tup i =>
      simp only [binD] at h
      split at h
      · cases h
      · split at h <;> cases h
    | _ => exact gen k h
  | _ => cases x <;> cases h
def celD2 (op : Operator) (x y : D) (μ : Mem) : R D := celR (binD op x y μ)
theorem op_new {X : Cx} {W : XK} {op : Operator} (ho : op = .Add ∨ op = .Mult) : OpR X (binaryOp op) (rD2 X.K W (celD2 op)) := by
  intro pins s σ H x y v u Q I rx ry h
  obtain ⟨B, φ, μ, d, e, m, h1, h2, h⟩ := h
  unfold celD2 at h
  obtain ⟨ds, μ1, hb⟩ := celR_no (P := True) h
  rw [hb] at h
  rcases ho with rfl | rfl
  · obtain ⟨rfl, xs, ys, q1, q2, rfl, hz⟩ := add_lst hb
    obtain ⟨a, vs, rfl, e1, r1⟩ := asLst_rd m h1 q1
    obtain ⟨b, ws, rfl, e2, r2⟩ := asLst_rd m h2 q2
    rw [fits_iff, r1.length, r2.length] at hz
    exact op_cat pins s σ H _ _ v u Q I rx ry ⟨a, b, vs, ws, rfl, rfl, e1, e2, hz, fun p hp => cel_new m (r1.append r2) h hp⟩
  · obtain ⟨rfl, xs, j, q1, rfl, rfl, k1, k2, hz⟩ := mul_lst hb
    obtain ⟨a, vs, rfl, e1, r1⟩ := asLst_rd m h1 q1
    rw [rdV_int h2] at ry
    rw [fits_iff, r1.length] at hz
    exact op_rep pins s σ H _ _ v u Q I rx ry ⟨a, j, vs, rfl, rfl, e1, k1, k2, hz, fun p hp => cel_new m (r1.rep _) h hp⟩
theorem snd_newb {op : Operator} {a b : C} (sa : Snd Γ g k N a) (sb : Snd Γ g k N b) : Snd Γ g k N (.newb op a b) := by
  refine .ofE (fun h => ?_) (fun _ _ => rfl) (fun _ _ _ => rfl) fun {sc e st W X} h cx => ?_
  · simp only [mE] at h; split at h <;> first | rfl | cases h
  · simp only [mE] at h
    split at h
    · simp only [Bool.and_eq_true, Bool.or_eq_true, decide_eq_true_eq] at h
      obtain ⟨⟨⟨h1, h2⟩, h3⟩, h4⟩ := h
      rw [← h1]
      exact PE.weak (pe_op (op_new (W := W) h2) (sa.e h3 cx) (sb.e h4 cx)) fun σ H Q ⟨B, φ, ρ, μ, ab, hw⟩ => den2 (f := celD2 op) ab hw
    · cases h
def celL (ds : List D) (μ : Mem) : R D := match ds with
  | [d] => celR (bifD .list [d] μ)
  | _ => .no
theorem bif_newl {X : Cx} {W : XK} : CallR X (.type "list") (rDL X.K W celL) := by
  refine call1 (g := fun d μ => celR (bifD .list [d] μ)) (fun _ _ => rfl) (fun ds μ h => by
    match ds, h with
    | [], _ => rfl
    | [d], h => exact absurd rfl (h d)
    | _ :: _ :: _, _ => rfl) fun pins s σ H B φ μ d v us Q I r m h1 h2 => ?_
  obtain ⟨xs, μ1, hb⟩ := celR_no (P := True) h2
  rw [hb] at h2
  have seq : ∀ {xs}, asSeq μ d = some xs → DenV X.K W B H φ μ (celR (.ok (.lst xs) μ)) Q → wpAny (model X.prog X.w) X.A (call (.type "list") us) (EP X pins σ Q) X.xe s := fun {xs} q1 q2 => by
    obtain ⟨a, vs, rfl, e1, e2⟩ := asSeq_rd m h1 q1
    exact call_list_of pins s σ H _ us Q I r ⟨a, vs, rfl, e1, fun p hp => cel_new m e2 q2 hp⟩
  cases d with
  | fls ys =>
    cases hb
    simp only [RdV] at h1
    obtain ⟨a, vs, rfl, e1, e2⟩ := h1
    refine call_list_of pins s σ H _ us Q I r ⟨a, vs, rfl, .inl ?_, fun p hp => cel_new m e2 h2 hp⟩
    rcases e1 with ⟨e1, _⟩ | ⟨o, e1⟩ | e1
    · exact .inl (.inl e1)
    · exact .inl (.inr ⟨o, e1⟩)
    · exact .inr e1
  | _ =>
    simp only [bifD] at hb
    split at hb
    · rename_i xs q1
      cases hb
      exact seq q1 h2
    · cases hb
theorem snd_newl {a : C} (sa : Snd Γ g k N a) : Snd Γ g k N (.newl a) := by
  refine .ofE (fun h => ?_) (fun _ _ => rfl) (fun _ _ _ => rfl) fun {sc e st W X} h cx => ?_
  · simp only [mE] at h; split at h <;> first | rfl | cases h
  · simp only [mE] at h
    split at h
    · rename_i y p x pos
      simp only [Bool.and_eq_true, decide_eq_true_eq] at h
      obtain ⟨⟨h1, h2⟩, h3⟩ := h
      subst h1
      have q := cx.blt h2
      have sx := star_eq (mE_forms h3).1 [] X.env
      refine PE.weak (pe_callTy (bif_newl (W := W)) q.1 q.2.1 (Bf.boot .list rfl) (pa_cons (sa.e h3 cx) pa_nil sx) q.2.2.2 q.2.2.1 sx (by rfl)) fun σ H Q ⟨B, φ, ρ, μ, ab, hw⟩ => ?_
      refine ⟨B, φ, ρ, μ, ab, (DenV.bindV ab.mem.len hw).imp fun v H1 ⟨φ1, μ1, d, e1, m1, r1, h1⟩ => ⟨B, φ1, μ1, [d], m1, .cons r1 .nil, h1⟩⟩
    · cases h
theorem snd_cmpc {own : List (Str × Nat)} {tg : T} {it cnd elt : C} (si : ∀ {Γ : Nm} {g : G} {k : Nat} {N : List Str}, Snd Γ g k N it) (s1 : ∀ {Γ : Nm} {g : G} {k : Nat} {N : List Str}, Snd Γ g k N cnd) (se : ∀ {Γ : Nm} {g : G} {k : Nat} {N : List Str}, Snd Γ g k N elt) : Snd Γ g k N (.cmpc own tg it cnd elt) := by
  refine .ofE (fun h => ?_) (fun _ _ => rfl) (fun _ _ _ => rfl) fun {sc e st W X} h cx => ?_
  · simp only [mE] at h; split at h <;> first | rfl | cases h
  · simp only [mE] at h
    split at h
    · rename_i el t i ifs scope pos
      simp only [Bool.and_eq_true, Bool.not_eq_true'] at h
      obtain ⟨⟨⟨⟨⟨⟨ho, h1⟩, h2⟩, h3⟩, h4⟩, h5⟩, h6⟩ := h
      have ok : BlkOk X.N X.env.scope scope own := by rw [cx.nm, cx.scp]; exact blkOk_by h1
      have hs : ∀ i ∈ tg.slots, i ∈ own.map (·.2) := fun i hi => List.contains_iff_mem.mp (List.all_eq_true.mp h2 i hi)
      refine PE.weak (pe_lc (tt := ttOf X.K g cnd) (cx.calm ho) cx.nd (si.i h4 cx) ok (fun s H C cl fp => ?_) (fun s H C cl fp => ?_) (fun s H C cl fp => ?_) (folded_eq (mI_notSet h4) X.env)) fun σ H Q hw => compc_den hs hw
      · have c2 := cx.blk s H scope cl C fp own (fun z => by rw [ho] at z; cases z)
        exact s_tgt c2.nm c2.nd c2.scp (.inl (c2.calm ho)) c2.sto h3
      · exact pts_of s1 (cx.blk s H scope cl C fp own (fun z => by rw [ho] at z; cases z)) h5
      · exact se.e h6 (cx.blk s H scope cl C fp own (fun z => by rw [ho] at z; cases z))
    · cases h
theorem snd_err {f : Str} {b : C} (sb : ∀ {Γ : Nm} {g : G} {k : Nat} {N : List Str}, Snd Γ g k N b) : Snd Γ g k N (.err f b) := by
  refine .ofE (fun h => ?_) (fun _ _ => rfl) (fun _ _ _ => rfl) fun {sc e st W X} h cx => ?_
  · simp only [mE] at h; split at h <;> first | rfl | cases h
  · simp only [mE] at h
    split at h
    · rename_i y p1 params body scope lpos pos
      simp only [Bool.and_eq_true, decide_eq_true_eq] at h
      obtain ⟨⟨⟨⟨⟨⟨⟨⟨⟨hh, hi⟩, h1⟩, h2⟩, h3⟩, h4⟩, h5⟩, h6⟩, h7⟩, h8⟩ := h
      have hh : Γ.hot = false := by simpa using hh
      have hi : Γ.isx = false := by simpa using hi
      subst h1
      have hp := noPar_out h6
      subst hp
      have q := nmOk_out h3
      cases hdp : g.dp with
      | false =>
        refine ⟨fun pins s σ H Q I ⟨B, φ, ρ, μ, ab, hw⟩ => ?_⟩
        simp only [evE, hdp] at hw
        exact False.elim hw
      | true =>
        obtain ⟨k2, hk2, low⟩ := cx.low hdp
        obtain ⟨gm, gk, pg, bg, sg, dV, kV, doc, pm, cdv, ct, oc, an, od, osl, Ng, a, lk, hcg, hb, Sg, hNg, hva, hna, hG⟩ := cx.hnd f h4
        obtain ⟨me, c, hme, hcode, hqual, TB, hu⟩ := cx.lam h5
        have na := nmOk_out hna
        have room2 : Room (k2 + 2) X.A := by rw [← hk2]; exact cx.room hh
        refine PE.weak (call_lam (T := lamT X.K) (TT := TTof X.K (g.hnd f)) (t := fun E => tC X.K E g.low b) rfl (glB_out (by rw [cx.scp]; exact h2)) gm gk lk hcg hb Sg hNg hva (hG X _ rfl rfl rfl rfl rfl (room2.mono (by omega))) TB hcode
          (by rw [hqual]; exact List.mem_map.mpr ⟨me, hme, rfl⟩) (fun p hp1 hp2 => by rw [hqual]; exact hu p hp1 hp2) room2 (by rw [cx.scp]; exact LamX.lamS_by h7) rfl (fun _ _ _ _ _ => rfl)
          (fun A outer s H E fa c' hr => sb.e h8 (cx.lamb hh hi low hr)) (fun E σ H Q Q' hq ⟨B, φ, ρ, μ, ab, hw⟩ => ⟨B, φ, ρ, μ, ab, hw.imp hq⟩) q.1 na.1 na.2.1) fun σ H Q ⟨B, φ, ρ, μ, ab, hw⟩ => ?_
        refine ⟨ab.mem.tabs, fun H1 eN tb => ⟨B, φ, ρ, μ, ab.ext (Ext.growN eN) (ab.mem.growN eN tb), ?_⟩⟩
        have e0 : Ext H φ μ H1 φ μ := Ext.growN eN
        simp only [evE, hdp, if_true] at hw
        cases hr : evE g.low b ρ μ with
        | ok d' μ' =>
          rw [hr] at hw
          obtain ⟨d, r1, r2, r3⟩ := told_out hw
          exact fun v H' φ' e m rd => ⟨m.tabs, d, r1, r2, fun H'' gr tb => r3 H'' φ' ((e0.trans ab.mem.len e).trans ab.mem.len (.growN gr)) (m.growN gr tb)⟩
        | er x μ' =>
          rw [hr] at hw
          obtain ⟨d, r1, r2, r3⟩ := told_out hw
          exact fun H' φ' e m cls dx hx => ⟨m.tabs, x, d, hx, r1, r2, fun H'' gr tb => r3 H'' φ' ((e0.trans ab.mem.len e).trans ab.mem.len (.growN gr)) (m.growN gr tb)⟩
        | no => rw [hr] at hw; exact False.elim hw
    · cases h
theorem snd (c : C) : ∀ {Γ : Nm} {g : G} {k : Nat} {N : List Str}, Snd Γ g k N c := by
  induction c with
  | var i => intro Γ g k N; exact snd_var i
  | num i => intro Γ g k N; exact snd_num i
  | txt x => intro Γ g k N; exact snd_txt x
  | bl b => intro Γ g k N; exact snd_bl b
  | non => intro Γ g k N; exact snd_non
  | glo x => intro Γ g k N; exact snd_glo x
  | con x => intro Γ g k N; exact snd_con x
  | bin op a b ha hb => intro Γ g k N; exact snd_bin ha hb
  | neg a ha => intro Γ g k N; exact snd_neg ha
  | not a ha => intro Γ g k N; exact snd_not ha
  | and a b ha hb => intro Γ g k N; exact snd_and ha hb
  | or a b ha hb => intro Γ g k N; exact snd_or ha hb
  | one a ha => intro Γ g k N; exact snd_one ha
  | cmp op a b ha hb => intro Γ g k N; exact snd_cmp ha hb
  | chn op op' a b c ha hb hc => intro Γ g k N; exact snd_chn ha hb hc
  | ite t a b ht ha hb => intro Γ g k N; exact snd_ite ht ha hb
  | cal0 f => intro Γ g k N; exact snd_cal0
  | fld o c f ho => intro Γ g k N; exact snd_fld ho
  | mth0 o c m n ho => intro Γ g k N; exact snd_mth0 ho
  | mth o c m n as ho ha => intro Γ g k N; exact snd_mth ho ha
  | mk0 c n => intro Γ g k N; exact snd_mk0
  | pop0 o ho => intro Γ g k N; exact snd_pop0 ho
  | newb op a b ha hb => intro Γ g k N; exact snd_newb ha hb
  | newl a ha => intro Γ g k N; exact snd_newl ha
  | cmpc own tg it cnd elt hi h1 he => intro Γ g k N; exact snd_cmpc hi h1 he
  | popi o i ho hi => intro Γ g k N; exact snd_popi ho hi
  | rev a ha => intro Γ g k N; exact snd_rev ha
  | lset a ha => intro Γ g k N; exact snd_lset ha
  | rgl1 kd a ha => intro Γ g k N; exact snd_rgl1 ha
  | rgl2 kd a b ha hb => intro Γ g k N; exact snd_rgl2 ha hb
  | cal f as ha => intro Γ g k N; exact snd_cal ha
  | cav i fs as ha => intro Γ g k N; exact snd_cav ha
  | «bif» b as ha => intro Γ g k N; exact snd_bif ha
  | isi a t ha => intro Γ g k N; exact snd_isi ha
  | tup as ha => intro Γ g k N; exact snd_tup ha
  | lst as ha => intro Γ g k N; exact snd_lst ha
  | cel as ha => intro Γ g k N; exact snd_cel ha
  | nil => intro Γ g k N; exact snd_nil
  | cons a as ha hr => intro Γ g k N; exact snd_cons ha hr
  | idx a b ha hb => intro Γ g k N; exact snd_idx ha hb
  | sli a lo hi ha hl hh => intro Γ g k N; exact snd_sli ha hl hh
  | nop => intro Γ g k N; exact snd_nop
  | cmpn own tg it cnd elt hi h1 he => intro Γ g k N; exact snd_cmpn hi h1 he
  | err f b hb => intro Γ g k N; exact snd_err hb
  | cmpl own tg a cnd elt ha h1 he => intro Γ g k N; exact snd_cmpl ha h1 he
  | isx i x => intro Γ g k N; exact snd_isx
  | joi a b ha hb => intro Γ g k N; exact snd_joi ha hb
  | itl a ha => intro Γ g k N; exact snd_itl ha
  | rng1 a ha => intro Γ g k N; exact snd_rng1 ha
  | rng2 a b ha hb => intro Γ g k N; exact snd_rng2 ha hb
  | itr a ha => intro Γ g k N; exact snd_itr ha
  | cmp2 own tg it cnd tg1 it1 cnd1 elt hi h1 hi1 h2 he => intro Γ g k N; exact snd_cmp2 hi h1 hi1 h2 he
  | zip3 a b c ha hb hc => intro Γ g k N; exact snd_zip3 ha hb hc
  | zip a b ha hb => intro Γ g k N; exact snd_zip ha hb
  | enm a ha => intro Γ g k N; exact snd_enm ha
end
end Den

/-! Den15: statements: the checker; what lies in memory is changed. -/
namespace Den
open PySem PySem.Spec PyProof.Rows L2
variable [Lams]

/-! ### the checker -/
def loc1 (sc : Scope) (x : Str) : Bool := decide (sc.names.lookup x = some .local)
def swNames (sc : Scope) (ts : List Expr) : List Str := ts.filterMap fun
    | .Name id pos => if sc.names.lookup id == some .local && pos.line == (ts.head?.map (·.pos.line)).getD 0 then some id else none
    | _ => none
/-- the stores are not swapped -/
def noSw (sc : Scope) (t v : Expr) : Bool := match t, v with
  | .Tuple ts _ _, .Tuple vs _ _ => !(ts.length == 2 || ts.length == 3) || vs.length != ts.length || !(vs.all notStar) || (swNames sc ts).length != ts.length || (swNames sc ts).eraseDups.length != (swNames sc ts).length || vs.all (foldedForSure 8)
  | .List .., _ => false
  | _, _ => true
/-- they are -/
def isSw (sc : Scope) (ts vs : List Expr) : Bool := (ts.length == 2 || ts.length == 3) && vs.length == ts.length && vs.all notStar && (swNames sc ts).length == ts.length && (swNames sc ts).eraseDups.length == (swNames sc ts).length && !(vs.all (foldedForSure 8)) && !(vs.all (constantsAlone 8))
theorem kindOf_eq {env : PySem.Env} {x : Str} : env.kindOf x = env.scope.names.lookup x := rfl
def isStar : Expr → Bool
  | .Starred .. => true
  | _ => false
theorem star_any {vs : List Expr} (h : vs.all notStar = true) : vs.any isStar = false := by
  induction vs with
  | nil => rfl
  | cons v vs ih =>
    rw [List.all_cons, Bool.and_eq_true] at h
    rw [List.any_cons, ih h.2]
    cases v <;> first | rfl | (exact absurd h.1 (by simp [notStar]))
theorem star_all {vs : List Expr} (h : vs.any isStar = false) : vs.all notStar = true := by
  rw [List.all_eq_true]
  intro x hx
  have := List.any_eq_false.mp h x hx
  cases x <;> first | rfl | (exact absurd rfl this)
theorem sw_unfold {env : PySem.Env} {ts vs : List Expr} {kt p k2 p2} : swappedStores [.Tuple ts kt p] (.Tuple vs k2 p2) env =
    (if (!(ts.length == 2 || ts.length == 3) || vs.length != ts.length || env.blockKind != .function) = true then pure none
    else if vs.any isStar = true then pure none
    else if ((swNames env.scope ts).length != ts.length || (swNames env.scope ts).eraseDups.length != (swNames env.scope ts).length) = true then pure none
    else if vs.all (foldedForSure 8) = true then pure none
    else if vs.all (constantsAlone 8) = true then ((unsupported "assign.tuple-of-constant-expressions:order-of-the-stores" : Sem Unit) >>= fun _ => pure (some (swNames env.scope ts)))
    else pure (some (swNames env.scope ts))) := by
  rfl
theorem isSw_eq {env : PySem.Env} {ts vs : List Expr} {kt p k2 p2} (hk : env.scope.kind = .function) (h : isSw env.scope ts vs = true) : swappedStores [.Tuple ts kt p] (.Tuple vs k2 p2) env = pure (some (swNames env.scope ts)) := by
  unfold isSw at h
  simp only [Bool.and_eq_true, Bool.not_eq_true'] at h
  obtain ⟨⟨⟨⟨⟨⟨h1, h2⟩, h3⟩, h4⟩, h5⟩, h6⟩, h7⟩ := h
  have hb : (env.blockKind != ScopeKind.function) = false := by unfold Env.blockKind; rw [hk]; rfl
  have hv : (vs.length != ts.length) = false := by rw [bne, h2]; rfl
  have hn : ((swNames env.scope ts).length != ts.length) = false := by rw [bne, h4]; rfl
  have hd : ((swNames env.scope ts).eraseDups.length != (swNames env.scope ts).length) = false := by rw [bne, h5]; rfl
  rw [sw_unfold, h1, hv, hb, star_any h3, hn, hd, h6, h7]
  rfl
theorem noSw_eq {env : PySem.Env} {t v : Expr} (h : noSw env.scope t v = true) : swappedStores [t] v env = pure none := by
  unfold noSw at h
  split at h
  · rename_i ts k1 p1 vs k2 p2
    simp only [Bool.or_eq_true, Bool.not_eq_true'] at h
    rw [sw_unfold]
    by_cases g1 : (!(ts.length == 2 || ts.length == 3) || vs.length != ts.length || env.blockKind != .function) = true
    · rw [if_pos g1]
    rw [if_neg g1]
    by_cases g2 : vs.any isStar = true
    · rw [if_pos g2]
    rw [if_neg g2]
    by_cases g3 : ((swNames env.scope ts).length != ts.length || (swNames env.scope ts).eraseDups.length != (swNames env.scope ts).length) = true
    · rw [if_pos g3]
    rw [if_neg g3]
    by_cases g4 : vs.all (foldedForSure 8) = true
    · rw [if_pos g4]
    exfalso
    simp only [Bool.or_eq_true, not_or, Bool.not_eq_true] at g1 g2 g3 g4
    rcases h with ((((h | h) | h) | h) | h) | h
    · rw [h] at g1; simp at g1
    · rw [h] at g1; simp at g1
    · rw [star_all g2] at h; cases h
    · rw [h] at g3; simp at g3
    · rw [h] at g3; simp at g3
    · rw [h] at g4; cases g4
  · cases h
  · rename_i h1 h2
    cases t <;> first | rfl | (cases v <;> first | rfl | (exfalso; apply h1 <;> rfl) | (exfalso; apply h2 <;> rfl)) | (exfalso; apply h2 <;> rfl)
def notComp : Expr → Bool
  | .ListComp .. => false
  | .SetComp .. => false
  | .DictComp .. => false
  | _ => true
theorem swaps_none {v : Expr} (h : notComp v = true) (t : Option Expr) (l : Nat) (env : PySem.Env) : swapsWith v t l env = pure false := by
  cases v <;> first | rfl | (simp [notComp] at h)
def notName : Expr → Bool
  | .Name .. => false
  | _ => true
theorem swaps_off {t : Expr} (h : notName t = true) (v : Expr) (l : Nat) (env : PySem.Env) : swapsWith v (some t) l env = pure false := by
  unfold swapsWith
  cases v <;> first | rfl | (cases t <;> first | rfl | (simp [notName] at h))
/-- a comprehension's block is swapped in -/
def swOn (sc scope : Scope) (y : Str) (py pos : Pos) : Bool := loc1 sc y && (py.line == pos.line) && !(scope.names.any fun (n, k) => n == y && (k == .local || k == .cell))
theorem sw_off {env : PySem.Env} {elt : Expr} {gs : List Comprehension} {scope : Scope} {pos py : Pos} {y : Str} {l : Nat} (hk : env.scope.kind = .function) (h : swOn env.scope scope y py pos = false) : swapsWith (.ListComp elt gs scope pos) (some (.Name y py)) l env = pure false := by
  have hb : env.blockKind = .function := by unfold Env.blockKind; rw [hk]; rfl
  unfold swapsWith
  dsimp only
  show (pure _ : Sem Bool) = _
  congr 1
  rw [hb, kindOf_eq]
  unfold swOn loc1 at h
  have e : (env.scope.names.lookup y == some NameKind.local) = decide (env.scope.names.lookup y = some NameKind.local) := by
    cases env.scope.names.lookup y with
    | none => rfl
    | some z => cases z <;> rfl
  rw [e, show (Expr.ListComp elt gs scope pos).pos = pos from rfl]
  simpa using h
mutual
def mS (Γ : Nm) (N : List Str) (sc : Scope) (st : Str → Bool) : S → Stmt → Bool
  | .pass, s => match s with
    | .Pass _ => true
    | .Expr (.Constant (.str _) _ _) _ => true
    | _ => false
  | .set i e, s => match s with
    | .Assign [.Name x px] v _ => decide (N[i]? = some x) && locB sc x && st x && mE Γ N sc e v
    | _ => false
  | .tgt tg e, s => match s with
    | .Assign [.Tuple ts k p] v _ => !Γ.hot && noSw sc (.Tuple ts k p) v && mT N sc st tg (.Tuple ts k p) && mE Γ N sc e v
    | _ => false
  | .par i j a b, s => match s with
    | .Assign [.Tuple [.Name x px, .Name y py] k p] (.Tuple [va, vb] _ _) _ => !Γ.hot && isSw sc [.Name x px, .Name y py] [va, vb] && decide (swNames sc [.Name x px, .Name y py] = [x, y]) && decide (N[i]? = some x) && decide (N[j]? = some y) && decide (i ≠ j) && loc1 sc x && loc1 sc y && mE Γ N sc a va && mE Γ N sc b vb
    | _ => false
  | .par3 i j l a b c, s => match s with
    | .Assign [.Tuple [.Name x px, .Name y py, .Name z pz] k p] (.Tuple [va, vb, vc] _ _) _ => !Γ.hot && isSw sc [.Name x px, .Name y py, .Name z pz] [va, vb, vc] && decide (swNames sc [.Name x px, .Name y py, .Name z pz] = [x, y, z]) && decide (N[i]? = some x) && decide (N[j]? = some y) && decide (N[l]? = some z) &&
        decide (i ≠ j) && decide (i ≠ l) && decide (j ≠ l) && loc1 sc x && loc1 sc y && loc1 sc z && mE Γ N sc a va && mE Γ N sc b vb && mE Γ N sc c vc
    | _ => false
  | .ife t a b, s => match s with
    | .If c x y _ => mE Γ N sc t c && mSs Γ N sc st a x && mSs Γ N sc st b y
    | _ => false
  | .for tg it b, s => match s with
    | .For t i x [] _ => !Γ.hot && mT N sc st tg t && mI Γ N sc it t i && mSs Γ N sc st b x
    | _ => false
  | .whl t b, s => match s with
    | .While c x [] _ => !Γ.hot && mE Γ N sc t c && mSs Γ N sc st b x
    | _ => false
  | .ret e, s => match s with
    | .Return (some v) _ => mE Γ N sc e v
    | _ => false
  | .retn, s => match s with
    | .Return none _ => true
    | _ => false
  | .exp e, s => match s with
    | .Expr v _ => notComp v && mE Γ N sc e v
    | _ => false
  | .brk, s => match s with
    | .Break _ => true
    | _ => false
  | .cnt, s => match s with
    | .Continue _ => true
    | _ => false
  | .rai x, s => match s with
    | .Raise (some (.Call (.Name y _) [.Constant (.str _) _ _] [] _)) none _ => !Γ.hot && decide (x = y) && glB sc y && nmOk y && Γ.exs.contains y
    | _ => false
  | .app o e, s => match s with
    | .Expr (.Call (.Attribute v n ap) [x] [] cp) _ => decide (n = "append") && notCall0 v && (ap.endLine == cp.line) && mE Γ N sc o v && mE Γ N sc e x
    | _ => false
  | .sub o i e, s => match s with
    | .Assign [.Subscript a b _] v _ => !isSlice b && mE Γ N sc e v && mE Γ N sc o a && mE Γ N sc i b
    | _ => false
  | .fset o c f e, s => match s with
    | .Assign [.Attribute x y _] v _ => decide (f = y) && Γ.flds.contains (c, f) && mE Γ N sc e v && mE Γ N sc o x
    | _ => false
  | .fs3 i c f1 f2 f3 e, s => match s with
    | .Assign [.Tuple [.Attribute (.Name x1 p1) y1 q1, .Attribute (.Name x2 p2) y2 q2, .Attribute (.Name x3 p3) y3 q3] k p] v _ => !Γ.hot && decide (f1 = y1) && decide (f2 = y2) && decide (f3 = y3) && Γ.flds.contains (c, f1) && Γ.flds.contains (c, f2) && Γ.flds.contains (c, f3) &&
        mE Γ N sc (.var i) (.Name x1 p1) && mE Γ N sc (.var i) (.Name x2 p2) && mE Γ N sc (.var i) (.Name x3 p3) && noSw sc (.Tuple [.Attribute (.Name x1 p1) y1 q1, .Attribute (.Name x2 p2) y2 q2, .Attribute (.Name x3 p3) y3 q3] k p) v && mE Γ N sc e v
    | _ => false
  | .frz _, _ => false
  | .nil, _ => false
  | .cons _ _, _ => false
def mSs (Γ : Nm) (N : List Str) (sc : Scope) (st : Str → Bool) : S → List Stmt → Bool
  | .nil, ss => ss.isEmpty
  | .cons a r, ss => match a with
    | .frz _ => mSs Γ N sc st r ss
    | a => match ss with
      | x :: xs => mS Γ N sc st a x && mSs Γ N sc st r xs
      | [] => false
  | _, _ => false
end
end Den

/-! Den16: memory is changed; blocks, loops. -/
namespace Den
open PySem PySem.Spec PyProof.Rows L2
variable [Lams]

section
variable {K : PySem.W.Frag} {W : XK} {B : Addr → Prop} {H : Hp} {φ : List Addr} {μ : Mem} {σ : L2.St} {ρ : DEnv} {g : G}
/-- a thing is not changed any more -/
theorem freeze (m : MemOk K H φ μ B) {n : Nat} {xs : List D} (hn : μ[n]? = some (some (.lst xs))) : Ext H φ μ H φ (μ.set n none) ∧ MemOk K H φ (μ.set n none) B := by
  have e : Ext H φ μ H φ (μ.set n none) := by
    refine ⟨⟨[], by simp⟩, fun i hi h => ?_, fun i b o h1 h2 => (by rw [List.getElem?_eq_none h1] at h2; cases h2), fun b o h nt hb => h, fun b o h nt => ⟨o, h, nt⟩, fun b us h => h, fun b o u h => h⟩
    have hne : n ≠ i := fun z => by rw [← z, hn] at h; cases h
    rw [List.getElem?_set_ne hne]; exact h
  have sg : ∀ {i : Nat} {c : Cell}, (μ.set n none)[i]? = some (some c) → μ[i]? = some (some c) := fun {i c} h => by
    rcases set_get h with ⟨_, h1, _⟩ | ⟨_, h1⟩
    · cases h1
    · exact h1
  refine ⟨e, by rw [List.length_set]; exact m.len, fun i j b c c' h1 h2 h3 h4 => m.inj i j b c c' (sg h1) (sg h2) h3 h4, fun i c b h1 h2 => ?_, m.bt, m.tabs⟩
  obtain ⟨q, nb⟩ := m.cell i c b (sg h1) h2
  refine ⟨?_, nb⟩
  obtain ⟨u, us, q1, hu, q2⟩ := q
  exact ⟨u, us, q1, hu, RdL.mono e m.len q2⟩
theorem Abs.frozen (ab : Abs K H σ φ ρ μ B) {i n : Nat} {xs : List D} (hi : ρ[i]? = some (some (.cel n))) (hn : μ[n]? = some (some (.lst xs))) : Ext H φ μ H φ (μ.set n none) ∧ Abs K H σ φ (ρ.set i (some (.lst xs))) (μ.set n none) B := by
  obtain ⟨e, m'⟩ := freeze ab.mem hn
  refine ⟨e, m', by rw [List.length_set]; exact ab.len, fun j d h => ?_⟩
  by_cases hj : i = j
  · subst hj
    have hl : i < ρ.length := by
      have q := (List.getElem?_eq_some_iff.mp h).1
      simpa using q
    rw [List.getElem?_set_self hl] at h
    cases h
    obtain ⟨v, h1, h2⟩ := ab.env i _ hi
    simp only [RdV] at h2
    obtain ⟨a, ha, rfl⟩ := h2
    obtain ⟨q, nb⟩ := ab.mem.cell n _ a hn ha
    obtain ⟨_, vs, q1, rfl, q2⟩ := q
    refine ⟨_, h1, ?_⟩
    simp only [RdV]
    refine ⟨a, vs, rfl, q1, fun l => ?_, RdL.mono e ab.mem.len q2⟩
    rcases l with l | ⟨j, c, g1, g2⟩
    · exact nb l
    · rcases set_get g1 with ⟨_, g3, _⟩ | ⟨g3, g4⟩
      · cases g3
      · exact g3 (ab.mem.inj j n a c _ g4 hn g2 ha)
  · rw [List.getElem?_set_ne hj] at h
    obtain ⟨v, h1, h2⟩ := ab.env j d h
    exact ⟨v, h1, RdV.mono e ab.mem.len h2⟩
/-! readings -/
def tS (K : PySem.W.Frag) (W : XK) (g : G) (s : S) : TS := fun D σ H => ∃ B φ ρ μ, Abs K H σ φ ρ μ B ∧ DenF K W B H φ μ (evS g s ρ μ) D
theorem DenF.bindF (hl : φ.length = μ.length) {r : R Fl} {f : DEnv → Mem → R Fl} {Dn : Ends} {Nx : L2.St → Hp → Prop} (h : DenF K W B H φ μ (r.bind fun x μ' => match x with | .nx ρ' => f ρ' μ' | x => .ok x μ') Dn)
    (hn : ∀ σ' H' φ' ρ' μ', Ext H φ μ H' φ' μ' → Abs K H' σ' φ' ρ' μ' B → DenF K W B H' φ' μ' (f ρ' μ') Dn → Nx σ' H') : DenF K W B H φ μ r { Dn with nx := Nx } := by
  cases r with
  | ok x m =>
    cases x with
    | nx ρ' => exact fun σ' H' φ' e a => hn σ' H' φ' ρ' m e a (DenF.shift e hl h)
    | bk ρ' => exact h
    | ct ρ' => exact h
    | rt d => exact h
  | er x m => exact h
  | no => exact h
/-- the turn of a loop, then the next -/
theorem DenF.turn (hl : φ.length = μ.length) {r : R Fl} {f : DEnv → Mem → R Fl} {Dn : Ends} {Nx : L2.St → Hp → Prop} (h : DenF K W B H φ μ (r.bind fun x μ' => match x with | .nx ρ' => f ρ' μ' | .ct ρ' => f ρ' μ' | .bk ρ' => .ok (.nx ρ') μ' | .rt d => .ok (.rt d) μ') Dn)
    (hn : ∀ σ' H' φ' ρ' μ', Ext H φ μ H' φ' μ' → Abs K H' σ' φ' ρ' μ' B → DenF K W B H' φ' μ' (f ρ' μ') Dn → Nx σ' H') : DenF K W B H φ μ r { Dn with nx := Nx, ct := Nx, bk := Dn.nx } := by
  cases r with
  | ok x m =>
    cases x with
    | nx ρ' => exact fun σ' H' φ' e a => hn σ' H' φ' ρ' m e a (DenF.shift e hl h)
    | ct ρ' => exact fun σ' H' φ' e a => hn σ' H' φ' ρ' m e a (DenF.shift e hl h)
    | bk ρ' => exact h
    | rt d => exact h
  | er x m => exact h
  | no => exact h
theorem w_for {tg : T} {it : C} {b : S} {Dn : Ends} (h : tS K W g (.for tg it b) Dn σ H) : tFor (tI K W g it) (gT K tg) (tS K W g b) Dn σ H := by
  obtain ⟨B, φ, ρ, μ, ab, h⟩ := h
  refine ⟨B, φ, ρ, μ, ab, (DenF.bindI ab.mem.len h).imp fun J H1 ⟨φ1, μ1, items, e1, m1, iok, h1⟩ => ?_⟩
  have ab1 := ab.ext e1 m1
  refine for_it iok (fun i σ' H' => ∃ φ' ρ' μ', Ext H1 φ1 μ1 H' φ' μ' ∧ Abs K H' σ' φ' ρ' μ' B ∧
      DenF K W B H' φ' μ' (forL (fun d ρ μ => match asg tg d ρ with | some ρ' => evS g b ρ' μ | none => .no) (items.drop i) ρ' μ') Dn) ⟨φ1, ρ, μ1, .refl, ab1, by rw [List.drop_zero]; exact h1⟩ ?_ ?_ ?_
  · rintro i σ' H' _ ⟨φ', ρ', μ', e, _, _⟩
    exact ⟨φ', μ', e.toU⟩
  · rintro i x σ' H' H'' hi ⟨φ', ρ', μ', e, a', hq⟩ ⟨gr, yd⟩
    have rx := yd B φ' μ' _ (fun a h => .inl h) a'.mem.len e.toU (List.getElem?_eq_getElem hi)
    rw [List.drop_eq_getElem_cons hi] at hq
    simp only [forL] at hq
    have eg : Ext H' φ' μ' H'' φ' μ' := .grow gr
    have a'' := a'.grow gr
    cases qa : asg tg items[i] ρ' with
    | none => simp only [qa] at hq; exact False.elim hq
    | some ρ2 =>
      simp only [qa] at hq
      refine ⟨B, φ', ρ', μ', _, ρ2, a'', rx, qa, fun σ2 ab2 _ => ⟨B, φ', ρ2, μ', ab2, ?_⟩⟩
      refine DenF.turn a''.mem.len (DenF.shift eg a'.mem.len hq) fun σ3 H3 φ3 ρ3 μ3 e3 a3 h3 => ?_
      exact ⟨φ3, ρ3, μ3, e.trans ab1.mem.len (eg.trans a'.mem.len e3), a3, h3⟩
  · rintro σ' H' ⟨φ', ρ', μ', e, a', hq⟩
    rw [List.drop_length] at hq
    exact hq σ' H' φ' .refl a'
theorem w_whl {t : C} {b : S} {Dn : Ends} (h : tS K W g (.whl t b) Dn σ H) : tWhile (tT K W g t) (tS K W g b) Dn σ H := by
  obtain ⟨B, φ, ρ, μ, ab, h⟩ := h
  refine ⟨fun m σ' H' => ∃ φ' ρ' μ', Abs K H' σ' φ' ρ' μ' B ∧ DenF K W B H' φ' μ' (whlL (fun ρ μ => evT g t ρ μ) (fun ρ μ => evS g b ρ μ) m ρ' μ') Dn, ⟨g.W, φ, ρ, μ, ab, h⟩, ?_⟩
  rintro m σ' H' ⟨φ', ρ', μ', a', hq⟩
  cases m with
  | zero => exact False.elim hq
  | succ m =>
    simp only [whlL] at hq
    refine ⟨B, φ', ρ', μ', a', (DenF.bindB a'.mem.len hq).imp fun c H1 ⟨φ1, μ1, e1, m1, h1⟩ => ?_⟩
    have a1 := a'.ext e1 m1
    cases c with
    | false => exact h1 σ' H1 φ1 .refl a1
    | true =>
      refine ⟨fun σ2 H2 => ∃ φ2 ρ2 μ2, Abs K H2 σ2 φ2 ρ2 μ2 B ∧ DenF K W B H2 φ2 μ2 (whlL (fun ρ μ => evT g t ρ μ) (fun ρ μ => evS g b ρ μ) m ρ2 μ2) Dn, fun σ2 H2 h2 => ⟨m, Nat.lt_succ_self m, h2⟩, B, φ1, ρ', μ1, a1, ?_⟩
      exact DenF.turn m1.len h1 fun σ3 H3 φ3 ρ3 μ3 _ a3 h3 => ⟨φ3, ρ3, μ3, a3, h3⟩
end
end Den

/-! Den17: statements are sound. -/
namespace Den
open PySem PySem.Spec PyProof.Rows L2
variable [Lams]

theorem PS.weak {X : Cx} {e : Stmt} {t t' : TS} (h : PS X e t) (f : ∀ D σ H, t' D σ H → t D σ H) : PS X e t' := ⟨fun pins s σ H Q I hw => h.run pins s σ H Q I (f Q σ H hw)⟩
theorem PSs.weak {X : Cx} {e : List Stmt} {t t' : TS} (h : PSs X e t) (f : ∀ D σ H, t' D σ H → t D σ H) : PSs X e t' := ⟨fun pins s σ H Q I hw => h.run pins s σ H Q I (f Q σ H hw)⟩
/-- a statement, a block -/
structure Sns (Γ : Nm) (g : G) (k : Nat) (N : List Str) (c : S) : Prop where
  s : ∀ {sc : Scope} {e : Stmt} {st : Str → Bool} {W : XK} {X : Cx}, mS Γ N sc st c e = true → sc.kind = .function → Cxd Γ g k N sc st W X → PS X e (tS X.K W g c)
  ss : ∀ {sc : Scope} {e : List Stmt} {st : Str → Bool} {W : XK} {X : Cx}, mSs Γ N sc st c e = true → sc.kind = .function → Cxd Γ g k N sc st W X → PSs X e (tS X.K W g c)
section
variable {Γ : Nm} {g : G} {k : Nat} {N : List Str}
theorem Sns.of {s : S} (hs : ∀ sc st ss, mSs Γ N sc st s ss = false) (h : ∀ {sc : Scope} {e : Stmt} {st : Str → Bool} {W : XK} {X : Cx}, mS Γ N sc st s e = true → sc.kind = .function → Cxd Γ g k N sc st W X → PS X e (tS X.K W g s)) : Sns Γ g k N s :=
  ⟨h, fun q => by rw [hs] at q; cases q⟩
theorem sns_pass : Sns Γ g k N .pass := by
  refine .of (fun _ _ _ => rfl) fun {sc e st W X} h hk cx => ?_
  simp only [mS] at h
  have go : ∀ D σ H, tS X.K W g .pass D σ H → tNext D σ H := fun D σ H ⟨B, φ, ρ, μ, ab, hw⟩ => hw σ H φ .refl ab
  split at h
  · exact PS.weak ps_pass go
  · exact PS.weak ps_doc go
  · cases h
theorem lc_set {own : List (Str × Nat)} {tg : T} {it cnd elt : C} {i : Nat} {x : Str} {px : Pos} {v : Expr} {pos : Pos} {sc : Scope} {st : Str → Bool} {W : XK} {X : Cx} (cx : Cxd Γ g k N sc st W X) (hk : sc.kind = .function)
    (hi : N[i]? = some x) (hx : locB sc x = true) (hf : st x = true) (h : mE Γ N sc (.cmpn own tg it cnd elt) v = true) : PS X (.Assign [.Name x px] v pos) (tAsg (tC X.K W g (.cmpn own tg it cnd elt)) (gName i)) := by
  have hp := (snd (.cmpn own tg it cnd elt)).e h cx
  have hk' : X.env.scope.kind = .function := by rw [cx.scp]; exact hk
  simp only [mE] at h
  split at h
  · rename_i el t i2 ifs scope p2
    cases q : swOn sc scope x px p2 with
    | false => exact ps_set cx.nd (by rw [cx.nm]; exact hi) (by rw [cx.scp]; exact locB_out hx) hp (sw_off hk' (by rw [cx.scp]; exact q)) (cx.sto x hf)
    | true =>
      unfold swOn loc1 at q
      simp only [Bool.and_eq_true, decide_eq_true_eq, Bool.not_eq_true'] at q
      obtain ⟨⟨q1, q2⟩, q3⟩ := q
      have q1' : X.env.scope.names.lookup x = some .local := by rw [cx.scp]; exact q1
      simp only [Bool.and_eq_true, Bool.not_eq_true'] at h
      obtain ⟨⟨⟨⟨⟨⟨ho, h1⟩, h2⟩, h3⟩, h4⟩, h5⟩, h6⟩ := h
      have ok : BlkOk X.N X.env.scope scope own := by rw [cx.nm, cx.scp]; exact blkOk_by h1
      have hs : ∀ i ∈ tg.slots, i ∈ own.map (·.2) := fun i hi => List.contains_iff_mem.mp (List.all_eq_true.mp h2 i hi)
      refine PS.weak (ps_setLc (tt := ttOf X.K g cnd) (cx.calm ho) cx.nd (by rw [cx.nm]; exact hi) q1' (sw_true hk' q1' q2 q3) ((snd it).i h4 cx) ok (fun s H C cl fp => ?_) (fun s H C cl fp => ?_) (fun s H C cl fp => ?_) (folded_eq (mI_notSet h4) X.env)) fun D σ H hw => comp_den (Q := fun v H1 => gName i v σ H1 D.nx) hs hw
      · have c2 := cx.blk s H scope cl C fp own (fun z => by rw [ho] at z; cases z)
        exact s_tgt c2.nm c2.nd c2.scp (.inl (c2.calm ho)) c2.sto h3
      · exact pts_of (snd cnd) (cx.blk s H scope cl C fp own (fun z => by rw [ho] at z; cases z)) h5
      · exact (snd elt).e h6 (cx.blk s H scope cl C fp own (fun z => by rw [ho] at z; cases z))
  · cases h
theorem lc_setC {own : List (Str × Nat)} {tg : T} {it cnd elt : C} {i : Nat} {x : Str} {px : Pos} {v : Expr} {pos : Pos} {sc : Scope} {st : Str → Bool} {W : XK} {X : Cx} (cx : Cxd Γ g k N sc st W X) (hk : sc.kind = .function)
    (hi : N[i]? = some x) (hx : locB sc x = true) (hf : st x = true) (h : mE Γ N sc (.cmpc own tg it cnd elt) v = true) : PS X (.Assign [.Name x px] v pos) (tAsg (tC X.K W g (.cmpc own tg it cnd elt)) (gName i)) := by
  have hp := (snd (.cmpc own tg it cnd elt)).e h cx
  have hk' : X.env.scope.kind = .function := by rw [cx.scp]; exact hk
  simp only [mE] at h
  split at h
  · rename_i el t i2 ifs scope p2
    cases q : swOn sc scope x px p2 with
    | false => exact ps_set cx.nd (by rw [cx.nm]; exact hi) (by rw [cx.scp]; exact locB_out hx) hp (sw_off hk' (by rw [cx.scp]; exact q)) (cx.sto x hf)
    | true =>
      unfold swOn loc1 at q
      simp only [Bool.and_eq_true, decide_eq_true_eq, Bool.not_eq_true'] at q
      obtain ⟨⟨q1, q2⟩, q3⟩ := q
      have q1' : X.env.scope.names.lookup x = some .local := by rw [cx.scp]; exact q1
      simp only [Bool.and_eq_true, Bool.not_eq_true'] at h
      obtain ⟨⟨⟨⟨⟨⟨ho, h1⟩, h2⟩, h3⟩, h4⟩, h5⟩, h6⟩ := h
      have ok : BlkOk X.N X.env.scope scope own := by rw [cx.nm, cx.scp]; exact blkOk_by h1
      have hs : ∀ i ∈ tg.slots, i ∈ own.map (·.2) := fun i hi => List.contains_iff_mem.mp (List.all_eq_true.mp h2 i hi)
      refine PS.weak (ps_setLc (tt := ttOf X.K g cnd) (cx.calm ho) cx.nd (by rw [cx.nm]; exact hi) q1' (sw_true hk' q1' q2 q3) ((snd it).i h4 cx) ok (fun s H C cl fp => ?_) (fun s H C cl fp => ?_) (fun s H C cl fp => ?_) (folded_eq (mI_notSet h4) X.env)) fun D σ H hw => compc_den (Q := fun v H1 => gName i v σ H1 D.nx) hs hw
      · have c2 := cx.blk s H scope cl C fp own (fun z => by rw [ho] at z; cases z)
        exact s_tgt c2.nm c2.nd c2.scp (.inl (c2.calm ho)) c2.sto h3
      · exact pts_of (snd cnd) (cx.blk s H scope cl C fp own (fun z => by rw [ho] at z; cases z)) h5
      · exact (snd elt).e h6 (cx.blk s H scope cl C fp own (fun z => by rw [ho] at z; cases z))
  · cases h
theorem lc_setH {own : List (Str × Nat)} {tg : T} {a cnd elt : C} {i : Nat} {x : Str} {px : Pos} {v : Expr} {pos : Pos} {sc : Scope} {st : Str → Bool} {W : XK} {X : Cx} (cx : Cxd Γ g k N sc st W X) (hk : sc.kind = .function)
    (hi : N[i]? = some x) (hx : locB sc x = true) (hf : st x = true) (h : mE Γ N sc (.cmpl own tg a cnd elt) v = true) : PS X (.Assign [.Name x px] v pos) (tAsg (tC X.K W g (.cmpl own tg a cnd elt)) (gName i)) := by
  have hp := (snd (.cmpl own tg a cnd elt)).e h cx
  have hk' : X.env.scope.kind = .function := by rw [cx.scp]; exact hk
  simp only [mE] at h
  split at h
  · rename_i el t i2 ifs scope p2
    cases q : swOn sc scope x px p2 with
    | false => exact ps_set cx.nd (by rw [cx.nm]; exact hi) (by rw [cx.scp]; exact locB_out hx) hp (sw_off hk' (by rw [cx.scp]; exact q)) (cx.sto x hf)
    | true =>
      unfold swOn loc1 at q
      simp only [Bool.and_eq_true, decide_eq_true_eq, Bool.not_eq_true'] at q
      obtain ⟨⟨q1, q2⟩, q3⟩ := q
      have q1' : X.env.scope.names.lookup x = some .local := by rw [cx.scp]; exact q1
      simp only [Bool.and_eq_true] at h
      obtain ⟨⟨⟨⟨⟨⟨ho, h1⟩, h2⟩, h3⟩, h4⟩, h5⟩, h6⟩ := h
      have ok : BlkOk X.N X.env.scope scope own := by rw [cx.nm, cx.scp]; exact blkOk_by h1
      have hs : ∀ i ∈ tg.slots, i ∈ own.map (·.2) := fun i hi => List.contains_iff_mem.mp (List.all_eq_true.mp h2 i hi)
      refine PS.weak (ps_setLcH (wi := tI X.K W g (.itl a)) (g := gT X.K tg) (tt := ttOf X.K g cnd) (te := tC X.K noW g elt) (cx.hoti ho) cx.nd (by rw [cx.nm]; exact hi) q1' (sw_true hk' q1' q2 q3) (PII.weak (pii_list ((snd a).e h4 cx)) fun σ H R hw => w_itl hw) ok (fun s H C cl fp hI => ?_) (fun s H C cl fp hI => ?_) (fun s H C cl fp hI => ?_) (folded_eq (mE_forms h4).2 X.env)) fun D σ H hw => ?_
      · have c2 := cx.blk s H scope cl C fp own (fun _ => hI)
        exact s_tgt c2.nm c2.nd c2.scp (.inr hI) c2.sto h3
      · exact pts_of (snd cnd) (cx.blk s H scope cl C fp own (fun _ => hI)) h5
      · exact (snd elt).e h6 (cx.blk s H scope cl C fp own (fun _ => hI))
      · obtain ⟨B, φ, ρ, μ, ab, hw⟩ := hw
        rw [evE_cmpl] at hw
        exact comp_den (Q := fun v H1 => gName i v σ H1 D.nx) hs ⟨B, φ, ρ, μ, ab, hw⟩
  · cases h
theorem lc_set2 {own : List (Str × Nat)} {tg tg1 : T} {it cnd it1 cnd1 elt : C} {i : Nat} {x : Str} {px : Pos} {v : Expr} {pos : Pos} {sc : Scope} {st : Str → Bool} {W : XK} {X : Cx} (cx : Cxd Γ g k N sc st W X) (hk : sc.kind = .function)
    (hi : N[i]? = some x) (hx : locB sc x = true) (hf : st x = true) (h : mE Γ N sc (.cmp2 own tg it cnd tg1 it1 cnd1 elt) v = true) : PS X (.Assign [.Name x px] v pos) (tAsg (tC X.K W g (.cmp2 own tg it cnd tg1 it1 cnd1 elt)) (gName i)) := by
  have hp := (snd (.cmp2 own tg it cnd tg1 it1 cnd1 elt)).e h cx
  have hk' : X.env.scope.kind = .function := by rw [cx.scp]; exact hk
  simp only [mE] at h
  split at h
  · rename_i el t i2 ifs t1 i1 ifs1 scope p2
    cases q : swOn sc scope x px p2 with
    | false => exact ps_set cx.nd (by rw [cx.nm]; exact hi) (by rw [cx.scp]; exact locB_out hx) hp (sw_off hk' (by rw [cx.scp]; exact q)) (cx.sto x hf)
    | true =>
      unfold swOn loc1 at q
      simp only [Bool.and_eq_true, decide_eq_true_eq, Bool.not_eq_true'] at q
      obtain ⟨⟨q1, q2⟩, q3⟩ := q
      have q1' : X.env.scope.names.lookup x = some .local := by rw [cx.scp]; exact q1
      simp only [Bool.and_eq_true, Bool.not_eq_true'] at h
      obtain ⟨⟨⟨⟨⟨⟨⟨⟨⟨⟨ho, h1⟩, h2⟩, h3⟩, h4⟩, h5⟩, h6⟩, h7⟩, h8⟩, h9⟩, h10⟩ := h
      have ok : BlkOk X.N X.env.scope scope own := by rw [cx.nm, cx.scp]; exact blkOk_by h1
      have hs : ∀ i ∈ tg.slots, i ∈ own.map (·.2) := fun i hi => List.contains_iff_mem.mp (List.all_eq_true.mp h2 i hi)
      have hv : ∀ i ∈ tg1.slots, i ∈ own.map (·.2) := fun i hi => List.contains_iff_mem.mp (List.all_eq_true.mp h3 i hi)
      have blk := fun s H C cl fp => cx.blk s H scope cl C fp own (fun z => by rw [ho] at z; cases z)
      refine PS.weak (ps_setLc2 (vs1 := tg1.slots) (tt := ttOf X.K g cnd) (tt1 := ttOf X.K g cnd1) (cx.calm ho) cx.nd (by rw [cx.nm]; exact hi) q1' (sw_true hk' q1' q2 q3) ((snd it).i h6 cx) ok hv (fun s H C cl fp => ?_) (fun s H C cl fp => ?_) (fun s H C cl fp => ?_) (fun s H C cl fp => ?_) (fun s H C cl fp => ?_) (fun s H C cl fp => ?_)
        (folded_eq (mI_notSet h6) X.env) (folded_eq (mI_notSet h7))) fun D σ H hw => comp2_den (Q := fun v H1 => gName i v σ H1 D.nx) hs hw
      · have c2 := blk s H C cl fp
        exact s_tgt c2.nm c2.nd c2.scp (.inl (c2.calm ho)) c2.sto h4
      · exact pts_of (snd cnd) (blk s H C cl fp) h8
      · exact (snd it1).i h7 (blk s H C cl fp)
      · have c2 := blk s H C cl fp
        exact s_tgt c2.nm c2.nd c2.scp (.inl (c2.calm ho)) c2.sto h5
      · exact pts_of (snd cnd1) (blk s H C cl fp) h9
      · exact (snd elt).e h10 (blk s H C cl fp)
  · cases h
theorem notComp_of {sc : Scope} {c : C} {v : Expr} (h : mE Γ N sc c v = true) : notComp v = true ∨ (∃ own tg it cnd elt, c = .cmpn own tg it cnd elt) ∨ (∃ own tg it cnd elt, c = .cmpl own tg it cnd elt) ∨ (∃ own tg it cnd elt, c = .cmpc own tg it cnd elt) ∨ ∃ own tg it cnd tg1 it1 cnd1 elt, c = .cmp2 own tg it cnd tg1 it1 cnd1 elt := by
  cases v <;> first | exact .inl rfl | (right; cases c <;> first | exact .inl ⟨_, _, _, _, _, rfl⟩ | exact .inr (.inl ⟨_, _, _, _, _, rfl⟩) | exact .inr (.inr (.inl ⟨_, _, _, _, _, rfl⟩)) | exact .inr (.inr (.inr ⟨_, _, _, _, _, _, _, _, rfl⟩)) | (exfalso; simp [mE] at h; done))
theorem sns_set {i : Nat} {c : C} : Sns Γ g k N (.set i c) := by
  refine .of (fun _ _ _ => rfl) fun {sc e st W X} h hk cx => ?_
  simp only [mS] at h
  split at h
  · rename_i x px v pos
    simp only [Bool.and_eq_true, decide_eq_true_eq] at h
    obtain ⟨⟨⟨h1, h2⟩, h3⟩, h4⟩ := h
    have go : ∀ D σ H, tS X.K W g (.set i c) D σ H → tAsg (tC X.K W g c) (gName i) D σ H := fun D σ H ⟨B, φ, ρ, μ, ab, hw⟩ =>
      ⟨B, φ, ρ, μ, ab, (DenF.bindV ab.mem.len hw).imp fun v H1 ⟨φ1, μ1, d, e1, m1, r1, h1⟩ => h1 _ H1 φ1 .refl ((ab.ext e1 m1).set r1)⟩
    rcases notComp_of h4 with nc | ⟨own, tg, it, cnd, elt, rfl⟩ | ⟨own, tg, it, cnd, elt, rfl⟩ | ⟨own, tg, it, cnd, elt, rfl⟩ | ⟨own, tg, it, cnd, tg1, it1, cnd1, elt, rfl⟩
    · exact PS.weak (ps_set cx.nd (by rw [cx.nm]; exact h1) (by rw [cx.scp]; exact locB_out h2) ((snd c).e h4 cx) (swaps_none nc _ _ _) (cx.sto x h3)) go
    · exact PS.weak (lc_set cx hk h1 h2 h3 h4) go
    · exact PS.weak (lc_setH cx hk h1 h2 h3 h4) go
    · exact PS.weak (lc_setC cx hk h1 h2 h3 h4) go
    · exact PS.weak (lc_set2 cx hk h1 h2 h3 h4) go
  · cases h
theorem swaps_sole {t : Expr} (h : notName t = true) (v : Expr) (l : Nat) (env : PySem.Env) : swapsWithSole [t] v l env = pure false := swaps_off h v l env
theorem assign_one {env : PySem.Env} {t : Expr} (h : notStar t = true) : (assignEach [t] env).map (·.2) = [assign t env] := by rw [assignEach_eq h]; rfl
theorem sns_tgt {tg : T} {c : C} : Sns Γ g k N (.tgt tg c) := by
  refine .of (fun _ _ _ => rfl) fun {sc e st W X} h hk cx => ?_
  simp only [mS] at h
  split at h
  · rename_i ts kk p v pos
    simp only [Bool.and_eq_true, Bool.not_eq_true'] at h
    obtain ⟨⟨⟨ho, h1⟩, h2⟩, h3⟩ := h
    refine PS.weak (ps_asg ((snd c).e h3 cx) (s_tgt cx.nm cx.nd cx.scp (.inl (cx.calm ho)) cx.sto h2) (swaps_sole rfl v _ _) (noSw_eq (by rw [cx.scp]; exact h1)) (assign_one rfl)) fun D σ H ⟨B, φ, ρ, μ, ab, hw⟩ => ?_
    refine ⟨B, φ, ρ, μ, ab, (DenF.bindV ab.mem.len hw).imp fun v H1 ⟨φ1, μ1, d, e1, m1, r1, h1⟩ => ?_⟩
    cases q : asg tg d ρ with
    | none => simp only [q] at h1; exact False.elim h1
    | some ρ' =>
      simp only [q] at h1
      exact ⟨B, φ1, ρ, μ1, d, ρ', ab.ext e1 m1, r1, q, fun σ' a' _ => h1 σ' H1 φ1 .refl a'⟩
  · cases h
theorem sns_par {i j : Nat} {a b : C} : Sns Γ g k N (.par i j a b) := by
  refine .of (fun _ _ _ => rfl) fun {sc e st W X} h hk cx => ?_
  simp only [mS] at h
  split at h
  · rename_i x px y py kk p va vb k2 p2 pos
    simp only [Bool.and_eq_true, Bool.not_eq_true', decide_eq_true_eq] at h
    obtain ⟨⟨⟨⟨⟨⟨⟨⟨⟨ho, h1⟩, h2⟩, h3⟩, h4⟩, h5⟩, h6⟩, h7⟩, h8⟩, h9⟩ := h
    have hk' : X.env.scope.kind = .function := by rw [cx.scp]; exact hk
    have l1 : X.env.scope.names.lookup x = some .local := by rw [cx.scp]; exact of_decide_eq_true h6
    have l2 : X.env.scope.names.lookup y = some .local := by rw [cx.scp]; exact of_decide_eq_true h7
    have s1 := star_eq (mE_forms h8).1 [vb] X.env
    have s2 := star_eq (mE_forms h9).1 [] X.env
    refine PS.weak (ps_par (cx.calm ho) cx.nd (by rw [cx.nm]; exact h3) (by rw [cx.nm]; exact h4) h5 l1 l2 (pa_cons ((snd a).e h8 cx) (pa_cons ((snd b).e h9 cx) pa_nil s2) s1)
      (by rw [isSw_eq hk' (by rw [cx.scp]; exact h1), cx.scp, h2]) (swaps_sole rfl _ _ _)) fun D σ H ⟨B, φ, ρ, μ, ab, hw⟩ => ?_
    refine ⟨B, φ, ρ, μ, ab, (DenF.bindV ab.mem.len hw).imp fun v H1 ⟨φ1, μ1, d, e1, m1, r1, h1⟩ => ⟨B, φ1, ρ, μ1, ab.ext e1 m1, (DenF.bindV m1.len h1).imp fun w H2 ⟨φ2, μ2, d2, e2, m2, r2, h2⟩ => ?_⟩⟩
    exact ⟨v, w, rfl, h2 _ H2 φ2 .refl ((((ab.ext e1 m1).ext e2 m2).set (RdV.mono e2 m1.len r1)).set r2)⟩
  · cases h
theorem sns_par3 {i j l : Nat} {a b c : C} : Sns Γ g k N (.par3 i j l a b c) := by
  refine .of (fun _ _ _ => rfl) fun {sc e st W X} h hk cx => ?_
  simp only [mS] at h
  split at h
  · rename_i x px y py z pz kk p va vb vc k2 p2 pos
    simp only [Bool.and_eq_true, Bool.not_eq_true', decide_eq_true_eq] at h
    obtain ⟨⟨⟨⟨⟨⟨⟨⟨⟨⟨⟨⟨⟨⟨ho, h1⟩, h2⟩, h3⟩, h4⟩, h5⟩, n1⟩, n2⟩, n3⟩, h6⟩, h7⟩, h8⟩, h9⟩, h10⟩, h11⟩ := h
    have hk' : X.env.scope.kind = .function := by rw [cx.scp]; exact hk
    have l1 : X.env.scope.names.lookup x = some .local := by rw [cx.scp]; exact of_decide_eq_true h6
    have l2 : X.env.scope.names.lookup y = some .local := by rw [cx.scp]; exact of_decide_eq_true h7
    have l3 : X.env.scope.names.lookup z = some .local := by rw [cx.scp]; exact of_decide_eq_true h8
    have s1 := star_eq (mE_forms h9).1 [vb, vc] X.env
    have s2 := star_eq (mE_forms h10).1 [vc] X.env
    have s3 := star_eq (mE_forms h11).1 [] X.env
    refine PS.weak (ps_par3 (cx.calm ho) cx.nd (by rw [cx.nm]; exact h3) (by rw [cx.nm]; exact h4) (by rw [cx.nm]; exact h5) n1 n2 n3 l1 l2 l3 (pa_cons ((snd a).e h9 cx) (pa_cons ((snd b).e h10 cx) (pa_cons ((snd c).e h11 cx) pa_nil s3) s2) s1)
      (by rw [isSw_eq hk' (by rw [cx.scp]; exact h1), cx.scp, h2]) (swaps_sole rfl _ _ _)) fun D σ H ⟨B, φ, ρ, μ, ab, hw⟩ => ?_
    refine ⟨B, φ, ρ, μ, ab, (DenF.bindV ab.mem.len hw).imp fun v H1 ⟨φ1, μ1, d, e1, m1, r1, h1⟩ => ⟨B, φ1, ρ, μ1, ab.ext e1 m1, (DenF.bindV m1.len h1).imp fun w H2 ⟨φ2, μ2, d2, e2, m2, r2, h2⟩ => ⟨B, φ2, ρ, μ2, (ab.ext e1 m1).ext e2 m2, (DenF.bindV m2.len h2).imp fun u H3 ⟨φ3, μ3, d3, e3, m3, r3, h3⟩ => ?_⟩⟩⟩
    exact ⟨v, w, u, rfl, h3 _ H3 φ3 .refl ((((((ab.ext e1 m1).ext e2 m2).ext e3 m3).set (RdV.mono (e2.trans m1.len e3) m1.len r1)).set (RdV.mono e3 m2.len r2)).set r3)⟩
  · cases h
theorem sns_ife {t : C} {a b : S} (sa : Sns Γ g k N a) (sb : Sns Γ g k N b) : Sns Γ g k N (.ife t a b) := by
  refine .of (fun _ _ _ => rfl) fun {sc e st W X} h hk cx => ?_
  simp only [mS] at h
  split at h
  · simp only [Bool.and_eq_true] at h
    refine PS.weak (ps_if ((snd t).t h.1.1 cx) (sa.ss h.1.2 hk cx) (sb.ss h.2 hk cx)) fun D σ H ⟨B, φ, ρ, μ, ab, hw⟩ => ⟨B, φ, ρ, μ, ab, (DenF.bindB ab.mem.len hw).imp fun c H1 ⟨φ1, μ1, e1, m1, h1⟩ => ?_⟩
    cases c with
    | true => exact ⟨B, φ1, ρ, μ1, ab.ext e1 m1, h1⟩
    | false => exact ⟨B, φ1, ρ, μ1, ab.ext e1 m1, h1⟩
  · cases h
theorem sns_for {tg : T} {it : C} {b : S} (sb : Sns Γ g k N b) : Sns Γ g k N (.for tg it b) := by
  refine .of (fun _ _ _ => rfl) fun {sc e st W X} h hk cx => ?_
  simp only [mS] at h
  split at h
  · simp only [Bool.and_eq_true, Bool.not_eq_true'] at h
    obtain ⟨⟨⟨ho, h1⟩, h2⟩, h3⟩ := h
    replace h := And.intro (And.intro h1 h2) h3
    exact PS.weak (ps_for cx.own (cx.calm ho) ((snd it).i h.1.2 cx) (s_tgt cx.nm cx.nd cx.scp (.inl (cx.calm ho)) cx.sto h.1.1) (sb.ss h.2 hk cx) (folded_eq (mI_notSet h.1.2) X.env)) fun D σ H hw => w_for hw
  · cases h
theorem sns_whl {t : C} {b : S} (sb : Sns Γ g k N b) : Sns Γ g k N (.whl t b) := by
  refine .of (fun _ _ _ => rfl) fun {sc e st W X} h hk cx => ?_
  simp only [mS] at h
  split at h
  · simp only [Bool.and_eq_true, Bool.not_eq_true'] at h
    replace h := And.intro h.1.2 h.2
    exact PS.weak (ps_while cx.own ((snd t).t h.1 cx) (sb.ss h.2 hk cx)) fun D σ H hw => w_whl hw
  · cases h
theorem sns_ret {c : C} : Sns Γ g k N (.ret c) := by
  refine .of (fun _ _ _ => rfl) fun {sc e st W X} h hk cx => ?_
  simp only [mS] at h
  split at h
  · exact PS.weak (ps_ret ((snd c).e h cx)) fun D σ H ⟨B, φ, ρ, μ, ab, hw⟩ => ⟨B, φ, ρ, μ, ab, (DenF.bindV ab.mem.len hw).imp fun v H1 ⟨φ1, μ1, d, e1, m1, r1, h1⟩ => h1 v H1 φ1 .refl m1 r1⟩
  · cases h
theorem sns_retn : Sns Γ g k N .retn := by
  refine .of (fun _ _ _ => rfl) fun {sc e st W X} h hk cx => ?_
  simp only [mS] at h
  split at h
  · exact PS.weak ps_retN fun D σ H ⟨B, φ, ρ, μ, ab, hw⟩ => hw .non H φ .refl ab.mem rd_non
  · cases h
theorem sns_exp {c : C} : Sns Γ g k N (.exp c) := by
  refine .of (fun _ _ _ => rfl) fun {sc e st W X} h hk cx => ?_
  simp only [mS] at h
  split at h
  · simp only [Bool.and_eq_true] at h
    exact PS.weak (ps_expr ((snd c).e h.2 cx) (swaps_none h.1 _ _ _)) fun D σ H ⟨B, φ, ρ, μ, ab, hw⟩ => ⟨B, φ, ρ, μ, ab, (DenF.bindV ab.mem.len hw).imp fun v H1 ⟨φ1, μ1, d, e1, m1, r1, h1⟩ => h1 σ H1 φ1 .refl (ab.ext e1 m1)⟩
  · cases h
theorem sns_brk : Sns Γ g k N .brk := by
  refine .of (fun _ _ _ => rfl) fun {sc e st W X} h hk cx => ?_
  simp only [mS] at h
  split at h
  · exact PS.weak ps_break fun D σ H ⟨B, φ, ρ, μ, ab, hw⟩ => hw σ H φ .refl ab
  · cases h
theorem sns_cnt : Sns Γ g k N .cnt := by
  refine .of (fun _ _ _ => rfl) fun {sc e st W X} h hk cx => ?_
  simp only [mS] at h
  split at h
  · exact PS.weak ps_continue fun D σ H ⟨B, φ, ρ, μ, ab, hw⟩ => hw σ H φ .refl ab
  · cases h
theorem sns_rai {x : Str} : Sns Γ g k N (.rai x) := by
  refine .of (fun _ _ _ => rfl) fun {sc e st W X} h hk cx => ?_
  simp only [mS] at h
  split at h
  · simp only [Bool.and_eq_true, Bool.not_eq_true', decide_eq_true_eq] at h
    obtain ⟨⟨⟨⟨ho, h1⟩, h2⟩, h3⟩, h4⟩ := h
    subst h1
    obtain ⟨Bs, newId, initId, bmB, F, q1, q2, q3, q4⟩ := cx.exs x h4
    refine PS.weak (L2N.ps_raise (cx.calm ho) cx.takes (L2N.pmk_own F q1 q2 q3 q4 (glB_out (by rw [cx.scp]; exact h2)) (nmOk_out h3).1)) fun D σ H ⟨B, φ, ρ, μ, ab, hw⟩ => ?_
    exact hw H φ .refl ab.mem _ _ ⟨rfl, fun _ => rfl⟩
  · cases h
theorem call0_of {sc : Scope} {c : C} {v : Expr} (h : notCall0 v = true) (a : Str) (env : PySem.Env) : attributeBase v a env (eval v env) = eval v env := base_eq h a env _
theorem sns_app {o c : C} : Sns Γ g k N (.app o c) := by
  refine .of (fun _ _ _ => rfl) fun {sc e st W X} h hk cx => ?_
  simp only [mS] at h
  split at h
  · rename_i v n ap x cp pos
    simp only [Bool.and_eq_true, decide_eq_true_eq] at h
    obtain ⟨⟨⟨⟨h1, h2⟩, h3⟩, h4⟩, h5⟩ := h
    subst h1
    have sx := star_eq (mE_forms h5).1 [] X.env
    refine PS.weak (ps_expr (pe_bm PySem.F.plainAttrs_list PySem.F.slot_list_append PySem.F.type_list_append mt_append ((snd o).e h4 cx) (pa_cons ((snd c).e h5 cx) pa_nil sx) (base_eq h2 _ _ _) (by rw [sx]; rfl) h3 sx rfl) (swaps_none rfl _ _ _)) fun D σ H ⟨B, φ, ρ, μ, ab, hw⟩ => ?_
    refine ⟨B, φ, ρ, μ, ab, (DenF.bindV ab.mem.len hw).imp fun v H1 ⟨φ1, μ1, d, e1, m1, r1, h1⟩ => ?_⟩
    split at h1
    · rename_i hc
      obtain ⟨n, a, xs, vs, rfl, rfl, g1, g2, g3, g4⟩ := isCel_out m1 hc r1
      refine ⟨.inl ⟨rfl, vs, SqL.of g3⟩, B, φ1, ρ, μ1, ab.ext e1 m1, (DenF.bindV m1.len h1).imp fun w H2 ⟨φ2, μ2, d2, e2, m2, r2, h2⟩ => ?_⟩
      have a2 := (ab.ext e1 m1).ext e2 m2
      have r1' := RdV.mono e2 m1.len r1
      cases q : appD (.cel n) d2 μ2 with
      | ok u μ3 =>
        rw [q] at h2
        simp only [appD] at q
        split at q
        · rename_i xs2 g5
          split at q
          · rename_i hlt
            cases q
            simp only [RdV] at r1'
            obtain ⟨b, g6, g7⟩ := r1'
            cases g7
            obtain ⟨⟨_, vs2, g8, rfl, g9⟩, _⟩ := m2.cell n _ a g5 g6
            have g9 : RdL X.K H2 (Live φ2 μ2 B) φ2 xs2 vs2 := g9
            obtain ⟨e3, m3⟩ := write_cell m2 g5 g6 g8 (g9.append (.cons r2 .nil))
            exact ⟨a, vs2, w, rfl, rfl, g8, by rw [sizeLine_eq, ← g9.length]; exact of_decide_eq_true hlt, DenF.shift e3 m2.len h2 σ _ φ2 .refl (a2.ext e3 m3)⟩
          · cases q
        · cases q
      | er x m => rw [q] at h2; simp only [appD] at q; split at q <;> first | cases q | (split at q <;> cases q)
      | no => rw [q] at h2; exact False.elim h2
    · exact False.elim h1
  · cases h
/-- an instance's attribute is set -/
theorem put_names {f : Str} {d : D} {v : V} : ∀ {fs : List (Str × D)} {gs : List (Str × V)}, gs.map (·.1) = fs.map (·.1) → (putF f v gs).map (·.1) = (putD f d fs).map (·.1)
  | [], gs, h => by rw [List.map_eq_nil_iff.mp h]; rfl
  | p :: fs, [], h => by cases h
  | p :: fs, (q1, q2) :: gs, h => by
    simp only [List.map_cons, List.cons.injEq] at h
    obtain ⟨e, h⟩ := h
    have e : q1 = p.1 := e
    unfold putF putD
    by_cases hc : p.1 = f
    · rw [if_pos (by rw [e]; exact hc), if_pos hc]
      simp only [List.map_cons, e, h]
    · rw [if_neg (by rw [e]; exact hc), if_neg hc]
      simp only [List.map_cons, e, put_names (d := d) (v := v) h]
theorem put_rd {K : PySem.W.Frag} {H : Hp} {L : Addr → Prop} {φ : List Addr} {f : Str} {d : D} {v : V} (r : RdV K H L φ d v) : ∀ {fs : List (Str × D)} {gs : List (Str × V)}, gs.map (·.1) = fs.map (·.1) → RdL K H L φ (fs.map (·.2)) (gs.map (·.2)) → RdL K H L φ ((putD f d fs).map (·.2)) ((putF f v gs).map (·.2))
  | [], gs, h, _ => by
    rw [List.map_eq_nil_iff.mp h]
    exact .cons r .nil
  | p :: fs, [], h, _ => by cases h
  | p :: fs, (q1, q2) :: gs, h, h2 => by
    simp only [List.map_cons, List.cons.injEq] at h
    obtain ⟨e, h⟩ := h
    have e : q1 = p.1 := e
    simp only [List.map_cons, RdL] at h2
    obtain ⟨w, ws, e2, r1, r2⟩ := h2
    simp only [List.cons.injEq] at e2
    obtain ⟨e3, e4⟩ := e2
    subst e3 e4
    unfold putF putD
    by_cases hc : p.1 = f
    · rw [if_pos (e.trans hc : q1 = f), if_pos hc]
      exact .cons r r2
    · rw [if_neg (fun z : q1 = f => hc (e.symm.trans z)), if_neg hc]
      exact .cons r1 (put_rd r h r2)
theorem fldD_rd {K : PySem.W.Frag} {H : Hp} {φ : List Addr} {μ : Mem} {B : Addr → Prop} {x y : D} {v w : V} {c f : Str} {u : Unit} {μ' : Mem} (m : MemOk K H φ μ B) (r : RdV K H (Live φ μ B) φ x v) (ry : RdV K H (Live φ μ B) φ y w) (h : fldD x c f y μ = .ok u μ') :
    ∃ a dx gs, v = .ref a ∧ H a = some (.ins (He.ga K c) dx gs) ∧ gs.length < 1000 ∧ Ext H φ μ (upd H a (.ins (He.ga K c) dx (putF f w gs))) φ μ' ∧ MemOk K (upd H a (.ins (He.ga K c) dx (putF f w gs))) φ μ' B := by
  unfold fldD at h
  split at h
  · split at h
    · rename_i n _ c' fs hn
      split at h
      · rename_i hc
        simp only [Bool.and_eq_true, decide_eq_true_eq] at hc
        obtain ⟨rfl, hl⟩ := hc
        cases h
        simp only [RdV] at r
        obtain ⟨a, ha, rfl⟩ := r
        obtain ⟨⟨_, vs, q1, ⟨dx, gs, rfl, g1, g2⟩, q2⟩, _⟩ := m.cell n _ a hn ha
        have q2 : RdL K H (Live φ μ B) φ (fs.map (·.2)) vs := q2
        have hg : gs.length = fs.length := by
          have := congrArg List.length g1
          simpa using this
        obtain ⟨e3, m3⟩ := write_any (c1 := .obj c' (putD f y fs)) (o1 := .ins (He.ga K c') dx (putF f w gs)) (ws := (putF f w gs).map fun p : Str × V => p.2) m hn ha q1 (⟨dx, gs, rfl, g1, g2⟩ : HoOf K (.obj c' fs) _ _) ⟨dx, _, rfl, put_names g1, rfl⟩ (put_rd ry g1 (by rw [g2]; exact q2))
        exact ⟨a, dx, gs, rfl, q1, by omega, e3, m3⟩
      · cases h
    · cases h
  · cases h
theorem fldD_er {x y : D} {c f : Str} {μ μ' : Mem} {e : Exn} (h : fldD x c f y μ = .er e μ') : False := by
  unfold fldD at h
  split at h
  · split at h
    · split at h <;> cases h
    · cases h
  · cases h
theorem sns_fset {o e0 : C} {c f : Str} : Sns Γ g k N (.fset o c f e0) := by
  refine .of (fun _ _ _ => rfl) fun {sc e st W X} h hk cx => ?_
  simp only [mS] at h
  split at h
  · rename_i x y p v pos
    simp only [Bool.and_eq_true, decide_eq_true_eq] at h
    obtain ⟨⟨⟨h1, h2⟩, h3⟩, h4⟩ := h
    subst h1
    obtain ⟨cl, na⟩ := cx.flds c _ h2
    refine PS.weak (ps_fld ((snd o).e h4 cx) ((snd e0).e h3 cx) (swaps_off rfl _ _ _)) fun D σ H ⟨B, φ, ρ, μ, ab, hw⟩ => ?_
    refine ⟨B, φ, ρ, μ, ab, (DenF.bindV ab.mem.len hw).imp fun v H1 ⟨φ1, μ1, d, e1, m1, r1, h1⟩ => ⟨B, φ1, ρ, μ1, ab.ext e1 m1, (DenF.bindV m1.len h1).imp fun w H2 ⟨φ2, μ2, d2, e2, m2, r2, h2⟩ => ?_⟩⟩
    have a2 := (ab.ext e1 m1).ext e2 m2
    have r1' := RdV.mono e2 m1.len r1
    cases q : fldD d2 c f d μ2 with
    | ok u μ3 =>
      rw [q] at h2
      obtain ⟨a, dx, gs, rfl, q1, q2, e3, m3⟩ := fldD_rd m2 r2 r1' q
      exact ⟨a, _, dx, gs, rfl, q1, cl, na, q2, DenF.shift e3 m2.len h2 σ _ φ2 .refl (a2.ext e3 m3)⟩
    | er x m => exact (fldD_er q).elim
    | no => rw [q] at h2; exact False.elim h2
  · cases h
/-- a target e.f -/
def gFld (K : PySem.W.Frag) (te : TE) (f : Str) : TG := fun v σ H Q => te σ H fun x H1 => ∃ a C dx gs, x = .ref a ∧ H1 a = some (.ins C dx gs) ∧ Cls K C ∧ NoAttr K C f ∧ gs.length < 1000 ∧ Q σ (upd H1 a (.ins C dx (putF f v gs)))
theorem pg_fldT {X : Cx} {o : Expr} {f : Str} {pos : Pos} {te : TE} (ho : PE X o te) : PG X (.Attribute o f pos) (gFld X.K te f) := by
  refine ⟨fun pins s σ H v u Q I r h => ?_⟩
  rw [assign_Attribute]
  refine wpAny_bind (wpAny_holding (thn (ho.run pins s σ H _ I h) fun ov s1 ⟨x, H1, I1, rx, a, C, dx, gs, ex, ea, c, n, l, q⟩ => ?_))
  subst ex
  obtain rfl : ov = Value.ref a := rx
  refine wpAny_bind (wpAny_standAt (wpAny_bind (wpAny_holding (setattr_ok I1 ea c n l r fun s3 I3 => ?_))))
  exact wpAny_release ⟨σ, _, I3, q⟩
theorem sns_fs3 {i : Nat} {e0 : C} {c f1 f2 f3 : Str} : Sns Γ g k N (.fs3 i c f1 f2 f3 e0) := by
  refine .of (fun _ _ _ => rfl) fun {sc e st W X} h hk cx => ?_
  simp only [mS] at h
  split at h
  · rename_i x1 p1 y1 q1 x2 p2 y2 q2 x3 p3 y3 q3 kk p v pos
    simp only [Bool.and_eq_true, Bool.not_eq_true', decide_eq_true_eq] at h
    obtain ⟨⟨⟨⟨⟨⟨⟨⟨⟨⟨⟨ho, h1⟩, h2⟩, h3⟩, h4⟩, h5⟩, h6⟩, h7⟩, h8⟩, h9⟩, h10⟩, h11⟩ := h
    subst h1 h2 h3
    obtain ⟨cl, n1⟩ := cx.flds c _ h4
    obtain ⟨_, n2⟩ := cx.flds c _ h5
    obtain ⟨_, n3⟩ := cx.flds c _ h6
    refine PS.weak (ps_asg ((snd e0).e h11 cx) (pg_tup (n := 3) (cx.calm ho) (pgs_cons (pg_fldT ((snd (.var i)).e h7 cx)) (pgs_cons (pg_fldT ((snd (.var i)).e h8 cx)) (pgs_cons (pg_fldT ((snd (.var i)).e h9 cx)) pgs_nil)))) (swaps_sole rfl v _ _) (noSw_eq (by rw [cx.scp]; exact h10)) (assign_one rfl)) fun Dn σ H ⟨B, φ, ρ, μ, ab, hw⟩ => ?_
    refine ⟨B, φ, ρ, μ, ab, (DenF.bindV ab.mem.len hw).imp fun v H1 ⟨φ1, μ1, d, e1, m1, r1, h1⟩ => ?_⟩
    have a1 := ab.ext e1 m1
    split at h1
    · rename_i z1 z2 z3
      obtain ⟨pa, vs, rfl, g1, g2⟩ := rdV_tup r1
      simp only [RdL] at g2
      obtain ⟨w1, _, rfl, r2, w2, _, rfl, r3, w3, _, rfl, r4, rfl⟩ := g2
      split at h1
      · rename_i od hi
        have hv : ∀ μ0, evE g (.var i) ρ μ0 = .ok od μ0 := fun μ0 => by simp only [evE, hi]
        have step : ∀ {H0 : Hp} {φ0 : List Addr} {μ0 : Mem} {y : D} {w : V} {f : Str} {kt : Unit → Mem → R Fl} {Qn : L2.St → Hp → Prop}, Abs X.K H0 σ φ0 ρ μ0 B → RdV X.K H0 (Live φ0 μ0 B) φ0 y w → NoAttr X.K (He.ga X.K c) f → DenF X.K W B H0 φ0 μ0 ((fldD od c f y μ0).bind kt) Dn →
            (∀ H' φ' μ', Ext H0 φ0 μ0 H' φ' μ' → MemOk X.K H' φ' μ' B → DenF X.K W B H' φ' μ' (kt () μ') Dn → Qn σ H') → gFld X.K (tC X.K W g (.var i)) f w σ H0 Qn := fun {H0 φ0 μ0 y w f kt Qn} a0 ry nf hh hq => by
          refine ⟨B, φ0, ρ, μ0, a0, ?_⟩
          rw [hv]
          intro o' H' φ' e' m' r'
          cases q : fldD od c f y μ0 with
          | ok u μ3 =>
            rw [q] at hh
            obtain ⟨a, dx, gs, rfl, q1, q2, e3, m3⟩ := fldD_rd m' r' (RdV.mono e' a0.mem.len ry) q
            have e4 := e'.trans a0.mem.len e3
            exact ⟨a, _, dx, gs, rfl, q1, cl, nf, q2, hq _ _ _ e4 m3 (DenF.shift e4 a0.mem.len hh)⟩
          | er x m => exact (fldD_er q).elim
          | no => rw [q] at hh; exact False.elim hh
        refine ⟨pa, _, rfl, g1, rfl, w1, _, rfl, step a1 r2 n1 h1 fun H4 φ4 μ4 e4 m4 h4 => ⟨w2, _, rfl, step (a1.ext e4 m4) (RdV.mono e4 m1.len r3) n2 h4 fun H5 φ5 μ5 e5 m5 h5 => ⟨w3, _, rfl, step ((a1.ext e4 m4).ext e5 m5) (RdV.mono e5 m4.len (RdV.mono e4 m1.len r4)) n3 h5 fun H6 φ6 μ6 e6 m6 h6 => ⟨rfl, ?_⟩⟩⟩⟩
        exact h6 σ H6 φ6 .refl (((a1.ext e4 m4).ext e5 m5).ext e6 m6)
      · exact False.elim h1
    · exact False.elim h1
  · cases h
theorem assign_sub {env : PySem.Env} {o i : Expr} {pos : Pos} (h : isSlice i = false) (v : Value) : assign (.Subscript o i pos) env v = (do
      let ov ← holding [v] (eval o env)
      let iv ← holding [v, ov] (eval i env)
      standAt pos
      holding [v, ov, iv] (setItem ov iv v)
      release [v, ov, iv] []) := by cases i <;> first | rfl | (simp [isSlice] at h)
theorem sns_sub {o i c : C} : Sns Γ g k N (.sub o i c) := by
  refine .of (fun _ _ _ => rfl) fun {sc e st W X} h hk cx => ?_
  simp only [mS] at h
  split at h
  · rename_i a b p v pos
    simp only [Bool.and_eq_true, Bool.not_eq_true'] at h
    obtain ⟨⟨⟨h1, h2⟩, h3⟩, h4⟩ := h
    refine PS.weak (ps_asg ((snd c).e h2 cx) (pg_sub ((snd o).e h3 cx) ((snd i).e h4 cx) set_list (assign_sub h1)) (swaps_sole rfl _ _ _) (noSw_eq (by cases v <;> rfl)) (assign_one rfl)) fun D σ H ⟨B, φ, ρ, μ, ab, hw⟩ => ?_
    refine ⟨B, φ, ρ, μ, ab, (DenF.bindV ab.mem.len hw).imp fun v H1 ⟨φ1, μ1, d, e1, m1, r1, h1⟩ => ⟨B, φ1, ρ, μ1, ab.ext e1 m1, (DenF.bindV m1.len h1).imp fun w H2 ⟨φ2, μ2, d2, e2, m2, r2, h2⟩ => ⟨B, φ2, ρ, μ2, (ab.ext e1 m1).ext e2 m2, (DenF.bindV m2.len h2).imp fun u H3 ⟨φ3, μ3, d3, e3, m3, r3, h3⟩ => ?_⟩⟩⟩
    have a3 := ((ab.ext e1 m1).ext e2 m2).ext e3 m3
    have r1' := RdV.mono (e2.trans m1.len e3) m1.len r1
    have r2' := RdV.mono e3 m2.len r2
    cases d2 with
    | cel n =>
      cases d3 with
      | int kx =>
        simp only [subD] at h3
        simp only [RdV] at r2'
        obtain ⟨pa, g6, rfl⟩ := r2'
        split at h3
        · rename_i xs g5
          split at h3
          · rename_i j hj
            obtain ⟨⟨_, vs2, g8, rfl, g9⟩, _⟩ := m3.cell n _ pa g5 g6
            have g9 : RdL X.K H3 (Live φ3 μ3 B) φ3 xs vs2 := g9
            obtain ⟨e4, m4⟩ := write_cell m3 g5 g6 g8 (g9.set j r1')
            exact ⟨pa, vs2, kx, j, rfl, rdV_int r3, g8, by rw [← g9.length]; exact hj, h3 σ _ φ3 e4 (a3.ext e4 m4)⟩
          · exact False.elim h3
        · exact False.elim h3
      | _ => exact False.elim h3
    | _ => exact False.elim h3
  · cases h
theorem mSs_cons {a r : S} {sc : Scope} {st : Str → Bool} {e : List Stmt} (hf : ∀ i, a ≠ .frz i) (h : mSs Γ N sc st (.cons a r) e = true) : ∃ x xs, e = x :: xs ∧ mS Γ N sc st a x = true ∧ mSs Γ N sc st r xs = true := by
  cases a <;> first
    | (exact absurd rfl (hf _))
    | (cases e <;> first
        | (simp only [mSs] at h; cases h; done)
        | (simp only [mSs, Bool.and_eq_true] at h; exact ⟨_, _, rfl, h.1, h.2⟩))
theorem sns_frz {i : Nat} : Sns Γ g k N (.frz i) := ⟨fun h => by simp [mS] at h, fun h => by simp [mSs] at h⟩
theorem sns_nil : Sns Γ g k N .nil where
  s := fun h => by simp [mS] at h
  ss := fun {sc e st W X} h hk cx => by
    simp only [mSs, List.isEmpty_iff] at h
    subst h
    exact PSs.weak pss_nil fun D σ H ⟨B, φ, ρ, μ, ab, hw⟩ => hw σ H φ .refl ab
theorem sns_cons {a r : S} (sa : Sns Γ g k N a) (sr : Sns Γ g k N r) : Sns Γ g k N (.cons a r) where
  s := fun h => by simp [mS] at h
  ss := fun {sc e st W X} h hk cx => by
    by_cases hf : ∃ i, a = .frz i
    · obtain ⟨i, rfl⟩ := hf
      simp only [mSs] at h
      refine PSs.weak (sr.ss h hk cx) fun D σ H ⟨B, φ, ρ, μ, ab, hw⟩ => ?_
      simp only [evS] at hw
      split at hw
      · rename_i n hi
        split at hw
        · rename_i xs hn
          obtain ⟨e2, a2⟩ := ab.frozen hi hn
          exact ⟨B, φ, _, _, a2, DenF.shift e2 ab.mem.len hw⟩
        · exact False.elim hw
      · exact False.elim hw
    · obtain ⟨x, xs, rfl, h1, h2⟩ := mSs_cons (fun i z => hf ⟨i, z⟩) h
      exact PSs.weak (pss_cons (sa.s h1 hk cx) (sr.ss h2 hk cx)) fun D σ H ⟨B, φ, ρ, μ, ab, hw⟩ => ⟨B, φ, ρ, μ, ab, DenF.bindF ab.mem.len hw fun σ1 H1 φ1 ρ1 μ1 e1 a1 h1 => ⟨B, φ1, ρ1, μ1, a1, h1⟩⟩
theorem sns : ∀ s : S, Sns Γ g k N s := by
  intro s
  induction s with
  | pass => exact sns_pass
  | nil => exact sns_nil
  | cons a r ha hr => exact sns_cons ha hr
  | set i e => exact sns_set
  | tgt tg e => exact sns_tgt
  | par i j a b => exact sns_par
  | par3 i j l a b c => exact sns_par3
  | ife t a b ha hb => exact sns_ife ha hb
  | «for» tg it b hb => exact sns_for hb
  | whl t b hb => exact sns_whl hb
  | ret e => exact sns_ret
  | retn => exact sns_retn
  | exp e => exact sns_exp
  | brk => exact sns_brk
  | cnt => exact sns_cnt
  | rai x => exact sns_rai
  | fset o c f e => exact sns_fset
  | fs3 i c f1 f2 f3 e => exact sns_fs3
  | app o e => exact sns_app
  | sub o i e => exact sns_sub
  | frz i => exact sns_frz
end
end Den

/-! Den18: a module: each def keeps what the interpreter gives, at every depth. -/
namespace Den
open PySem PySem.Spec PyProof.Rows L2
variable [Lams]

/-- a def: its name, its parameters, all its names, where it stands, its code -/
structure FT where
  name : Str
  ps : List Str
  N : List Str
  st : Stmt
  code : S
  lam : Bool := false
  /-- a method: its class, its name there -/
  cls : Option (Str × Str) := none
/-- its name as it stands in the text -/
def FT.own (t : FT) : Str := match t.cls with
  | none => t.name
  | some q => q.2
/-- where it lies -/
def FT.addr (K : PySem.W.Frag) (t : FT) : Addr := match t.cls with
  | none => He.ga K t.name
  | some q => He.ma K (He.ga K q.1) q.2
def FT.fn (t : FT) : Fn := ⟨t.name, t.ps.length, t.N.length, t.code⟩
/-- what the checker asks of a def -/
structure FT.Ok (Γ : Nm) (t : FT) : Prop where
  sc : FnScope t.N t.ps (defScope t.st)
  ck : mSs { Γ with lam := t.lam } t.N (defScope t.st) (fun _ => true) t.code (defBody t.st) = true
/-- what is known of the written part -/
structure Facts (Γ : Nm) (M : Md) (tab : List FT) (P : Program) (w : World) (K : PySem.W.Frag) (mg : Str → Option Value) (base : Heap) : Prop where
  glo : ∀ x, Γ.fns.contains x = true → mg x = some (.ref (He.ga K x)) ∧ PySem.W.keepIn K (.ref (He.ga K x)) = true
  con : ∀ x d, Γ.con.contains x = true → M.con.lookup x = some d → ∃ v u, mg x = some u ∧ RelV v u ∧ ∀ H L φ, RdV K H L φ d v
  free : ∀ x, Γ.free.contains x = true → mg x = none
  bfn : ∀ b : Bf, b.own = true → Γ.bfn.contains b.name = true → mg b.name = some b.val
  exs : ∀ x, Γ.exs.contains x = true → ∃ B newId initId bmB, ExcBaseFacts B newId initId bmB ∧ PySem.W.excIn K (He.ga K x) bmB newId = true ∧ mg x = some (.ref (He.ga K x)) ∧ PySem.W.keepIn K (.ref (He.ga K x)) = true ∧ PySem.W.subIn K (.ref (He.ga K x)) (.type "BaseException") = some true ∧ PySem.W.typeIn K (.ref (He.ga K x)) = some (.type "type")
  hot : Γ.hot = false
  isx : Γ.isx = false
  cls : ∀ C, Γ.cls.contains C = true → mg C = some (.ref (He.ga K C))
  defs : ∀ t ∈ tab, ∃ fd, FunD K t.own t.name (defArgs t.st) (defBody t.st) (defScope t.st) [] [] (t.addr K) fd ∧ Binds K fd t.ps []
  ok : ∀ t ∈ tab, t.Ok Γ
  cov : ∀ f, Γ.fns.contains f = true → ∃ t ∈ tab, t.name = f ∧ t.cls = none ∧ M.at_ f = some t.fn
  covM : ∀ c m n, Γ.mts.contains (c, m, n) = true → ∃ t ∈ tab, t.name = n ∧ t.cls = some (c, m) ∧ M.at_ n = some t.fn
  covI : ∀ c n, Γ.mks.contains (c, n) = true → ∃ t ∈ tab, t.name = n ∧ t.cls = some (c, ("__init__" : Str)) ∧ M.at_ n = some t.fn
  flds : ∀ c f, Γ.flds.contains (c, f) = true → Cls K (He.ga K c) ∧ NoAttr K (He.ga K c) f
  meth : ∀ c m n, Γ.mts.contains (c, m, n) = true → Cls K (He.ga K c) ∧ Meth K (He.ga K c) m (He.ma K (He.ga K c) m)
  make : ∀ c n, Γ.mks.contains (c, n) = true → mg c = some (.ref (He.ga K c)) ∧ Mk K (He.ga K c) (He.ma K (He.ga K c) ("__init__" : Str))
  lamN : ∀ t ∈ tab, t.lam = true → t.cls = none
  hnd : ∀ f, Γ.hnd.contains f = true → HndOk P w K mg base f (M.hnd f)
  tbs : ∀ x ∈ Lams.lams, LamX.TabB base mg (He.cT K (x, none)).1 (He.cT K (x, none)).2
  lams : ∀ t ∈ tab, t.lam = true → t.name ∈ Lams.lams
  uniq : ∀ x ∈ Lams.lams, ∀ y ∈ Lams.lams, (He.cT K (x, none)).2 = (He.cT K (y, none)).2 → x = y
section
variable {Γ : Nm} {M : Md} {tab : List FT} {P : Program} {w : World} {K : PySem.W.Frag} {mg : Str → Option Value} {base : Heap}
theorem start_abs {H : Hp} {φ : List Addr} {μ : Mem} {B : Addr → Prop} {N : List Str} {ds : List D} {vs : List V} (m : MemOk K H φ μ B) (rl : RdL K H (Live φ μ B) φ ds vs) : Abs K H (L2.start N vs) φ (startD N.length ds) μ B := by
  refine ⟨m, by unfold startD L2.start; rw [List.length_append, List.length_append, List.length_map, List.length_map, List.length_replicate, List.length_replicate, rl.length], fun i d h => ?_⟩
  unfold startD at h
  unfold L2.start
  by_cases hi : i < ds.length
  · rw [List.getElem?_append_left (by simpa using hi), List.getElem?_map] at h
    cases q : ds[i]? with
    | none => rw [q] at h; cases h
    | some e =>
      rw [q] at h
      cases h
      obtain ⟨v, h1, h2⟩ := rl.get q
      refine ⟨v, ?_, h2⟩
      rw [List.getElem?_append_left (by rw [List.length_map, ← rl.length]; exact hi), List.getElem?_map, h1]
      rfl
  · rw [List.getElem?_append_right (by simpa using hi), List.getElem?_replicate] at h
    split at h <;> cases h
/-- all that is known of the defs, so many calls deep -/
def AllFn (Γ : Nm) (M : Md) (W : Nat) (P : Program) (w : World) (K : PySem.W.Frag) (mg : Str → Option Value) (base : Heap) (k : Nat) (c : Str → List D → Mem → R D) : Prop :=
  (∀ f, Γ.fns.contains f = true → ∃ fd ps, FnOk P w K mg base (L2N.CX P w) k (He.ga K f) fd ps (fun vs H Q E => ∃ B φ μ ds, MemOk K H φ μ B ∧ RdL K H (Live φ μ B) φ ds vs ∧ DenV K E B H φ μ (c f ds μ) Q) ∧ Binds K fd ps []) ∧
  (∀ cl m n, (Γ.mts.contains (cl, m, n) = true ∨ (Γ.mks.contains (cl, n) = true ∧ m = "__init__")) → ∃ fd ps, FnOk P w K mg base (L2N.CX P w) k (He.ma K (He.ga K cl) m) fd ps (fun vs H Q E => ∃ B φ μ ds, MemOk K H φ μ B ∧ RdL K H (Live φ μ B) φ ds vs ∧ DenV K E B H φ μ (c n ds μ) Q) ∧ Binds K fd ps [])
/-- a def's promise, one call deeper -/
theorem fn_step (F : Facts Γ M tab P w K mg base) {W k : Nat} (ih : AllFn Γ M W P w K mg base k (run M W k)) (ih2 : AllFn Γ M W P w K mg base (k - 2) (run M W (k - 2)))
    {t : FT} (ht : t ∈ tab) (hat : M.at_ t.name = some t.fn) {fd : FuncData} (fu : FunD K t.own t.name (defArgs t.st) (defBody t.st) (defScope t.st) [] [] (t.addr K) fd) :
    FnOk P w K mg base (L2N.CX P w) (k + 1) (t.addr K) fd t.ps (fun vs H Q E => ∃ B φ μ ds, MemOk K H φ μ B ∧ RdL K H (Live φ μ B) φ ds vs ∧ DenV K E B H φ μ (run M W (k + 1) t.name ds μ) Q) := by
  obtain ⟨sc, ck⟩ := F.ok t ht
  obtain ⟨oc, od, dV, kV, doc, pm, an, cdv, ct, osl, rfl, lk, hcd, _, _⟩ := fu.ex
  obtain ⟨c, hc⟩ := He.codeIn_ref hcd
  refine fn_of lk hcd sc (fun vs H Q E h => ?_) fun A outer s H vs Q E hr h => ?_
  · obtain ⟨B, φ, μ, ds, m, rl, h⟩ := h
    rw [run_succ] at h
    simp only [callM, hat, runB] at h
    split at h
    · rename_i hl
      rw [← rl.length]
      exact hl
    · exact False.elim h
  · obtain ⟨B, φ, μ, ds, m, rl, h⟩ := h
    rw [run_succ] at h
    simp only [callM, hat, runB] at h
    split at h
    · have cx : Cxd { Γ with lam := t.lam } (gAt M W k) k t.N (defScope t.st) (fun _ => true) E (cxOf (L2N.CX P w) P w K mg base t.N t.name (defScope t.st) (t.addr K) cdv A outer s H E) :=
        { nd := sc.nd, nm := rfl, scp := rfl, calm := fun _ => rfl, hoti := fun z => by rw [show ({ Γ with lam := t.lam } : Nm).hot = Γ.hot from rfl, F.hot] at z; cases z
          isx := fun z => by rw [show ({ Γ with lam := t.lam } : Nm).isx = Γ.isx from rfl, F.isx] at z; cases z
          cls := F.cls, un := hr.units, sto := fun _ _ => .inl rfl, room := fun _ => hr, takes := L2N.takes_of rfl rfl rfl rfl, own := PassesOwn.leaving, glo := F.glo, con := F.con, free := F.free, bfn := F.bfn
          exs := fun x hx => by
            obtain ⟨Bs, newId, initId, bmB, q1, q2, q3, q4, q5, q6⟩ := F.exs x hx
            exact ⟨Bs, newId, initId, bmB, q1, q2, q3, q4, raises_own q5 q6⟩
          low := fun hd => ⟨k - 2, by have : 2 ≤ k := of_decide_eq_true hd; omega, ih2.1⟩
          hnd := F.hnd
          lam := fun hl => by
            have hm := F.lams t ht hl
            have ad : t.addr K = He.ga K t.name := by unfold FT.addr; rw [F.lamN t ht hl]
            rw [ad] at lk
            have e : (He.cT K (t.name, none)).1 = c := He.codeOf_eq (p := (t.name, none)) lk hc
            refine ⟨t.name, c, hm, hc, rfl, by rw [← e]; exact F.tbs _ hm, fun p hp he => ?_⟩
            obtain ⟨y, hy, rfl⟩ := List.mem_map.mp hp
            rw [F.uniq y hy _ hm he]
          fns := ih.1
          flds := F.flds
          mts := fun c m n h => ⟨(F.meth c m n h).1, (F.meth c m n h).2, ih.2 c m n (.inl h)⟩
          mks := fun c n h => ⟨(F.make c n h).1, _, (F.make c n h).2, fun hd => ⟨k - 2, by have : 2 ≤ k := of_decide_eq_true hd; omega, ih2.2 c _ n (.inr ⟨h, rfl⟩)⟩⟩ }
      refine ⟨tS K E (gAt M W k) t.code, (sns t.code).ss ck sc.kind cx, B, φ, _, μ, start_abs m rl, ?_⟩
      change DenV K E B H φ μ ((evS (gAt M W k) t.code (startD t.N.length ds) μ).bind _) Q at h
      cases q : evS (gAt M W k) t.code (startD t.N.length ds) μ with
      | ok f μ' =>
        rw [q] at h
        cases f with
        | nx ρ => exact fun σ' H' φ' e a => h .non H' φ' e a.mem rd_non
        | rt d => exact h
        | bk ρ => exact False.elim h
        | ct ρ => exact False.elim h
      | er x μ' => rw [q] at h; exact h
      | no => rw [q] at h; exact h
    · exact False.elim h
/-- who is called -/
theorem who (F : Facts Γ M tab P w K mg base) {cl m n : Str} (h : Γ.mts.contains (cl, m, n) = true ∨ (Γ.mks.contains (cl, n) = true ∧ m = "__init__")) : ∃ t ∈ tab, t.name = n ∧ t.cls = some (cl, m) ∧ M.at_ n = some t.fn := by
  rcases h with h | ⟨h, rfl⟩
  · exact F.covM cl m n h
  · exact F.covI cl n h
theorem fn_none {t : FT} {fd : FuncData} {W : Nat} : FnOk P w K mg base (L2N.CX P w) 0 (t.addr K) fd t.ps (fun vs H Q E => ∃ B φ μ ds, MemOk K H φ μ B ∧ RdL K H (Live φ μ B) φ ds vs ∧ DenV K E B H φ μ (run M W 0 t.name ds μ) Q) := by
  refine ⟨fun vs H Q E h => ?_, fun A outer s H args us vs Q E _ _ _ _ h => ?_⟩
  · obtain ⟨B, φ, μ, ds, m, rl, h⟩ := h
    exact False.elim h
  · obtain ⟨B, φ, μ, ds, m, rl, h⟩ := h
    exact False.elim h
theorem fn_zero (F : Facts Γ M tab P w K mg base) (W : Nat) : AllFn Γ M W P w K mg base 0 (run M W 0) := by
  refine ⟨fun f hf => ?_, fun cl m n h => ?_⟩
  · obtain ⟨t, ht, rfl, hc, hat⟩ := F.cov f hf
    obtain ⟨fd, fu, bd⟩ := F.defs t ht
    have q := fn_none (P := P) (w := w) (K := K) (mg := mg) (base := base) (M := M) (W := W) (t := t) (fd := fd)
    unfold FT.addr at q
    rw [hc] at q
    exact ⟨fd, t.ps, q, bd⟩
  · obtain ⟨t, ht, rfl, hc, hat⟩ := who F h
    obtain ⟨fd, fu, bd⟩ := F.defs t ht
    have q := fn_none (P := P) (w := w) (K := K) (mg := mg) (base := base) (M := M) (W := W) (t := t) (fd := fd)
    unfold FT.addr at q
    rw [hc] at q
    exact ⟨fd, t.ps, q, bd⟩
theorem fn_succ (F : Facts Γ M tab P w K mg base) {W k : Nat} (ih : AllFn Γ M W P w K mg base k (run M W k)) (ih2 : AllFn Γ M W P w K mg base (k - 2) (run M W (k - 2))) : AllFn Γ M W P w K mg base (k + 1) (run M W (k + 1)) := by
  refine ⟨fun f hf => ?_, fun cl m n h => ?_⟩
  · obtain ⟨t, ht, rfl, hc, hat⟩ := F.cov f hf
    obtain ⟨fd, fu, bd⟩ := F.defs t ht
    have q := fn_step F ih ih2 ht hat fu
    unfold FT.addr at q
    rw [hc] at q
    exact ⟨fd, t.ps, q, bd⟩
  · obtain ⟨t, ht, rfl, hc, hat⟩ := who F h
    obtain ⟨fd, fu, bd⟩ := F.defs t ht
    have q := fn_step F ih ih2 ht hat fu
    unfold FT.addr at q
    rw [hc] at q
    exact ⟨fd, t.ps, q, bd⟩
theorem fn_all (F : Facts Γ M tab P w K mg base) (W : Nat) : ∀ (k : Nat), AllFn Γ M W P w K mg base k (run M W k)
  | 0 => fn_zero F W
  | 1 => fn_succ F (fn_all F W 0) (fn_all F W 0)
  | 2 => fn_succ F (fn_all F W 1) (fn_all F W 0)
  | k + 3 => fn_succ F (fn_all F W (k + 2)) (fn_all F W k)
/-- the law's def, its function object told -/
theorem fn_law (F : Facts Γ M tab P w K mg base) (W k : Nat) {t : FT} (ht : t ∈ tab) (hat : M.at_ t.name = some t.fn) {fd : FuncData} (fu : FunD K t.own t.name (defArgs t.st) (defBody t.st) (defScope t.st) [] [] (t.addr K) fd) :
    FnOk P w K mg base (L2N.CX P w) (k + 1) (t.addr K) fd t.ps (fun vs H Q E => ∃ B φ μ ds, MemOk K H φ μ B ∧ RdL K H (Live φ μ B) φ ds vs ∧ DenV K E B H φ μ (run M W (k + 1) t.name ds μ) Q) := fn_step F (fn_all F W k) (fn_all F W (k - 2)) ht hat fu
/-- the law's promise, from what the interpreter gives -/
theorem sp_law {H : Hp} {a : Addr} {ns : List Int} {r : R D} (h : ∃ μ', r = .ok (.bl true) μ') (hT : ∀ p ∈ lamT K, H p.1 = some (.tbl #[])) (hS : SqL K H a (ns.map V.int)) :
    ∃ (B : Addr → Prop) (φ : List Addr) (μ : Mem) (ds : List D), (MemOk K H φ μ B ∧ RdL K H (Live φ μ B) φ ds [.ref a]) ∧ μ = [] ∧ ds = [.fls (ns.map .int)] ∧ DenV K (fun _ _ _ => False) B H φ μ r (fun v _ => v = .bl true) := by
  obtain ⟨μ', h⟩ := h
  refine ⟨fun _ => False, [], [], [.fls (ns.map .int)], ⟨⟨rfl, fun i j a c c' h => (by simp at h), fun i c a h => (by simp at h), fun a h => h.elim, fun p hp => .nil (hT p hp)⟩, ?_⟩, rfl, rfl, ?_⟩
  · refine .cons ?_ .nil
    simp only [RdV]
    refine ⟨a, ns.map V.int, rfl, ?_, ?_⟩
    · rcases hS with (h1 | ⟨o, h1⟩) | h1
      · exact .inl ⟨h1, fun l => l.elim id fun ⟨i, c, q, _⟩ => (by simp at q)⟩
      · exact .inr (.inl ⟨o, h1⟩)
      · exact .inr (.inr h1)
    · clear hS h
      induction ns with
      | nil => exact .nil
      | cons n ns ih => exact .cons rd_int ih
  · rw [h]
    exact fun v H' φ' e m rd => rdV_bl rd
end
end Den

/-! Den19: a def that calls what it gets: try: a() / except c as e: suite / rest. -/
namespace Den
open PySem PySem.Spec PyProof.Rows L2
variable [Lams]

structure HT where
  name : Str
  a : Str
  N : List Str
  st : Stmt
  cls : Str
  i : Nat
  suite : S
  rest : S
  /-- if there are any: the excepts without a name, in their order -/
  alts : List (Str × S) := []
/-- what is asked of the module where an exception is handled: no def -/
def Nm.hotOf (Γ : Nm) : Nm := { Γ with fns := [], con := [], bfn := [], exs := [], hnd := [], lam := false, hot := true, isx := true, flds := [], mts := [], mks := [] }
def Nm.bare (Γ : Nm) : Nm := { Γ with fns := [], con := [], bfn := [], exs := [], hnd := [], lam := false, hot := false, isx := false, flds := [], mts := [], mks := [] }
def gH (M : Md) (x : Option Exn) : G := { cal := fun _ _ _ => .no, cal2 := fun _ _ _ => .no, dp := false, con := fun _ => none, hnd := fun _ _ => none, exn := x, sub := M.sub, W := 0 }
/-- what a block returns, if it is plain -/
def flatOf (r : R Fl) : Option D := match r with
  | .ok (.rt d) _ => if flat d then some d else none
  | _ => none
/-- excepts without a name, one after the other -/
def tellM (Γ : Nm) (M : Md) (n : Nat) : List (Str × S) → Exn → Option D
  | [], _ => none
  | p :: r, x => if Γ.cls.contains p.1 then (match M.sub x.cls p.1 with
    | some true => flatOf (evS (gH M (some x)) p.2 (List.replicate n none) [])
    | some false => tellM Γ M n r x
    | none => none) else none
def HT.tell (Γ : Nm) (M : Md) (t : HT) : Option Exn → Option D
  | none => flatOf (evS (gH M none) t.rest (List.replicate t.N.length none) [])
  | some x => if x.flds.isEmpty && Γ.cls.contains x.cls then (match t.alts with
    | [] => if M.sub x.cls t.cls = some true then flatOf (evS (gH M (some x)) t.suite ((List.replicate t.N.length none).set t.i (some .exc)) []) else none
    | p :: r => tellM Γ M t.N.length (p :: r) x) else none
def ckAlts (Γ : Nm) (N : List Str) (sc : Scope) : List ExceptHandler → List (Str × S) → Bool
  | [], l => l.isEmpty
  | h :: hs, l => match l with
    | [] => false
    | p :: r => (match h with
      | .ExceptHandler (some (.Name c _)) none (b0 :: sb) _ => decide (c = p.1) && glB sc c && nmOk c && Γ.cls.contains c && mSs Γ.hotOf N sc (fun _ => true) p.2 (b0 :: sb)
      | _ => false) && ckAlts Γ N sc hs r
def HT.ck (Γ : Nm) (t : HT) : Bool := match t.alts with
  | [] => (match defBody t.st with
    | .Try [.Expr (.Call (.Name a _) [] [] _) _] [.ExceptHandler (some (.Name c _)) (some n) (b0 :: sb) _] [] [] _ :: rs =>
      decide (a = t.a) && decide (c = t.cls) && glB (defScope t.st) c && nmOk c && decide (t.N[t.i]? = some n) && loc1 (defScope t.st) n && decide (t.N[0]? = some t.a) && visB (defScope t.st) t.a && nmOk t.a && decide (t.i ≠ 0) && Γ.cls.contains c &&
        mSs Γ.hotOf t.N (defScope t.st) (fun _ => true) t.suite (b0 :: sb) && mSs Γ.bare t.N (defScope t.st) (fun _ => true) t.rest rs
    | _ => false)
  | p :: r => (match defBody t.st with
    | .Try [.Expr (.Call (.Name a _) [] [] _) _] (h0 :: hs) [] [] _ :: rs =>
      decide (a = t.a) && decide (t.N[0]? = some t.a) && visB (defScope t.st) t.a && nmOk t.a && ckAlts Γ t.N (defScope t.st) (h0 :: hs) (p :: r) && mSs Γ.bare t.N (defScope t.st) (fun _ => true) t.rest rs
    | _ => false)
/-- what is known of the exceptions' classes -/
structure ExcFacts (Γ : Nm) (M : Md) (K : PySem.W.Frag) (mg : Str → Option Value) : Prop where
  exc : ∀ C, Γ.cls.contains C = true → ExcC K (He.ga K C)
  sub : ∀ C C' b, Γ.cls.contains C = true → Γ.cls.contains C' = true → M.sub C C' = some b → PySem.W.exmOne K (.ref (He.ga K C)) (.ref (He.ga K C')) = some b ∧ PySem.W.kitOne K (.ref (He.ga K C)) (.ref (He.ga K C')) = some b
  cls : ∀ C, Γ.cls.contains C = true → mg C = some (.ref (He.ga K C))
  free : ∀ x, Γ.free.contains x = true → mg x = none
theorem flatOf_out {r : R Fl} {d : D} (h : flatOf r = some d) : ∃ μ', r = .ok (.rt d) μ' ∧ flat d = true := by
  unfold flatOf at h
  split at h
  · split at h
    · rename_i d' μ' hf
      cases h
      exact ⟨_, rfl, hf⟩
    · cases h
  · cases h
theorem abs_start {K : PySem.W.Frag} {H : Hp} {σ : L2.St} {n : Nat} (hl : σ.length = n) (tb : LamX.Tabs (lamT K) H) : Abs K H σ [] (List.replicate n none) [] (fun _ => False) :=
  ⟨⟨rfl, fun i j a c c' h => (by simp at h), fun i c a h => (by simp at h), fun a h => h.elim, tb⟩, by rw [List.length_replicate, hl], fun i d h => by
    rw [List.getElem?_replicate] at h
    split at h <;> cases h⟩
theorem ext_growN {H H' : Hp} {φ : List Addr} {μ : Mem} (e : Ext H [] [] H' φ μ) : LamX.ExtN H H' := fun b o h nt => e.keep b o h nt fun ⟨i, c, h1, _⟩ => (by simp at h1)
theorem hotI_suite {X : Cx} {a : Addr} {oe : Obj} {cls : Value} {d : Option Addr} {pn : List (Addr × Obj)} (hx : X.ex = []) (hz : L2N.Zn cls d oe) (hf : ∃ vs, oe.data = .fields vs) : HotI (X.suite a ((a, oe) :: pn)) := fun pins s σ H I => by
  obtain ⟨vs, hv⟩ := hf
  obtain ⟨p1, p2, p3, p4, _⟩ := I.pin (a, oe) (List.mem_append_left _ List.mem_cons_self)
  refine ⟨a, ⟨rfl, oe, vs, p1, hv, hz.2.2 vs hv⟩, p2, fun hm => ?_, fun hm => ?_⟩
  · rcases List.mem_cons.mp (I.stkSub a hm) with e | e
    · exact p3 e
    · exact p4 e
  · have hm : a ∈ X.ex := hm
    rw [hx] at hm
    cases hm
/-- the suite, where an exception stands at exa -/
theorem hot_ss {Γ : Nm} {M : Md} {Y : Cx} (F : ExcFacts Γ M Y.K Y.mg) (nd : Y.N.Nodup) (hex : Y.ex = []) (hfn : ∀ x, Y.fn x = true) (hu : Y.A.units + 64 < cLine) (hk : Y.env.scope.kind = .function) {suite : S} {sts : List Stmt} (ck : mSs Γ.hotOf Y.N Y.env.scope (fun _ => true) suite sts = true)
    {x : Exn} (hx : Γ.cls.contains x.cls = true) {oe : Obj} {pn : List (Addr × Obj)} (hz : L2N.Zn (.ref (He.ga Y.K x.cls)) none oe) (hf : ∃ vs, oe.data = .fields vs) : PSs (Y.suite Lams.exa ((Lams.exa, oe) :: pn)) sts (tS Y.K noW (gH M (some x)) suite) := by
  refine (sns (Γ := Γ.hotOf) (g := gH M (some x)) (k := 0) suite).ss ck hk (st := fun _ => true) (W := noW) ?_
  exact
    { nd := nd, nm := rfl, scp := rfl, calm := fun z => (nomatch z), hoti := fun _ => hotI_suite hex hz hf, sto := fun x _ => .inl (hfn x), room := fun z => (nomatch z), un := hu
      takes := fun u s' h => by
        obtain ⟨_, _, _, _, _, _, _, _, _, _, _, _, _, _, _, _, z⟩ := h
        exact False.elim z
      own := PassesOwn.never
      isx := fun _ => ⟨x, rfl, call_isE (F.exc _ hx) hz.zc hf, fun C b hC hb => (F.sub x.cls C b hx hC hb).2⟩
      cls := F.cls, glo := fun x h => (by cases h), con := fun x d h => (by cases h), free := F.free, bfn := fun b _ h => (by cases h), exs := fun x h => (by cases h), low := fun z => (nomatch z), hnd := fun f h => (by cases h), lam := fun z => (nomatch z), fns := fun f h => (by cases h), flds := fun c f h => (by cases h), mts := fun c m n h => (by cases h), mks := fun c n h => (by cases h) }
/-- what stands beside the try -/
theorem cold_ss {Γ : Nm} {M : Md} {Y : Cx} (F : ExcFacts Γ M Y.K Y.mg) (nd : Y.N.Nodup) (hc : Y.calm = true) (hx : Y.xe = fun _ _ => False) (hfn : ∀ x, Y.fn x = true) (hr : Room 0 Y.A) (hk : Y.env.scope.kind = .function) {suite : S} {sts : List Stmt} (ck : mSs Γ.bare Y.N Y.env.scope (fun _ => true) suite sts = true) : PSs Y sts (tS Y.K noW (gH M none) suite) := by
  refine (sns (Γ := Γ.bare) (g := gH M none) (k := 0) suite).ss ck hk (st := fun _ => true) (W := noW) ?_
  exact
    { nd := nd, nm := rfl, scp := rfl, calm := fun _ => hc, hoti := fun z => (nomatch z), sto := fun x _ => .inl (hfn x), room := fun _ => hr, un := hr.units
      takes := fun u s' h => by
        obtain ⟨_, _, _, _, _, _, _, _, _, _, _, _, _, _, _, _, z⟩ := h
        exact False.elim z
      own := by rw [hx]; exact PassesOwn.never
      isx := fun z => (nomatch z)
      cls := F.cls, glo := fun x h => (by cases h), con := fun x d h => (by cases h), free := F.free, bfn := fun b _ h => (by cases h), exs := fun x h => (by cases h), low := fun z => (nomatch z), hnd := fun f h => (by cases h), lam := fun z => (nomatch z), fns := fun f h => (by cases h), flds := fun c f h => (by cases h), mts := fun c m n h => (by cases h), mks := fun c n h => (by cases h) }
theorem hnd_ok1 {Γ : Nm} {M : Md} {P : Program} {w : World} {K : PySem.W.Frag} {mg : Str → Option Value} {base : Heap} {t : HT} (F : ExcFacts Γ M K mg) (hm : mg t.name = some (.ref (He.ga K t.name))) (hal : t.alts = []) (hck : t.ck Γ = true) (sc : FnScope t.N [t.a] (defScope t.st)) {fd : FuncData}
    (fu : FunD K t.name t.name (defArgs t.st) (defBody t.st) (defScope t.st) [] [] (He.ga K t.name) fd) (bd : Binds K fd [t.a] []) : HndOk P w K mg base t.name (t.tell Γ M) := by
  obtain ⟨oc, od, dV, kV, doc, pm, an, cdv, ct, osl, hfd, lk, hcd, _, _⟩ := fu.ex
  unfold HT.ck at hck
  rw [hal] at hck
  dsimp only at hck
  split at hck
  · rename_i a p1 p2 p3 c p4 n b0 sb p5 p6 rs hbody
    simp only [Bool.and_eq_true, decide_eq_true_eq] at hck
    obtain ⟨⟨⟨⟨⟨⟨⟨⟨⟨⟨⟨⟨h1, h2⟩, h3⟩, h4⟩, h5⟩, h6⟩, h7⟩, h8⟩, h9⟩, h10⟩, h11⟩, h12⟩, h13⟩ := hck
    subst hfd
    have na := nmOk_out h9
    have nc := nmOk_out h4
    refine ⟨hm, fu.kp, _, _, _, dV, kV, doc, pm, cdv, ct, oc, an, od, osl, t.N, t.a, lk, hcd, bd, sc, h7, visB_out h8, h9, ?_⟩
    intro X q hP hw hK hmg hb hr f c' s H Q tl act mono hco tabs tt
    subst hP hw hK hmg hb
    rw [hbody]
    have tl0 : (L2.start t.N [V.ref f]).length = t.N.length := by
      unfold L2.start
      have hpos : 0 < t.N.length := (List.getElem?_eq_some_iff.mp h7).1
      rw [List.length_append, List.length_replicate]
      simp only [List.length_map, List.length_cons, List.length_nil]
      omega
    have t00 : (L2.start t.N [V.ref f])[0]? = some (some (V.ref f)) := rfl
    have room1 := hr.deeper (envOfC t.name (defScope t.st) s.heap.objs.size (He.ga X.K t.name) cdv)
    have noT : ∀ Z : Cx, L2N.Takes Z (fun _ _ _ _ => False) := fun Z u s' h => by
      obtain ⟨_, _, _, _, _, _, _, _, _, _, _, _, _, _, _, _, z⟩ := h
      exact False.elim z
    -- the suite
    have suite : ∀ (a : Addr) (oe : Obj) (cls : Value) (d : Option Addr) (pn : List (Addr × Obj)), L2N.Zn cls d oe → (∃ vs, oe.data = .fields vs) →
        PSs ((cxOf C8.CX0 X.prog X.w X.K X.mg X.base t.N t.name (defScope t.st) (He.ga X.K t.name) cdv X.A X.stack s H C8.E0).nox.suite a ((a, oe) :: pn)) (b0 :: sb)
          (fun D σ H => ∃ x : Exn, (cls = .ref (He.ga X.K x.cls) ∧ d = none ∧ Γ.cls.contains x.cls = true) ∧ (σ.length = t.N.length → @tS ⟨Lams.lams, a⟩ X.K noW (gH M (some x)) t.suite D σ H)) := fun a oe cls d pn hz hf => by
      refine ⟨fun pins s' σ H' D I ⟨x, ⟨e1, e2, e3⟩, rd⟩ => ?_⟩
      subst e1 e2
      exact (@hot_ss ⟨Lams.lams, a⟩ Γ M (cxOf C8.CX0 X.prog X.w X.K X.mg X.base t.N t.name (defScope t.st) (He.ga X.K t.name) cdv X.A X.stack s H C8.E0).nox F sc.nd rfl (fun _ => rfl) room1.units sc.kind _ _ h12 x e3 oe pn hz hf).run pins s' σ H' D I (rd I.len)
    -- what follows
    have after : PSs (cxOf C8.CX0 X.prog X.w X.K X.mg X.base t.N t.name (defScope t.st) (He.ga X.K t.name) cdv X.A X.stack s H C8.E0).nox rs (tS X.K noW (gH M none) t.rest) :=
      cold_ss (Y := (cxOf C8.CX0 X.prog X.w X.K X.mg X.base t.N t.name (defScope t.st) (He.ga X.K t.name) cdv X.A X.stack s H C8.E0).nox) F sc.nd rfl rfl (fun _ => rfl) (room1.mono (by omega)) sc.kind h13
    refine ⟨_, pss_cons (L2N.ps_try_as (i := t.i) (c := .ref (He.ga X.K c)) (Wout := fun _ _ _ _ => False)
      (tb := fun W D σ H => ∃ Ech : XK, (∀ cls d σ' H', Ech cls d H' → W cls d σ' H') ∧ σ[0]? = some (some (.ref f)) ∧ H c' = some (LamX.CodeO c' q) ∧ tl Ech H fun _ H1 => D.nx σ H1)
      rfl rfl sc.nd h5 (of_decide_eq_true h6) ⟨glB_out (X := (cxOf C8.CX0 X.prog X.w X.K X.mg X.base t.N t.name (defScope t.st) (He.ga X.K t.name) cdv X.A X.stack s H C8.E0).nox) h3, nc.1, .inl (F.cls c h11)⟩ (noT _) (fun W pn xe tk _ => ?_) suite) after, ?_⟩
    · refine ⟨fun pins s' σ H' D I ⟨Ech, hW, r1, r2, r3⟩ => ?_⟩
      have hp := act W pn xe Ech p1 p2 tk hW
      rw [← h1] at hp
      exact (pss_one (ps_expr (pos := p3) hp)).run pins s' σ H' D I ⟨r1, r2, r3⟩
    · refine ⟨_, fun cls d σ' H' hE => ?_, t00, hco, mono _ _ _ _ (fun v H1 hq => ?_) tt⟩
      · obtain ⟨tabs', x, dd, ⟨e1, e2⟩, hx, hfl, gr⟩ := hE
        unfold HT.tell at hx
        rw [hal] at hx
        dsimp only at hx
        split at hx
        · rename_i hcond
          simp only [Bool.and_eq_true, List.isEmpty_iff] at hcond
          obtain ⟨c1, c2⟩ := hcond
          have c3 : M.sub x.cls t.cls = some true := by
            split at hx
            · assumption
            · cases hx
          rw [if_pos c3] at hx
          obtain ⟨μ', ev, _⟩ := flatOf_out hx
          subst e1
          rw [← h2] at c3
          refine ⟨true, (F.sub x.cls c true c2 h11 c3).1, fun _ a' na' => ⟨x, ⟨rfl, e2 c1, c2⟩, fun hl => ?_⟩, fun z => nomatch z⟩
          have hl' : σ'.length = t.N.length := by rw [← hl, List.length_set]
          have ab := @Abs.set ⟨Lams.lams, a'⟩ _ _ _ _ _ _ _ (@abs_start ⟨Lams.lams, a'⟩ X.K H' σ' t.N.length hl' tabs') t.i .exc (.ref a') (by simp only [RdV])
          refine ⟨fun _ => False, [], _, [], ab, ?_⟩
          rw [ev]
          refine fun v H'' φ' e m rd => ?_
          have hv : v = toV dd := (@flat_rd ⟨Lams.lams, a'⟩ _ _ _ _ _ _ hfl rd).1
          rw [hv]
          exact gr H'' (ext_growN e) (@MemOk.tabs ⟨Lams.lams, a'⟩ _ _ _ _ _ m)
        · cases hx
      · obtain ⟨tabs', dd, hx, hfl, gr⟩ := hq
        unfold HT.tell at hx
        obtain ⟨μ', ev, _⟩ := flatOf_out hx
        refine ⟨fun _ => False, [], _, [], abs_start tl0 tabs', ?_⟩
        rw [ev]
        refine fun v H'' φ' e m rd => ?_
        rw [(flat_rd hfl rd).1]
        exact gr H'' (ext_growN e) m.tabs
  · exact absurd hck (by simp)
section
variable {Γ : Nm} {M : Md} {N : List Str}
/-- what a nameless except asks -/
def altT (Γ : Nm) (M : Md) (K : PySem.W.Frag) (n : Nat) (s : S) : Addr → Value → Option Addr → TS := fun a cls d D σ H => ∃ x : Exn, (cls = .ref (He.ga K x.cls) ∧ d = none ∧ Γ.cls.contains x.cls = true) ∧ (σ.length = n → @tS ⟨Lams.lams, a⟩ K noW (gH M (some x)) s D σ H)
theorem alts_ok {Y : Cx} (F : ExcFacts Γ M Y.K Y.mg) (nd : Y.N.Nodup) (hex : Y.ex = []) (hfn : ∀ x, Y.fn x = true) (hu : Y.A.units + 64 < cLine) (hk : Y.env.scope.kind = .function) : ∀ {hds : List ExceptHandler} {l : List (Str × S)}, ckAlts Γ Y.N Y.env.scope hds l = true →
    L2N.HdsOk Y hds (l.map fun p => (.ref (He.ga Y.K p.1), altT Γ M Y.K Y.N.length p.2))
  | [], l, h => by
    simp only [ckAlts, List.isEmpty_iff] at h
    subst h
    exact .nil
  | h0 :: hs, [], h => by simp [ckAlts] at h
  | h0 :: hs, p :: r, h => by
    simp only [ckAlts, Bool.and_eq_true] at h
    obtain ⟨h1, h2⟩ := h
    split at h1
    · rename_i c p1 b0 sb p2
      simp only [Bool.and_eq_true, decide_eq_true_eq] at h1
      obtain ⟨⟨⟨⟨q1, q2⟩, q3⟩, q4⟩, q5⟩ := h1
      subst q1
      refine .cons ⟨glB_out q2, (nmOk_out q3).1, .inl (F.cls _ q4)⟩ (fun a oe cls d pn hz hf => ⟨fun pins s' σ H' D I ⟨x, ⟨e1, e2, e3⟩, rd⟩ => ?_⟩) (alts_ok F nd hex hfn hu hk h2)
      subst e1 e2
      exact (@hot_ss ⟨Lams.lams, a⟩ Γ M Y F nd hex hfn hu hk _ _ q5 x e3 oe pn hz hf).run pins s' σ H' D I (rd I.len)
    · cases h1
theorem alts_tell {K : PySem.W.Frag} {mg : Str → Option Value} (F : ExcFacts Γ M K mg) {D' : Ends} {σ : L2.St} {H : Hp} {n : Nat} {x : Exn} {dd : D} (hx : Γ.cls.contains x.cls = true) (tabs : LamX.Tabs (lamT K) H)
    (gr : ∀ H'', LamX.ExtN H H'' → LamX.Tabs (lamT K) H'' → D'.rt (toV dd) H'') (hr : flat dd = true) : ∀ {l : List (Str × S)}, tellM Γ M n l x = some dd →
    L2.wMany K (fun _ _ _ _ => False) D' (l.map fun p => (.ref (He.ga K p.1), altT Γ M K n p.2)) (.ref (He.ga K x.cls)) none σ H
  | [], h => by simp [tellM] at h
  | p :: r, h => by
    unfold tellM at h
    split at h
    · rename_i hc
      split at h
      · rename_i hs
        obtain ⟨μ', ev, _⟩ := flatOf_out h
        refine ⟨true, (F.sub _ _ _ hx hc hs).1, fun _ a' na' => ⟨x, ⟨rfl, rfl, hx⟩, fun hl => ?_⟩, fun z => nomatch z⟩
        refine ⟨fun _ => False, [], _, [], @abs_start ⟨Lams.lams, a'⟩ K H σ n hl tabs, ?_⟩
        rw [ev]
        refine fun v H'' φ' e m rd => ?_
        have hv : v = toV dd := (@flat_rd ⟨Lams.lams, a'⟩ _ _ _ _ _ _ hr rd).1
        rw [hv]
        exact gr H'' (ext_growN e) (@MemOk.tabs ⟨Lams.lams, a'⟩ _ _ _ _ _ m)
      · rename_i hs
        exact ⟨false, (F.sub _ _ _ hx hc hs).1, (fun z => nomatch z), fun _ => alts_tell F hx tabs gr hr h⟩
      · cases h
    · cases h
end
theorem hnd_okM {Γ : Nm} {M : Md} {P : Program} {w : World} {K : PySem.W.Frag} {mg : Str → Option Value} {base : Heap} {t : HT} (F : ExcFacts Γ M K mg) (hm : mg t.name = some (.ref (He.ga K t.name))) {p0 : Str × S} {pr : List (Str × S)} (hal : t.alts = p0 :: pr) (hck : t.ck Γ = true) (sc : FnScope t.N [t.a] (defScope t.st)) {fd : FuncData}
    (fu : FunD K t.name t.name (defArgs t.st) (defBody t.st) (defScope t.st) [] [] (He.ga K t.name) fd) (bd : Binds K fd [t.a] []) : HndOk P w K mg base t.name (t.tell Γ M) := by
  obtain ⟨oc, od, dV, kV, doc, pm, an, cdv, ct, osl, hfd, lk, hcd, _, _⟩ := fu.ex
  unfold HT.ck at hck
  rw [hal] at hck
  dsimp only at hck
  split at hck
  · rename_i a p1 p2 p3 h0 hs p6 rs hbody
    simp only [Bool.and_eq_true, decide_eq_true_eq] at hck
    obtain ⟨⟨⟨⟨⟨h1, h7⟩, h8⟩, h9⟩, h12⟩, h13⟩ := hck
    subst hfd
    have na := nmOk_out h9
    refine ⟨hm, fu.kp, _, _, _, dV, kV, doc, pm, cdv, ct, oc, an, od, osl, t.N, t.a, lk, hcd, bd, sc, h7, visB_out h8, h9, ?_⟩
    intro X q hP hw hK hmg hb hr f c' s H Q tl act mono hco tabs tt
    subst hP hw hK hmg hb
    rw [hbody]
    have tl0 : (L2.start t.N [V.ref f]).length = t.N.length := by
      unfold L2.start
      have hpos : 0 < t.N.length := (List.getElem?_eq_some_iff.mp h7).1
      rw [List.length_append, List.length_replicate]
      simp only [List.length_map, List.length_cons, List.length_nil]
      omega
    have t00 : (L2.start t.N [V.ref f])[0]? = some (some (V.ref f)) := rfl
    have room1 := hr.deeper (envOfC t.name (defScope t.st) s.heap.objs.size (He.ga X.K t.name) cdv)
    have noT : ∀ Z : Cx, L2N.Takes Z (fun _ _ _ _ => False) := fun Z u s' h => by
      obtain ⟨_, _, _, _, _, _, _, _, _, _, _, _, _, _, _, _, z⟩ := h
      exact False.elim z
    have suite := alts_ok (M := M) (Y := (cxOf C8.CX0 X.prog X.w X.K X.mg X.base t.N t.name (defScope t.st) (He.ga X.K t.name) cdv X.A X.stack s H C8.E0).nox) F sc.nd rfl (fun _ => rfl) room1.units sc.kind h12
    -- what follows
    have after : PSs (cxOf C8.CX0 X.prog X.w X.K X.mg X.base t.N t.name (defScope t.st) (He.ga X.K t.name) cdv X.A X.stack s H C8.E0).nox rs (tS X.K noW (gH M none) t.rest) :=
      cold_ss (Y := (cxOf C8.CX0 X.prog X.w X.K X.mg X.base t.N t.name (defScope t.st) (He.ga X.K t.name) cdv X.A X.stack s H C8.E0).nox) F sc.nd rfl rfl (fun _ => rfl) (room1.mono (by omega)) sc.kind h13
    refine ⟨_, pss_cons (L2N.ps_try_many (Wout := fun _ _ _ _ => False)
      (tb := fun W D σ H => ∃ Ech : XK, (∀ cls d σ' H', Ech cls d H' → W cls d σ' H') ∧ σ[0]? = some (some (.ref f)) ∧ H c' = some (LamX.CodeO c' q) ∧ tl Ech H fun _ H1 => D.nx σ H1)
      rfl rfl (noT _) (fun W pn xe tk _ => ?_) suite) after, ?_⟩
    · refine ⟨fun pins s' σ H' D I ⟨Ech, hW, r1, r2, r3⟩ => ?_⟩
      have hp := act W pn xe Ech p1 p2 tk hW
      rw [← h1] at hp
      exact (pss_one (ps_expr (pos := p3) hp)).run pins s' σ H' D I ⟨r1, r2, r3⟩
    · refine ⟨_, fun cls d σ' H' hE => ?_, t00, hco, mono _ _ _ _ (fun v H1 hq => ?_) tt⟩
      · obtain ⟨tabs', x, dd, ⟨e1, e2⟩, hx, hfl, gr⟩ := hE
        unfold HT.tell at hx
        rw [hal] at hx
        dsimp only at hx
        split at hx
        · rename_i hcond
          simp only [Bool.and_eq_true, List.isEmpty_iff] at hcond
          obtain ⟨c1, c2⟩ := hcond
          have e2' := e2 c1
          subst e1 e2'
          exact alts_tell F c2 tabs' gr hfl hx
        · cases hx
      · obtain ⟨tabs', dd, hx, hfl, gr⟩ := hq
        unfold HT.tell at hx
        obtain ⟨μ', ev, _⟩ := flatOf_out hx
        refine ⟨fun _ => False, [], _, [], abs_start tl0 tabs', ?_⟩
        rw [ev]
        refine fun v H'' φ' e m rd => ?_
        rw [(flat_rd hfl rd).1]
        exact gr H'' (ext_growN e) m.tabs
  · exact absurd hck (by simp)
theorem hnd_ok {Γ : Nm} {M : Md} {P : Program} {w : World} {K : PySem.W.Frag} {mg : Str → Option Value} {base : Heap} {t : HT} (F : ExcFacts Γ M K mg) (hm : mg t.name = some (.ref (He.ga K t.name))) (hck : t.ck Γ = true) (sc : FnScope t.N [t.a] (defScope t.st)) {fd : FuncData}
    (fu : FunD K t.name t.name (defArgs t.st) (defBody t.st) (defScope t.st) [] [] (He.ga K t.name) fd) (bd : Binds K fd [t.a] []) : HndOk P w K mg base t.name (t.tell Γ M) := by
  cases h : t.alts with
  | nil => exact hnd_ok1 F hm h hck sc fu bd
  | cons p r => exact hnd_okM F hm h hck sc fu bd
end Den

/-! Den20: a law's end: from what the head tells to the law's promise. -/
namespace Den
open PySem PySem.Spec PyProof.Rows L2
variable [Lams]

/-- f(..) binds its parameters in order -/
def Bd (name : Str) (st : Stmt) (ps : List Str) : Prop := ∀ (kV doc pm : Value) (an : Option Addr) (cdv ct : Value) (us : List Value), us.length = ps.length → bindArgs (PySem.W.fnOf name name (defArgs st) (defBody st) (defScope st) .none kV doc pm an cdv ct) ⟨us, []⟩ = pure (ps.zip us)
/-- a method binds its parameters in order -/
def BdT (t : FT) : Prop := ∀ (kV doc pm : Value) (an : Option Addr) (cdv ct : Value) (us : List Value), us.length = t.ps.length → bindArgs (PySem.W.fnOf t.own t.name (defArgs t.st) (defBody t.st) (defScope t.st) .none kV doc pm an cdv ct) ⟨us, []⟩ = pure (t.ps.zip us)
def FT.dd (t : FT) : He.DefD := ⟨(match t.cls with | none => (t.name, none) | some q => (q.1, some q.2)), t.own, t.name, defArgs t.st, defBody t.st, defScope t.st, [], []⟩
def ddOf (name : Str) (st : Stmt) : He.DefD := ⟨(name, none), name, name, defArgs st, defBody st, defScope st, [], []⟩
def fnsOf (tab : List FT) (hts : List HT) : List He.DefD := tab.map FT.dd ++ hts.map fun t => ddOf t.name t.st
def fasOf (Γ : Nm) : List He.Fa := Γ.fns.map .glo ++ Γ.fns.map .keep ++ Γ.hnd.map .glo ++ Γ.hnd.map .keep ++ Γ.free.map .free ++ Γ.cls.map .glo ++ Γ.exs.map .glo ++ Γ.exs.map .exc ++ Γ.flds.map (fun p => .cls p.1) ++ Γ.flds.map (fun p => .noat p.1 p.2) ++ Γ.mts.map (fun p => .cls p.1) ++ Γ.mts.map (fun p => .meth p.1 p.2.1) ++ Γ.mks.map (fun p => .glo p.1) ++ Γ.mks.map (fun p => .mkr p.1)
def valB (u : Value) : D → Bool
  | .int i => match u with
    | .int j _ => decide (j = i)
    | _ => false
  | .str i => match u with
    | .str j _ => decide (j = i)
    | _ => false
  | .bl i => match u with
    | .bool j => decide (j = i)
    | _ => false
  | .non => match u with
    | .none => true
    | _ => false
  | _ => false
def excCB (K : PySem.W.Frag) (D : Addr) : Bool :=
  He.eqO (PySem.W.findIn K (.ref D) "__getattribute__") (some (some (.builtin "BaseException.__getattribute__"))) && (He.eqO (PySem.W.findIn K (.ref D) "__getattr__") (some none) && (decide (PySem.W.subIn K (.ref D) (.type "BaseException") = some true) && (PySem.W.hasDictIn K D &&
    (He.eqO (PySem.W.findIn K (.ref D) "__class__") (some (some (.builtin "object.__class__"))) && (He.eqO (PySem.W.specialIn K (.builtin "object.__class__") "__get__") (some (some (.builtin "getset_descriptor.__get__"))) && (decide (PySem.W.takesIn K (.builtin "object.__class__") = some true) && decide (PySem.W.mroIn K D (.type "object") = some true)))))))
theorem excCB_ok {K : PySem.W.Frag} {D : Addr} (h : excCB K D = true) : ExcC K D := by
  obtain ⟨h1, h⟩ := He.ba h
  obtain ⟨h2, h⟩ := He.ba h
  obtain ⟨h3, h⟩ := He.ba h
  obtain ⟨h4, h⟩ := He.ba h
  obtain ⟨h5, h⟩ := He.ba h
  obtain ⟨h6, h⟩ := He.ba h
  obtain ⟨h7, h8⟩ := He.ba h
  exact ⟨He.eqO_ok h1, He.eqO_ok h2, of_decide_eq_true h3, h4, He.eqO_ok h5, He.eqO_ok h6, of_decide_eq_true h7, of_decide_eq_true h8⟩
/-- what the head is asked beside -/
def moreB (Γ : Nm) (M : Md) (K : PySem.W.Frag) : Bool :=
  (Γ.con.all fun x => match M.con.lookup x with
    | some d => (match PySem.W.nsIn K mainGlobals x with
      | some (some u) => valB u d
      | _ => false)
    | none => true) &&
  ((Γ.bfn.all fun x => decide (x = "gcd") && He.eqO (PySem.W.nsIn K mainGlobals x) (some (some (.builtin "math.gcd")))) &&
  ((Γ.cls.all fun C => excCB K (He.ga K C)) &&
  ((Γ.cls.all fun C => Γ.cls.all fun C' => match M.sub C C' with
    | some b => decide (PySem.W.exmOne K (.ref (He.ga K C)) (.ref (He.ga K C')) = some b) && decide (PySem.W.kitOne K (.ref (He.ga K C)) (.ref (He.ga K C')) = some b)
    | none => true) &&
  (Lams.lams.all fun x => Lams.lams.all fun y => decide ((He.cT K (x, none)).2 = (He.cT K (y, none)).2 → x = y)))))
def tfOf : List He.Defn := Lams.lams.map fun x => (x, none)
abbrev hookOf (n : Nat) (Γ : Nm) (M : Md) (tab : List FT) (hts : List HT) : PySem.W.Hook := He.hookX n (fasOf Γ) (fnsOf tab hts) [] tfOf (moreB Γ M)
abbrev SaysOf (Γ : Nm) (M : Md) (tab : List FT) (hts : List HT) (w : World) (h : Heap) (K : PySem.W.Frag) : Prop := He.SaysX (fasOf Γ) (fnsOf tab hts) [] tfOf (moreB Γ M) w h K
/-- what is decided of the text alone -/
structure Text (Γ : Nm) (M : Md) (tab : List FT) (hts : List HT) : Prop where
  ok : ∀ t ∈ tab, t.Ok Γ ∧ BdT t
  hk : ∀ t ∈ hts, t.ck Γ = true ∧ FnScope t.N [t.a] (defScope t.st) ∧ Bd t.name t.st [t.a]
  cov : ∀ f, Γ.fns.contains f = true → ∃ t ∈ tab, t.name = f ∧ t.cls = none ∧ M.at_ f = some t.fn
  covM : ∀ c m n, Γ.mts.contains (c, m, n) = true → ∃ t ∈ tab, t.name = n ∧ t.cls = some (c, m) ∧ M.at_ n = some t.fn
  covI : ∀ c n, Γ.mks.contains (c, n) = true → ∃ t ∈ tab, t.name = n ∧ t.cls = some (c, ("__init__" : Str)) ∧ M.at_ n = some t.fn
  lamN : ∀ t ∈ tab, t.lam = true → t.cls = none
  hcov : ∀ f, Γ.hnd.contains f = true → ∃ t ∈ hts, t.name = f ∧ M.hnd f = t.tell Γ M
  hot : Γ.hot = false
  isx : Γ.isx = false
  lams : ∀ t ∈ tab, t.lam = true → t.name ∈ Lams.lams
  hin : ∀ t ∈ hts, Γ.hnd.contains t.name = true
section
variable {Γ : Nm} {M : Md} {tab : List FT} {hts : List HT} {P : Program} {w : World} {K : PySem.W.Frag} {mg : Str → Option Value} {base h : Heap}
theorem def_of (c : SaysOf Γ M tab hts w h K) {name : Str} {st : Stmt} (hm : ddOf name st ∈ fnsOf tab hts) : ∃ fd, FunD K name name (defArgs st) (defBody st) (defScope st) [] [] (He.ga K name) fd := c.t.d.defs hm
theorem def_ofT (c : SaysOf Γ M tab hts w h K) {t : FT} (ht : t ∈ tab) : ∃ fd, FunD K t.own t.name (defArgs t.st) (defBody t.st) (defScope t.st) [] [] (t.addr K) fd := by
  obtain ⟨fd, fu⟩ := c.t.d.defs (d := t.dd) (List.mem_append_left _ (List.mem_map.mpr ⟨t, ht, rfl⟩))
  refine ⟨fd, ?_⟩
  have e : He.fAd K t.dd.at_ = t.addr K := by
    unfold FT.dd FT.addr He.fAd
    cases t.cls with
    | none => rfl
    | some q => rfl
  rw [e] at fu
  exact fu
theorem mem_con2 {α : Type} [BEq α] [LawfulBEq α] {l : List α} {x : α} (h : l.contains x = true) : x ∈ l := List.contains_iff_mem.mp h
theorem mem_con {l : List Str} {x : Str} (h : l.contains x = true) : x ∈ l := List.contains_iff_mem.mp h
theorem facts_of (T : Text Γ M tab hts) (X : K.In h) (G : h.Ns mainGlobals mg) (c : SaysOf Γ M tab hts w h K) (tb : ∀ p ∈ tfOf.map (He.cT K), LamX.TabB base mg p.1 p.2) : Facts Γ M tab P w K mg base := by
  have fact : ∀ {f : He.Fa}, f ∈ fasOf Γ → f.ok K = true := fun h => c.t.d.facts h
  have more := c.more
  unfold moreB at more
  obtain ⟨m1, more⟩ := He.ba more
  obtain ⟨m2, more⟩ := He.ba more
  obtain ⟨m3, more⟩ := He.ba more
  obtain ⟨m4, m5⟩ := He.ba more
  have fns : ∀ x, Γ.fns.contains x = true → mg x = some (.ref (He.ga K x)) ∧ PySem.W.keepIn K (.ref (He.ga K x)) = true := fun x hx =>
    ⟨He.glo_ok X G (fact (f := .glo x) (by simp only [fasOf, List.mem_append, List.mem_map]; simp [mem_con hx])), He.keep_ok (fact (f := .keep x) (by simp only [fasOf, List.mem_append, List.mem_map]; simp [mem_con hx]))⟩
  have hnd : ∀ x, Γ.hnd.contains x = true → mg x = some (.ref (He.ga K x)) := fun x hx => He.glo_ok X G (fact (f := .glo x) (by simp only [fasOf, List.mem_append, List.mem_map]; simp [mem_con hx]))
  have free : ∀ x, Γ.free.contains x = true → mg x = none := fun x hx => He.free_ok X G (fact (f := .free x) (by simp only [fasOf, List.mem_append, List.mem_map]; simp [mem_con hx]))
  have cls : ∀ x, Γ.cls.contains x = true → mg x = some (.ref (He.ga K x)) := fun x hx => He.glo_ok X G (fact (f := .glo x) (by simp only [fasOf, List.mem_append, List.mem_map]; simp [mem_con hx]))
  have EF : ExcFacts Γ M K mg := by
    refine ⟨fun C hC => excCB_ok (List.all_eq_true.mp m3 C (mem_con hC)), fun C C' b hC hC' hb => ?_, cls, free⟩
    have q := List.all_eq_true.mp (List.all_eq_true.mp m4 C (mem_con hC)) C' (mem_con hC')
    rw [hb] at q
    obtain ⟨q1, q2⟩ := He.ba q
    exact ⟨of_decide_eq_true q1, of_decide_eq_true q2⟩
  refine ⟨fns, fun x d hx hd => ?_, free, fun b hb hx => ?_, fun x hx => ?_, T.hot, T.isx, cls, fun t ht => ?_, fun t ht => (T.ok t ht).1, T.cov, T.covM, T.covI, fun c f hf => ?_, fun c m n hm => ?_, fun c n hm => ?_, T.lamN, fun f hf => ?_, fun x hx => ?_, T.lams, fun x hx y hy e => ?_⟩
  · have q := List.all_eq_true.mp m1 x (mem_con hx)
    rw [hd] at q
    dsimp only at q
    split at q
    · rename_i u hu
      have hm := PySem.W.mg_of X G hu
      cases d <;> simp only [valB] at q <;> first | (cases q; done) | skip
      · split at q
        · exact ⟨.non, _, hm, rfl, fun _ _ _ => rd_non⟩
        · cases q
      · split at q
        · rename_i i j
          have e := of_decide_eq_true q
          subst e
          exact ⟨.bl _, _, hm, rfl, fun _ _ _ => rd_bl⟩
        · cases q
      · split at q
        · rename_i i j tk
          have e := of_decide_eq_true q
          subst e
          exact ⟨.int _, _, hm, ⟨_, rfl⟩, fun _ _ _ => rd_int⟩
        · cases q
      · split at q
        · rename_i i j tk
          have e := of_decide_eq_true q
          subst e
          exact ⟨.str _, _, hm, ⟨_, rfl⟩, fun _ _ _ => rd_str⟩
        · cases q
    · cases q
  · cases b <;> first | (cases hb; done) | skip
    have q := List.all_eq_true.mp m2 _ (mem_con hx)
    obtain ⟨_, q2⟩ := He.ba q
    exact PySem.W.mg_of X G (He.eqO_ok q2)
  · have g := He.glo_ok X G (fact (f := .glo x) (by simp only [fasOf, List.mem_append, List.mem_map]; simp [mem_con hx]))
    obtain ⟨e1, e2, e3, e4⟩ := He.exc_ok (fact (f := .exc x) (by simp only [fasOf, List.mem_append, List.mem_map]; simp [mem_con hx]))
    exact ⟨_, _, _, _, PySem.F.excBase_ValueError, e1, g, e2, e3, e4⟩
  · obtain ⟨fd, fu⟩ := def_ofT c ht
    exact ⟨fd, fu, fu.bindsN (T.ok t ht).2⟩
  · have hm := mem_con2 hf
    have z1 := He.cls_ok (fact (f := .cls c) (by simp only [fasOf, List.mem_append]; exact .inl (.inl (.inl (.inl (.inl (.inr (List.mem_map.mpr ⟨_, hm, rfl⟩))))))))
    have z2 := He.noat_ok (fact (f := .noat c f) (by simp only [fasOf, List.mem_append]; exact .inl (.inl (.inl (.inl (.inr (List.mem_map.mpr ⟨_, hm, rfl⟩)))))))
    exact ⟨z1, z2⟩
  · have hm := mem_con2 hm
    have z1 := He.cls_ok (fact (f := .cls c) (by simp only [fasOf, List.mem_append]; exact .inl (.inl (.inl (.inr (List.mem_map.mpr ⟨_, hm, rfl⟩))))))
    have z2 := He.meth_ok (fact (f := .meth c m) (by simp only [fasOf, List.mem_append]; exact .inl (.inl (.inr (List.mem_map.mpr ⟨_, hm, rfl⟩)))))
    exact ⟨z1, z2⟩
  · have hm := mem_con2 hm
    have z1 := He.glo_ok X G (fact (f := .glo c) (by simp only [fasOf, List.mem_append]; exact .inl (.inr (List.mem_map.mpr ⟨_, hm, rfl⟩))))
    have z2 := He.mkr_ok (fact (f := .mkr c) (by simp only [fasOf, List.mem_append]; exact .inr (List.mem_map.mpr ⟨_, hm, rfl⟩)))
    exact ⟨z1, z2⟩
  · obtain ⟨t, ht, hn, e⟩ := T.hcov f hf
    subst hn
    obtain ⟨fd, fu⟩ := def_of (name := t.name) (st := t.st) c (List.mem_append_right _ (List.mem_map.mpr ⟨t, ht, rfl⟩))
    rw [e]
    exact hnd_ok EF (hnd _ hf) (T.hk t ht).1 (T.hk t ht).2.1 fu (fu.bindsN (T.hk t ht).2.2)
  · exact tb (He.cT K (x, none)) (List.mem_map.mpr ⟨(x, none), List.mem_map.mpr ⟨x, hx, rfl⟩, rfl⟩)
  · have q := List.all_eq_true.mp (List.all_eq_true.mp m5 x hx) y hy
    exact of_decide_eq_true q e
def spRun (K : PySem.W.Frag) (c : List D → Mem → R D) : Sp := fun vs H Q E => ∃ B φ μ ds, MemOk K H φ μ B ∧ RdL K H (Live φ μ B) φ ds vs ∧ DenV K E B H φ μ (c ds μ) Q
/-- the law's promise at the head's heap -/
theorem law_at {l : PySem.W.OpenLaw} {n k W : Nat} {x : Str} {fa : Addr} (T : Text Γ M tab hts) (X : K.In h) (G : h.Ns mainGlobals mg) (c : SaysOf Γ M tab hts w h K) (hmg : mg "law" = some (.ref fa)) {tl : FT} (ht : tl ∈ tab) (hn : tl.name = "law") (hcl : tl.cls = none) (hp : tl.ps = [x]) (hat : M.at_ "law" = some tl.fn) (hf : Γ.fns.contains "law" = true)
    (plain : ∀ ns : List Int, ns.length ≤ n → (∀ z ∈ ns, Builtin.Int.intBits z ≤ 1048576) → ∃ μ', run M W (k + 1) "law" [.fls (ns.map .int)] [] = .ok (.bl true) μ') : LamX.LawAtS l w K (L2N.CX l.prog w) (k + 1) n x mg fa h := by
  obtain ⟨fd, fu⟩ := def_ofT c ht
  have b := fu.bindsA (T.ok tl ht).2
  have g0 : mg "law" = some (.ref (He.ga K "law")) := He.glo_ok X G (c.t.d.facts (f := .glo "law") (by simp only [fasOf, List.mem_append, List.mem_map]; simp [mem_con hf]))
  have ea : fa = He.ga K "law" := by
    rw [hmg] at g0
    exact Value.ref.inj (Option.some.inj g0)
  subst ea
  refine ⟨fd, tfOf.map (He.cT K), spRun K (run M W (k + 1) "law"), fun p hp => ?_, fun p hp => ?_, fun p hp => ?_, fun s v => ?_, fun H a ns hl hb hT hS => ?_, fun base KB GB tb => ?_⟩
  rotate_left 5
  · have q := fn_law (P := l.prog) (w := w) (base := base) (facts_of T X G c tb) W k ht (by rw [hn]; exact hat) fu
    rw [hn, hp] at q
    unfold FT.addr at q
    rw [hcl, hn] at q
    exact q
  · obtain ⟨q, hq, rfl⟩ := List.mem_map.mp hp
    exact c.empty q hq
  · obtain ⟨q, hq, rfl⟩ := List.mem_map.mp hp
    exact c.out q hq
  · obtain ⟨q, hq, rfl⟩ := List.mem_map.mp hp
    exact PySem.W.codeHd_of_K X (c.hd q hq)
  · have z := b s [v] (by rw [hp]; rfl)
    rw [hp] at z
    exact z
  · obtain ⟨B, φ, μ, ds, ⟨m, rl⟩, e1, e2, dv⟩ := sp_law (K := K) (plain ns hl hb) (fun p hp => by
      obtain ⟨y, hy, rfl⟩ := List.mem_map.mp hp
      exact hT (He.cT K (y, none)) (List.mem_map.mpr ⟨(y, none), List.mem_map.mpr ⟨y, hy, rfl⟩, rfl⟩)) hS
    subst e1 e2
    exact ⟨B, φ, [], _, m, rl, dv⟩
end
end Den

namespace Law_k64
open PySem PySem.Spec PyProof.Rows L2 Den
instance lamsI : Lams := ⟨["_law_right", "_law_errors"], 0⟩
/-- the i-th statement of the text -/
def at_ (i : Nat) : Stmt := PySem.Challenge.pw_benchbound_k64_whole_orders_at_benches.main.body.getD i (.Pass ⟨0, 0, 0, 0⟩)
def Γ : Nm := { fns := [("is_whole" : Str), ("need_whole" : Str), ("is_tuple_of" : Str), ("are_wholes" : Str), ("need_bodies" : Str), ("is_order_of" : Str), ("need_order" : Str), ("hours_in" : Str), ("best_in" : Str), ("hours_by" : Str), ("least_by_order" : Str), ("best_order" : Str), ("is_order" : Str), ("turning_places" : Str), ("_law_cup" : Str), ("_law_roll" : Str), ("_law_some" : Str), ("_law_sort" : Str), ("_law_like" : Str), ("_law_sums" : Str), ("_law_hours" : Str), ("_law_is_order" : Str), ("_law_rows" : Str), ("_law_by_rule" : Str), ("_law_mixed" : Str), ("_law_right" : Str), ("_law_errors" : Str), ("law" : Str)], con := ["BODIES", "HOURS", "LAST"], bfn := [], free := ["abs", "all", "bool", "enumerate", "int", "isinstance", "len", "list", "max", "min", "range", "set", "sorted", "str", "sum", "tuple", "zip"], exs := ["InvalidNumber", "InvalidRow", "InvalidHours"], hnd := ["_law_fails"], lam := false, cls := ["BenchError", "InvalidNumber", "InvalidRow", "InvalidHours"] }
def anc : List (Str × List Str) := [("BenchError", ["BenchError"]), ("InvalidNumber", ["InvalidNumber", "BenchError"]), ("InvalidRow", ["InvalidRow", "BenchError"]), ("InvalidHours", ["InvalidHours", "BenchError"])]
def sub (a b : Str) : Option Bool := (anc.lookup a).map fun l => l.contains b
def c_is_whole : S := (.cons (.ret (.and (.isi (.var 0) .int) (.and (.not (.isi (.var 0) .bool)) (.one (.chn .LtE .LtE (.var 1) (.var 0) (.var 2))))))
 .nil)
def t_is_whole : FT := { name := "is_whole", ps := ["value", "low", "high"], N := ["value", "low", "high"], st := at_ 6, code := c_is_whole, lam := false }
def c_need_whole : S := (.cons (.ife (.not (.cal "is_whole" (.cons (.var 0) (.cons (.var 1) (.cons (.var 2) .nil))))) (.cons (.rai "InvalidNumber")
 .nil) .nil)
 .nil)
def t_need_whole : FT := { name := "need_whole", ps := ["value", "low", "high"], N := ["value", "low", "high"], st := at_ 7, code := c_need_whole, lam := false }
def c_is_tuple_of : S := (.cons (.ret (.and (.isi (.var 0) .tuple) (.one (.chn .LtE .LtE (.var 1) (.bif .len (.cons (.var 0) .nil)) (.var 2)))))
 .nil)
def t_is_tuple_of : FT := { name := "is_tuple_of", ps := ["value", "low", "high"], N := ["value", "low", "high"], st := at_ 8, code := c_is_tuple_of, lam := false }
def c_are_wholes : S := (.cons (.ret (.and (.cal "is_tuple_of" (.cons (.var 0) (.cons (.var 1) (.cons (.var 1) .nil)))) (.one (.bif .all (.cons (.cmpn [("one", 4)] (.nm 4) (.itr (.var 0)) .nop (.cal "is_whole" (.cons (.var 4) (.cons (.var 2) (.cons (.var 3) .nil))))) .nil)))))
 .nil)
def t_are_wholes : FT := { name := "are_wholes", ps := ["value", "many", "low", "high"], N := ["value", "many", "low", "high", "one"], st := at_ 9, code := c_are_wholes, lam := false }
def c_need_bodies : S := (.cons (.ife (.or (.not (.cal "is_tuple_of" (.cons (.var 0) (.cons (.num 1) (.cons (.con "BODIES") .nil))))) (.one (.not (.bif .all (.cons (.cmpn [("body", 1)] (.nm 1) (.itr (.var 0)) .nop (.cal "is_tuple_of" (.cons (.var 1) (.cons (.num 2) (.cons (.num 2) .nil))))) .nil))))) (.cons (.rai "InvalidHours")
 .nil) .nil)
 (.cons (.ife (.not (.bif .all (.cons (.cmp2 [("body", 1), ("hours", 2)] (.nm 1) (.itr (.var 0)) .nop (.nm 2) (.itr (.var 1)) .nop (.cal "is_whole" (.cons (.var 2) (.cons (.num 0) (.cons (.con "HOURS") .nil))))) .nil))) (.cons (.rai "InvalidHours")
 .nil) .nil)
 .nil))
def t_need_bodies : FT := { name := "need_bodies", ps := ["bodies"], N := ["bodies", "body", "hours"], st := at_ 14, code := c_need_bodies, lam := false }
def c_is_order_of : S := (.cons (.ret (.and (.cal "are_wholes" (.cons (.var 1) (.cons (.bif .len (.cons (.var 0) .nil)) (.cons (.num 0) (.cons (.bin .Sub (.bif .len (.cons (.var 0) .nil)) (.num 1)) .nil))))) (.one (.cmp .Eq (.lset (.var 1)) (.bif .len (.cons (.var 0) .nil))))))
 .nil)
def t_is_order_of : FT := { name := "is_order_of", ps := ["bodies", "value"], N := ["bodies", "value"], st := at_ 16, code := c_is_order_of, lam := false }
def c_need_order : S := (.cons (.exp (.cal "need_bodies" (.cons (.var 0) .nil)))
 (.cons (.ife (.not (.cal "is_order_of" (.cons (.var 0) (.cons (.var 1) .nil)))) (.cons (.rai "InvalidRow")
 .nil) .nil)
 .nil))
def t_need_order : FT := { name := "need_order", ps := ["bodies", "order"], N := ["bodies", "order"], st := at_ 17, code := c_need_order, lam := false }
def c_hours_in : S := (.cons (.tgt (.cons (.nm 2) (.cons (.nm 3) .nil)) (.tup (.cons (.num 0) (.cons (.num 0) .nil))))
 (.cons (.for (.nm 4) (.itr (.var 1)) (.cons (.set 2 (.bin .Add (.var 2) (.idx (.idx (.var 0) (.var 4)) (.num 0))))
 (.cons (.set 3 (.bin .Add (.bif .max2 (.cons (.var 2) (.cons (.var 3) .nil))) (.idx (.idx (.var 0) (.var 4)) (.num 1))))
 .nil)))
 (.cons (.ret (.var 3))
 .nil)))
def t_hours_in : FT := { name := "hours_in", ps := ["bodies", "order"], N := ["bodies", "order", "first", "second", "at"], st := at_ 18, code := c_hours_in, lam := false }
def c_best_in : S := (.cons (.set 1 (.bif .sorted (.cons (.cmpn [("at", 3), ("body", 4)] (.cons (.nm 3) (.cons (.nm 4) .nil)) (.enm (.var 0)) (.cmp .Lt (.idx (.var 4) (.num 0)) (.idx (.var 4) (.num 1))) (.tup (.cons (.idx (.var 4) (.num 0)) (.cons (.var 3) .nil)))) .nil)))
 (.cons (.set 2 (.bif .sorted (.cons (.cmpn [("at", 3), ("body", 4)] (.cons (.nm 3) (.cons (.nm 4) .nil)) (.enm (.var 0)) (.cmp .GtE (.idx (.var 4) (.num 0)) (.idx (.var 4) (.num 1))) (.tup (.cons (.neg (.idx (.var 4) (.num 1))) (.cons (.var 3) .nil)))) .nil)))
 (.cons (.ret (.bif .tuple (.cons (.cmpn [("hours", 5), ("at", 3)] (.cons (.nm 5) (.cons (.nm 3) .nil)) (.itr (.bin .Add (.var 1) (.var 2))) .nop (.var 3)) .nil)))
 .nil)))
def t_best_in : FT := { name := "best_in", ps := ["bodies"], N := ["bodies", "ahead", "behind", "at", "body", "hours"], st := at_ 19, code := c_best_in, lam := false }
def c_hours_by : S := (.cons (.exp (.cal "need_order" (.cons (.var 0) (.cons (.var 1) .nil))))
 (.cons (.ret (.cal "hours_in" (.cons (.var 0) (.cons (.var 1) .nil))))
 .nil))
def t_hours_by : FT := { name := "hours_by", ps := ["bodies", "order"], N := ["bodies", "order"], st := at_ 20, code := c_hours_by, lam := false }
def c_least_by_order : S := (.cons (.exp (.cal "need_bodies" (.cons (.var 0) .nil)))
 (.cons (.ret (.cal "hours_in" (.cons (.var 0) (.cons (.cal "best_in" (.cons (.var 0) .nil)) .nil))))
 .nil))
def t_least_by_order : FT := { name := "least_by_order", ps := ["bodies"], N := ["bodies"], st := at_ 21, code := c_least_by_order, lam := false }
def c_best_order : S := (.cons (.exp (.cal "need_bodies" (.cons (.var 0) .nil)))
 (.cons (.ret (.cal "best_in" (.cons (.var 0) .nil)))
 .nil))
def t_best_order : FT := { name := "best_order", ps := ["bodies"], N := ["bodies"], st := at_ 22, code := c_best_order, lam := false }
def c_is_order : S := (.cons (.exp (.cal "need_bodies" (.cons (.var 0) .nil)))
 (.cons (.exp (.cal "need_whole" (.cons (.var 1) (.cons (.num 0) (.cons (.con "LAST") .nil)))))
 (.cons (.ret (.and (.cal "is_order_of" (.cons (.var 0) (.cons (.var 2) .nil))) (.one (.cmp .LtE (.cal "hours_in" (.cons (.var 0) (.cons (.var 2) .nil))) (.var 1)))))
 .nil)))
def t_is_order : FT := { name := "is_order", ps := ["bodies", "number", "value"], N := ["bodies", "number", "value"], st := at_ 23, code := c_is_order, lam := false }
def c_turning_places : S := (.cons (.exp (.cal "need_order" (.cons (.var 0) (.cons (.var 1) .nil))))
 (.cons (.set 2 (.cmpn [("at", 4)] (.nm 4) (.itr (.var 1)) .nop (.idx (.var 0) (.var 4))))
 (.cons (.set 3 (.cel .nil))
 (.cons (.for (.nm 4) (.rng1 (.bif .len (.cons (.var 2) .nil))) (.cons (.app (.var 3) (.bin .Add (.bif .sum (.cons (.cmpn [("body", 5)] (.nm 5) (.itr (.sli (.var 2) .nop (.bin .Add (.var 4) (.num 1)))) .nop (.idx (.var 5) (.num 0))) .nil)) (.bif .sum (.cons (.cmpn [("body", 5)] (.nm 5) (.itr (.sli (.var 2) (.var 4) .nop)) .nop (.idx (.var 5) (.num 1))) .nil))))
 .nil))
 (.cons (.frz 3)
 (.cons (.ret (.bif .tuple (.cons (.cmpn [("at", 4), ("own", 6)] (.cons (.nm 4) (.cons (.nm 6) .nil)) (.enm (.var 3)) (.cmp .Eq (.var 6) (.bif .max1 (.cons (.var 3) .nil))) (.var 4)) .nil)))
 .nil))))))
def t_turning_places : FT := { name := "turning_places", ps := ["bodies", "order"], N := ["bodies", "order", "rows", "sums", "at", "body", "own"], st := at_ 24, code := c_turning_places, lam := false }
def c__law_cup : S := (.cons (.set 1 (.bif .abs (.cons (.idx (.bin .Add (.bif .list (.cons (.var 0) .nil)) (.lst (.cons (.num 0) .nil))) (.num 0)) .nil)))
 (.cons (.ret (.cel (.cons (.ite (.cmp .GtE (.var 1) (.bin .Pow (.num 10) (.num 18))) (.bin .FloorDiv (.var 1) (.num 139)) (.num 0)) (.cons (.bin .Add (.bin .Mod (.bif .int (.cons (.bin .Add (.bin .Mult (.var 1) (.num 389)) (.num 5717)) .nil)) (.num 1944129511)) (.num 241)) .nil))))
 .nil))
def t__law_cup : FT := { name := "_law_cup", ps := ["script"], N := ["script", "cell"], st := at_ 26, code := c__law_cup, lam := false }
def c__law_roll : S := (.cons (.ife (.cmp .Gt (.idx (.var 0) (.num 0)) (.num 0)) (.cons (.set 2 (.bin .Mod (.bif .int (.cons (.idx (.var 0) (.num 0)) .nil)) (.var 1)))
 (.cons (.sub (.var 0) (.num 0) (.bin .FloorDiv (.idx (.var 0) (.num 0)) (.var 1)))
 (.cons (.ret (.var 2))
 .nil))) .nil)
 (.cons (.sub (.var 0) (.num 1) (.bin .Mod (.bif .int (.cons (.bin .Add (.bin .Mult (.idx (.var 0) (.num 1)) (.num 29629)) (.num 9403)) .nil)) (.num 2147483543)))
 (.cons (.set 3 (.bin .Mod (.bif .int (.cons (.bin .Mult (.idx (.var 0) (.num 1)) (.bin .Add (.idx (.var 0) (.num 1)) (.num 317))) .nil)) (.num 2147483587)))
 (.cons (.ret (.bin .Mod (.bif .int (.cons (.bin .FloorDiv (.var 3) (.num 919)) .nil)) (.var 1)))
 .nil))))
def t__law_roll : FT := { name := "_law_roll", ps := ["cup", "many"], N := ["cup", "many", "found", "deep"], st := at_ 27, code := c__law_roll, lam := false }
def c__law_some : S := (.cons (.ret (.idx (.var 1) (.cal "_law_roll" (.cons (.var 0) (.cons (.bif .len (.cons (.var 1) .nil)) .nil)))))
 .nil)
def t__law_some : FT := { name := "_law_some", ps := ["cup", "things"], N := ["cup", "things"], st := at_ 28, code := c__law_some, lam := false }
def c__law_sort : S := (.cons (.ife (.or (.cmp .Is (.var 0) (.non)) (.one (.isi (.var 0) .bool))) (.cons (.ret (.ite (.cmp .Is (.var 0) (.non)) (.num 0) (.num 1)))
 .nil) .nil)
 (.cons (.ife (.or (.isi (.var 0) .int) (.one (.isi (.var 0) .str))) (.cons (.ret (.ite (.isi (.var 0) .int) (.num 2) (.num 3)))
 .nil) .nil)
 (.cons (.ret (.ite (.isi (.var 0) .tuple) (.num 4) (.ite (.isi (.var 0) .list) (.num 5) (.num 6))))
 .nil)))
def t__law_sort : FT := { name := "_law_sort", ps := ["value"], N := ["value"], st := at_ 29, code := c__law_sort, lam := false }
def c__law_like : S := (.cons (.set 2 (.cal "_law_sort" (.cons (.var 1) .nil)))
 (.cons (.ife (.or (.cmp .NotEq (.cal "_law_sort" (.cons (.var 0) .nil)) (.var 2)) (.one (.cmp .Eq (.var 2) (.num 6)))) (.cons (.ret (.bl false))
 .nil) .nil)
 (.cons (.ife (.cmp .In (.var 2) (.tup (.cons (.num 4) (.cons (.num 5) .nil)))) (.cons (.ret (.and (.cmp .Eq (.bif .len (.cons (.var 0) .nil)) (.bif .len (.cons (.var 1) .nil))) (.one (.cmp .Eq (.cmpn [("first", 3), ("second", 4)] (.cons (.nm 3) (.cons (.nm 4) .nil)) (.zip (.var 0) (.var 1)) (.not (.cal "_law_like" (.cons (.var 3) (.cons (.var 4) .nil)))) (.num 1)) (.lst .nil)))))
 .nil) .nil)
 (.cons (.ret (.cmp .Eq (.var 0) (.var 1)))
 .nil))))
def t__law_like : FT := { name := "_law_like", ps := ["one", "other"], N := ["one", "other", "sort", "first", "second"], st := at_ 30, code := c__law_like, lam := false }
def c__law_sums : S := (.cons (.par 2 3 (.cmpn [("at", 5)] (.nm 5) (.itr (.var 1)) .nop (.idx (.var 0) (.var 5))) (.cel .nil))
 (.cons (.for (.nm 4) (.rng1 (.bif .len (.cons (.var 2) .nil))) (.cons (.app (.var 3) (.bin .Add (.bif .sum (.cons (.cmpn [("row", 6)] (.nm 6) (.itr (.sli (.var 2) .nop (.bin .Add (.var 4) (.num 1)))) .nop (.idx (.var 6) (.num 0))) .nil)) (.bif .sum (.cons (.cmpn [("row", 6)] (.nm 6) (.itr (.sli (.var 2) (.var 4) .nop)) .nop (.idx (.var 6) (.num 1))) .nil))))
 .nil))
 (.cons (.frz 3)
 (.cons (.ret (.var 3))
 .nil))))
def t__law_sums : FT := { name := "_law_sums", ps := ["bodies", "order"], N := ["bodies", "order", "rows", "found", "place", "at", "row"], st := at_ 32, code := c__law_sums, lam := false }
def c__law_hours : S := (.cons (.tgt (.cons (.nm 2) (.cons (.nm 3) .nil)) (.tup (.cons (.num 0) (.cons (.num 0) .nil))))
 (.cons (.for (.nm 4) (.itr (.var 1)) (.cons (.set 2 (.bin .Add (.var 2) (.idx (.idx (.var 0) (.var 4)) (.num 0))))
 (.cons (.set 3 (.bin .Add (.ite (.cmp .Gt (.var 3) (.var 2)) (.var 3) (.var 2)) (.idx (.idx (.var 0) (.var 4)) (.num 1))))
 .nil)))
 (.cons (.ret (.var 3))
 .nil)))
def t__law_hours : FT := { name := "_law_hours", ps := ["bodies", "order"], N := ["bodies", "order", "first", "second", "at"], st := at_ 33, code := c__law_hours, lam := false }
def c__law_is_order : S := (.cons (.ife (.or (.not (.isi (.var 1) .tuple)) (.one (.cmp .NotEq (.cmpn [("at", 2)] (.nm 2) (.itr (.var 1)) (.cmp .NotEq (.cal "_law_sort" (.cons (.var 2) .nil)) (.num 2)) (.var 2)) (.lst .nil)))) (.cons (.ret (.bl false))
 .nil) .nil)
 (.cons (.ret (.cmp .Eq (.bif .sorted (.cons (.var 1) .nil)) (.rgl1 0 (.bif .len (.cons (.var 0) .nil)))))
 .nil))
def t__law_is_order : FT := { name := "_law_is_order", ps := ["bodies", "value"], N := ["bodies", "value", "at"], st := at_ 34, code := c__law_is_order, lam := false }
def c__law_rows : S := (.cons (.set 1 (.lst (.cons (.tup .nil) .nil)))
 (.cons (.for (.nm 2) (.rng1 (.var 0)) (.cons (.set 3 (.lst .nil))
 (.cons (.for (.nm 4) (.itr (.var 1)) (.cons (.set 3 (.bin .Add (.var 3) (.cmpn [("at", 5)] (.nm 5) (.rng1 (.var 0)) (.cmp .NotIn (.var 5) (.var 4)) (.bin .Add (.var 4) (.tup (.cons (.var 5) .nil))))))
 .nil))
 (.cons (.set 1 (.var 3))
 .nil))))
 (.cons (.ret (.var 1))
 .nil)))
def t__law_rows : FT := { name := "_law_rows", ps := ["many"], N := ["many", "found", "turn", "longer", "row", "at"], st := at_ 35, code := c__law_rows, lam := false }
def c__law_by_rule : S := (.cons (.par 1 2 (.cel .nil) (.rgl1 0 (.bif .len (.cons (.var 0) .nil))))
 (.cons (.for (.nm 3) (.rng1 (.bif .len (.cons (.var 0) .nil))) (.cons (.set 4 (.cmpn [("at", 6)] (.nm 6) (.itr (.var 2)) (.cmp .Lt (.idx (.idx (.var 0) (.var 6)) (.num 0)) (.idx (.idx (.var 0) (.var 6)) (.num 1))) (.tup (.cons (.idx (.idx (.var 0) (.var 6)) (.num 0)) (.cons (.var 6) .nil)))))
 (.cons (.set 5 (.cmpn [("at", 6)] (.nm 6) (.itr (.var 2)) (.cmp .GtE (.idx (.idx (.var 0) (.var 6)) (.num 0)) (.idx (.idx (.var 0) (.var 6)) (.num 1))) (.tup (.cons (.neg (.idx (.idx (.var 0) (.var 6)) (.num 1))) (.cons (.var 6) .nil)))))
 (.cons (.set 6 (.ite (.cmp .NotEq (.var 4) (.lst .nil)) (.idx (.bif .min1 (.cons (.var 4) .nil)) (.num 1)) (.idx (.bif .min1 (.cons (.var 5) .nil)) (.num 1))))
 (.cons (.app (.var 1) (.var 6))
 (.cons (.set 2 (.cmpn [("one", 7)] (.nm 7) (.itr (.var 2)) (.cmp .NotEq (.var 7) (.var 6)) (.var 7)))
 .nil))))))
 (.cons (.frz 1)
 (.cons (.ret (.bif .tuple (.cons (.var 1) .nil)))
 .nil))))
def t__law_by_rule : FT := { name := "_law_by_rule", ps := ["bodies"], N := ["bodies", "found", "left", "turn", "ahead", "behind", "at", "one"], st := at_ 36, code := c__law_by_rule, lam := false }
def c__law_mixed : S := (.cons (.par 2 3 (.rgl1 2 (.var 1)) (.cel .nil))
 (.cons (.for (.nm 4) (.rng1 (.var 1)) (.cons (.app (.var 3) (.popi (.var 2) (.cal "_law_roll" (.cons (.var 0) (.cons (.bif .len (.cons (.var 2) .nil)) .nil)))))
 .nil))
 (.cons (.frz 3)
 (.cons (.ret (.bif .tuple (.cons (.var 3) .nil)))
 .nil))))
def t__law_mixed : FT := { name := "_law_mixed", ps := ["cup", "many"], N := ["cup", "many", "left", "found", "turn"], st := at_ 37, code := c__law_mixed, lam := false }
def c__law_right : S := (.cons (.tgt (.cons (.nm 2) (.cons (.nm 3) (.cons (.nm 4) .nil))) (.tup (.cons (.bif .len (.cons (.var 1) .nil)) (.cons (.cal "_law_hours" (.cons (.var 1) (.cons (.cal "_law_by_rule" (.cons (.var 1) .nil)) .nil))) (.cons (.cal "best_order" (.cons (.var 1) .nil)) .nil)))))
 (.cons (.ife (.or (.not (.cal "_law_like" (.cons (.cal "least_by_order" (.cons (.var 1) .nil)) (.cons (.var 3) .nil)))) (.or (.not (.cal "_law_is_order" (.cons (.var 1) (.cons (.var 4) .nil)))) (.one (.cmp .NotEq (.cal "_law_hours" (.cons (.var 1) (.cons (.var 4) .nil))) (.var 3))))) (.cons (.ret (.bl false))
 .nil) .nil)
 (.cons (.ife (.and (.cmp .LtE (.var 2) (.num 4)) (.one (.cmp .NotEq (.var 3) (.bif .min1 (.cons (.cmpn [("row", 16)] (.nm 16) (.itr (.cal "_law_rows" (.cons (.var 2) .nil))) .nop (.cal "_law_hours" (.cons (.var 1) (.cons (.var 16) .nil)))) .nil))))) (.cons (.ret (.bl false))
 .nil) .nil)
 (.cons (.for (.nm 5) (.itr (.tup (.cons (.var 4) (.cons (.rev (.var 4)) (.cons (.cal "_law_mixed" (.cons (.var 0) (.cons (.var 2) .nil))) (.cons (.rgl1 1 (.var 2)) .nil)))))) (.cons (.tgt (.cons (.nm 6) (.cons (.nm 7) .nil)) (.tup (.cons (.cal "_law_hours" (.cons (.var 1) (.cons (.var 5) .nil))) (.cons (.cal "_law_sums" (.cons (.var 1) (.cons (.var 5) .nil))) .nil))))
 (.cons (.set 8 (.bif .tuple (.cons (.cmpn [("place", 17), ("own", 18)] (.cons (.nm 17) (.cons (.nm 18) .nil)) (.enm (.var 7)) (.cmp .Eq (.var 18) (.bif .max1 (.cons (.var 7) .nil))) (.var 17)) .nil)))
 (.cons (.ife (.not (.cal "_law_like" (.cons (.lst (.cons (.cal "hours_by" (.cons (.var 1) (.cons (.var 5) .nil))) (.cons (.cal "turning_places" (.cons (.var 1) (.cons (.var 5) .nil))) .nil))) (.cons (.lst (.cons (.var 6) (.cons (.var 8) .nil))) .nil)))) (.cons (.ret (.bl false))
 .nil) .nil)
 (.cons (.ife (.or (.cmp .NotEq (.var 6) (.bif .max1 (.cons (.var 7) .nil))) (.one (.cmp .Lt (.var 6) (.var 3)))) (.cons (.ret (.bl false))
 .nil) .nil)
 .nil)))))
 (.cons (.tgt (.cons (.nm 9) (.cons (.nm 10) .nil)) (.tup (.cons (.cal "_law_roll" (.cons (.var 0) (.cons (.var 2) .nil))) (.cons (.cal "_law_mixed" (.cons (.var 0) (.cons (.var 2) .nil))) .nil))))
 (.cons (.set 11 (.lst (.cons (.var 4) (.cons (.sli (.var 4) (.num 1) .nop) (.cons (.rev (.var 4)) (.cons (.bin .Add (.var 4) (.sli (.var 4) (.neg (.num 1)) .nop)) (.cons (.bif .list (.cons (.var 4) .nil)) (.cons (.non) .nil))))))))
 (.cons (.set 11 (.bin .Add (.var 11) (.lst (.cons (.tup .nil) (.cons (.num 0) (.cons (.var 10) (.cons (.bin .Mult (.tup (.cons (.num 0) .nil)) (.var 2)) (.cons (.rgl2 1 (.num 1) (.bin .Add (.var 2) (.num 1))) .nil))))))))
 (.cons (.for (.nm 12) (.itr (.bin .Add (.var 11) (.cmpn [("odd", 19)] (.nm 19) (.itr (.tup (.cons (.non) (.cons (.var 2) (.cons (.neg (.num 1)) (.cons (.bl true) (.cons (.txt "0") (.cons (.idx (.var 4) (.num 0)) .nil)))))))) .nop (.bin .Add (.bin .Add (.sli (.var 4) .nop (.var 9)) (.tup (.cons (.var 19) .nil))) (.sli (.var 4) (.bin .Add (.var 9) (.num 1)) .nop))))) (.cons (.set 13 (.cal "_law_is_order" (.cons (.var 1) (.cons (.var 12) .nil))))
 (.cons (.set 6 (.ite (.var 13) (.cal "_law_hours" (.cons (.var 1) (.cons (.var 12) .nil))) (.num 0)))
 (.cons (.for (.nm 14) (.itr (.tup (.cons (.var 3) (.cons (.bif .max2 (.cons (.num 0) (.cons (.bin .Sub (.var 3) (.num 1)) .nil))) (.cons (.var 6) (.cons (.num 20000) .nil)))))) (.cons (.ife (.not (.cal "_law_like" (.cons (.cal "is_order" (.cons (.var 1) (.cons (.var 14) (.cons (.var 12) .nil)))) (.cons (.and (.var 13) (.one (.cmp .LtE (.var 6) (.var 14)))) .nil)))) (.cons (.ret (.bl false))
 .nil) .nil)
 .nil))
 (.cons (.ife (.not (.var 13)) (.cons (.set 15 (.cmpn [("call", 20)] (.nm 20) (.itr (.tup (.cons (.glo "hours_by") (.cons (.glo "turning_places") .nil)))) .nop (.err "_law_fails" (.cav 20 ["hours_by", "turning_places"] (.cons (.var 1) (.cons (.var 12) .nil))))))
 (.cons (.ife (.cmp .NotEq (.var 15) (.bin .Mult (.lst (.cons (.txt "row") .nil)) (.num 2))) (.cons (.ret (.bl false))
 .nil) .nil)
 .nil)) .nil)
 .nil)))))
 (.cons (.ret (.bl true))
 .nil)))))))))
def t__law_right : FT := { name := "_law_right", ps := ["cup", "bodies"], N := ["cup", "bodies", "many", "due", "told", "order", "hours", "sums", "places", "at", "drawn", "values", "value", "is_one", "number", "words", "row", "place", "own", "odd", "call"], st := at_ 38, code := c__law_right, lam := true }
def c__law_errors : S := (.cons (.set 0 (.cel .nil))
 (.cons (.set 1 (.lst (.cons (.non) (.cons (.tup .nil) (.cons (.lst (.cons (.tup (.cons (.num 1) (.cons (.num 2) .nil))) .nil)) (.cons (.tup (.cons (.tup (.cons (.num 1) .nil)) .nil)) (.cons (.tup (.cons (.tup (.cons (.num 1) (.cons (.num 2) (.cons (.num 3) .nil)))) .nil)) (.cons (.tup (.cons (.tup (.cons (.neg (.num 1)) (.cons (.num 2) .nil))) .nil)) .nil))))))))
 (.cons (.set 1 (.bin .Add (.var 1) (.lst (.cons (.tup (.cons (.tup (.cons (.num 1) (.cons (.num 1001) .nil))) .nil)) (.cons (.tup (.cons (.tup (.cons (.bl true) (.cons (.num 1) .nil))) .nil)) (.cons (.tup (.cons (.lst (.cons (.num 1) (.cons (.num 2) .nil))) .nil)) (.cons (.tup (.cons (.num 1) (.cons (.num 2) .nil))) (.cons (.bin .Mult (.tup (.cons (.tup (.cons (.num 1) (.cons (.num 2) .nil))) .nil)) (.num 11)) (.cons (.num 0) .nil)))))))))
 (.cons (.for (.nm 2) (.itr (.var 1)) (.cons (.set 0 (.newb .Add (.var 0) (.cmpn [("call", 3)] (.nm 3) (.itr (.tup (.cons (.glo "least_by_order") (.cons (.glo "best_order") .nil)))) .nop (.err "_law_fails" (.cav 3 ["least_by_order", "best_order", "hours_by", "turning_places"] (.cons (.var 2) .nil))))))
 (.cons (.set 0 (.newb .Add (.var 0) (.cmpn [("call", 3)] (.nm 3) (.itr (.tup (.cons (.glo "hours_by") (.cons (.glo "turning_places") .nil)))) .nop (.err "_law_fails" (.cav 3 ["least_by_order", "best_order", "hours_by", "turning_places"] (.cons (.var 2) (.cons (.non) .nil)))))))
 (.cons (.app (.var 0) (.err "_law_fails" (.cal "is_order" (.cons (.var 2) (.cons (.non) (.cons (.non) .nil))))))
 .nil))))
 (.cons (.set 0 (.newb .Add (.var 0) (.cmpn [("number", 4)] (.nm 4) (.itr (.tup (.cons (.non) (.cons (.neg (.num 1)) (.cons (.num 20001) (.cons (.bl true) (.cons (.txt "1") .nil))))))) .nop (.err "_law_fails" (.cal "is_order" (.cons (.tup (.cons (.tup (.cons (.num 1) (.cons (.num 2) .nil))) .nil)) (.cons (.var 4) (.cons (.non) .nil))))))))
 (.cons (.frz 0)
 (.cons (.ret (.cmp .Eq (.var 0) (.bin .Add (.bin .Mult (.lst (.cons (.txt "hours") .nil)) (.bin .Mult (.num 5) (.bif .len (.cons (.var 1) .nil)))) (.bin .Mult (.lst (.cons (.txt "number") .nil)) (.num 5)))))
 .nil)))))))
def t__law_errors : FT := { name := "_law_errors", ps := [], N := ["words", "odds", "odd", "call", "number"], st := at_ 39, code := c__law_errors, lam := true }
def c_law : S := (.cons (.set 1 (.cal "_law_cup" (.cons (.var 0) .nil)))
 (.cons (.for (.nm 2) (.rng1 (.num 6)) (.cons (.tgt (.cons (.nm 3) (.cons (.nm 4) .nil)) (.tup (.cons (.bin .Add (.num 1) (.cal "_law_some" (.cons (.var 1) (.cons (.lst (.cons (.cal "_law_roll" (.cons (.var 1) (.cons (.num 4) .nil))) (.cons (.cal "_law_roll" (.cons (.var 1) (.cons (.num 10) .nil))) .nil))) .nil)))) (.cons (.cal "_law_some" (.cons (.var 1) (.cons (.lst (.cons (.num 1) (.cons (.num 5) (.cons (.num 300) .nil)))) .nil))) .nil))))
 (.cons (.set 5 (.bif .tuple (.cons (.cmpn [("body", 9)] (.nm 9) (.rng1 (.var 3)) .nop (.tup (.cons (.cal "_law_roll" (.cons (.var 1) (.cons (.bin .Add (.var 4) (.num 1)) .nil))) (.cons (.cal "_law_roll" (.cons (.var 1) (.cons (.bin .Add (.var 4) (.num 1)) .nil))) .nil)))) .nil)))
 (.cons (.ife (.not (.cal "_law_right" (.cons (.var 1) (.cons (.var 5) .nil)))) (.cons (.ret (.bl false))
 .nil) .nil)
 .nil))))
 (.cons (.set 6 (.lst (.cons (.cal "hours_by" (.cons (.tup (.cons (.tup (.cons (.num 3) (.cons (.num 2) .nil))) (.cons (.tup (.cons (.num 1) (.cons (.num 4) .nil))) .nil))) (.cons (.tup (.cons (.num 0) (.cons (.num 1) .nil))) .nil))) (.cons (.cal "hours_by" (.cons (.tup (.cons (.tup (.cons (.num 3) (.cons (.num 2) .nil))) (.cons (.tup (.cons (.num 1) (.cons (.num 4) .nil))) .nil))) (.cons (.tup (.cons (.num 1) (.cons (.num 0) .nil))) .nil))) .nil))))
 (.cons (.set 6 (.bin .Add (.var 6) (.lst (.cons (.cal "least_by_order" (.cons (.tup (.cons (.tup (.cons (.num 3) (.cons (.num 2) .nil))) (.cons (.tup (.cons (.num 1) (.cons (.num 4) .nil))) .nil))) .nil)) (.cons (.cal "best_order" (.cons (.tup (.cons (.tup (.cons (.num 3) (.cons (.num 2) .nil))) (.cons (.tup (.cons (.num 1) (.cons (.num 4) .nil))) .nil))) .nil)) .nil)))))
 (.cons (.set 6 (.bin .Add (.var 6) (.lst (.cons (.cal "is_order" (.cons (.tup (.cons (.tup (.cons (.num 3) (.cons (.num 2) .nil))) (.cons (.tup (.cons (.num 1) (.cons (.num 4) .nil))) .nil))) (.cons (.num 8) (.cons (.tup (.cons (.num 0) (.cons (.num 1) .nil))) .nil)))) (.cons (.cal "turning_places" (.cons (.tup (.cons (.tup (.cons (.num 3) (.cons (.num 2) .nil))) (.cons (.tup (.cons (.num 1) (.cons (.num 4) .nil))) .nil))) (.cons (.tup (.cons (.num 1) (.cons (.num 0) .nil))) .nil))) .nil)))))
 (.cons (.set 6 (.bin .Add (.var 6) (.lst (.cons (.cal "turning_places" (.cons (.tup (.cons (.tup (.cons (.num 3) (.cons (.num 2) .nil))) (.cons (.tup (.cons (.num 1) (.cons (.num 4) .nil))) .nil))) (.cons (.tup (.cons (.num 0) (.cons (.num 1) .nil))) .nil))) .nil))))
 (.cons (.ife (.not (.cal "_law_like" (.cons (.bin .Add (.var 6) (.lst (.cons (.cal "least_by_order" (.cons (.tup (.cons (.tup (.cons (.num 0) (.cons (.num 0) .nil))) .nil)) .nil)) .nil))) (.cons (.lst (.cons (.num 9) (.cons (.num 7) (.cons (.num 7) (.cons (.tup (.cons (.num 1) (.cons (.num 0) .nil))) (.cons (.bl false) (.cons (.tup (.cons (.num 0) .nil)) (.cons (.tup (.cons (.num 0) .nil)) (.cons (.num 0) .nil))))))))) .nil)))) (.cons (.ret (.bl false))
 .nil) .nil)
 (.cons (.set 7 (.tup (.cons (.tup (.cons (.num 4) (.cons (.num 5) .nil))) (.cons (.tup (.cons (.num 4) (.cons (.num 1) .nil))) (.cons (.tup (.cons (.num 10) (.cons (.num 4) .nil))) (.cons (.tup (.cons (.num 6) (.cons (.num 10) .nil))) (.cons (.tup (.cons (.num 2) (.cons (.num 3) .nil))) .nil)))))))
 (.cons (.set 6 (.lst (.cons (.cal "least_by_order" (.cons (.var 7) .nil)) (.cons (.cal "turning_places" (.cons (.bin .Mult (.tup (.cons (.tup (.cons (.num 2) (.cons (.num 2) .nil))) .nil)) (.num 4)) (.cons (.tup (.cons (.num 0) (.cons (.num 1) (.cons (.num 2) (.cons (.num 3) .nil))))) .nil))) (.cons (.cal "hours_by" (.cons (.bin .Mult (.tup (.cons (.tup (.cons (.num 2) (.cons (.num 2) .nil))) .nil)) (.num 4)) (.cons (.tup (.cons (.num 3) (.cons (.num 2) (.cons (.num 1) (.cons (.num 0) .nil))))) .nil))) .nil)))))
 (.cons (.set 6 (.bin .Add (.var 6) (.lst (.cons (.cal "least_by_order" (.cons (.tup (.cons (.tup (.cons (.num 5) (.cons (.num 3) .nil))) (.cons (.tup (.cons (.num 5) (.cons (.num 2) .nil))) (.cons (.tup (.cons (.num 5) (.cons (.num 1) .nil))) .nil)))) .nil)) (.cons (.cal "hours_by" (.cons (.tup (.cons (.tup (.cons (.num 0) (.cons (.num 9) .nil))) (.cons (.tup (.cons (.num 1) (.cons (.num 1) .nil))) (.cons (.tup (.cons (.num 1) (.cons (.num 1) .nil))) .nil)))) (.cons (.tup (.cons (.num 0) (.cons (.num 1) (.cons (.num 2) .nil)))) .nil))) .nil)))))
 (.cons (.set 6 (.bin .Add (.var 6) (.lst (.cons (.cal "least_by_order" (.cons (.bin .Mult (.tup (.cons (.tup (.cons (.num 1000) (.cons (.num 1000) .nil))) .nil)) (.num 10)) .nil)) .nil))))
 (.cons (.ife (.not (.cal "_law_like" (.cons (.var 6) (.cons (.lst (.cons (.num 27) (.cons (.tup (.cons (.num 0) (.cons (.num 1) (.cons (.num 2) (.cons (.num 3) .nil))))) (.cons (.num 10) (.cons (.num 16) (.cons (.num 11) (.cons (.num 11000) .nil))))))) .nil)))) (.cons (.ret (.bl false))
 .nil) .nil)
 (.cons (.for (.nm 5) (.itr (.tup (.cons (.var 7) (.cons (.bin .Mult (.tup (.cons (.tup (.cons (.num 2) (.cons (.num 2) .nil))) .nil)) (.num 4)) (.cons (.tup (.cons (.tup (.cons (.num 5) (.cons (.num 3) .nil))) (.cons (.tup (.cons (.num 5) (.cons (.num 2) .nil))) (.cons (.tup (.cons (.num 5) (.cons (.num 1) .nil))) .nil)))) (.cons (.tup (.cons (.tup (.cons (.num 0) (.cons (.num 9) .nil))) (.cons (.tup (.cons (.num 1) (.cons (.num 1) .nil))) (.cons (.tup (.cons (.num 1) (.cons (.num 1) .nil))) .nil)))) (.cons (.tup (.cons (.tup (.cons (.num 0) (.cons (.num 0) .nil))) (.cons (.tup (.cons (.num 0) (.cons (.num 0) .nil))) .nil))) (.cons (.tup (.cons (.tup (.cons (.num 9) (.cons (.num 0) .nil))) (.cons (.tup (.cons (.num 0) (.cons (.num 9) .nil))) .nil))) .nil)))))))) (.cons (.ife (.not (.cal "_law_right" (.cons (.var 1) (.cons (.var 5) .nil)))) (.cons (.ret (.bl false))
 .nil) .nil)
 .nil))
 (.cons (.set 8 (.bif .tuple (.cons (.cmpn [("body", 9)] (.nm 9) (.rng1 (.num 10)) .nop (.tup (.cons (.cal "_law_roll" (.cons (.var 1) (.cons (.num 1001) .nil))) (.cons (.cal "_law_roll" (.cons (.var 1) (.cons (.num 1001) .nil))) .nil)))) .nil)))
 (.cons (.ret (.and (.cal "_law_right" (.cons (.var 1) (.cons (.var 8) .nil))) (.one (.cal0 "_law_errors"))))
 .nil)))))))))))))))
def t_law : FT := { name := "law", ps := ["script"], N := ["script", "cup", "turn", "many", "most", "bodies", "told", "five", "great", "body"], st := at_ 40, code := c_law, lam := false }
def s__law_fails : S := (.cons (.set 2 (.cel .nil))
 (.cons (.app (.var 2) (.tup (.cons (.txt "number") (.cons (.isx 1 "InvalidNumber") .nil))))
 (.cons (.app (.var 2) (.tup (.cons (.txt "hours") (.cons (.isx 1 "InvalidHours") .nil))))
 (.cons (.app (.var 2) (.tup (.cons (.txt "row") (.cons (.isx 1 "InvalidRow") .nil))))
 (.cons (.frz 2)
 (.cons (.set 3 (.cmpl [("word", 4), ("good", 5)] (.cons (.nm 4) (.cons (.nm 5) .nil)) (.var 2) (.var 5) (.var 4)))
 (.cons (.ret (.ite (.cmp .NotEq (.var 3) (.lst .nil)) (.joi (.txt " ") (.var 3)) (.txt "other")))
 .nil)))))))
def r__law_fails : S := (.cons (.ret (.txt ""))
 .nil)
def h__law_fails : HT := { name := "_law_fails", a := "call", N := ["call", "e", "some", "words", "word", "good"], st := at_ 31, cls := "BenchError", i := 1, suite := s__law_fails, rest := r__law_fails, alts := [] }
def tab : List FT := [t_is_whole, t_need_whole, t_is_tuple_of, t_are_wholes, t_need_bodies, t_is_order_of, t_need_order, t_hours_in, t_best_in, t_hours_by, t_least_by_order, t_best_order, t_is_order, t_turning_places, t__law_cup, t__law_roll, t__law_some, t__law_sort, t__law_like, t__law_sums, t__law_hours, t__law_is_order, t__law_rows, t__law_by_rule, t__law_mixed, t__law_right, t__law_errors, t_law]
def hts : List HT := [h__law_fails]
def M0 : Md := { fns := tab.map FT.fn, con := [("BODIES", .int (10)), ("HOURS", .int (1000)), ("LAST", .int (20000))], hnd := fun _ _ => none, sub := sub }
def M : Md := { M0 with hnd := fun f => if f = "_law_fails" then h__law_fails.tell Γ M0 else fun _ => none }
theorem ok_is_whole : t_is_whole.Ok Γ ∧ BdT t_is_whole := ⟨⟨⟨rfl, rfl, rfl, by decide +kernel, rfl, by decide +kernel, by decide +kernel⟩, by decide +kernel⟩, fun _ _ _ _ _ _ us hl => match us, hl with | [_, _, _], _ => rfl⟩
theorem ok_need_whole : t_need_whole.Ok Γ ∧ BdT t_need_whole := ⟨⟨⟨rfl, rfl, rfl, by decide +kernel, rfl, by decide +kernel, by decide +kernel⟩, by decide +kernel⟩, fun _ _ _ _ _ _ us hl => match us, hl with | [_, _, _], _ => rfl⟩
theorem ok_is_tuple_of : t_is_tuple_of.Ok Γ ∧ BdT t_is_tuple_of := ⟨⟨⟨rfl, rfl, rfl, by decide +kernel, rfl, by decide +kernel, by decide +kernel⟩, by decide +kernel⟩, fun _ _ _ _ _ _ us hl => match us, hl with | [_, _, _], _ => rfl⟩
theorem ok_are_wholes : t_are_wholes.Ok Γ ∧ BdT t_are_wholes := ⟨⟨⟨rfl, rfl, rfl, by decide +kernel, rfl, by decide +kernel, by decide +kernel⟩, by decide +kernel⟩, fun _ _ _ _ _ _ us hl => match us, hl with | [_, _, _, _], _ => rfl⟩
theorem ok_need_bodies : t_need_bodies.Ok Γ ∧ BdT t_need_bodies := ⟨⟨⟨rfl, rfl, rfl, by decide +kernel, rfl, by decide +kernel, by decide +kernel⟩, by decide +kernel⟩, fun _ _ _ _ _ _ us hl => match us, hl with | [_], _ => rfl⟩
theorem ok_is_order_of : t_is_order_of.Ok Γ ∧ BdT t_is_order_of := ⟨⟨⟨rfl, rfl, rfl, by decide +kernel, rfl, by decide +kernel, by decide +kernel⟩, by decide +kernel⟩, fun _ _ _ _ _ _ us hl => match us, hl with | [_, _], _ => rfl⟩
theorem ok_need_order : t_need_order.Ok Γ ∧ BdT t_need_order := ⟨⟨⟨rfl, rfl, rfl, by decide +kernel, rfl, by decide +kernel, by decide +kernel⟩, by decide +kernel⟩, fun _ _ _ _ _ _ us hl => match us, hl with | [_, _], _ => rfl⟩
theorem ok_hours_in : t_hours_in.Ok Γ ∧ BdT t_hours_in := ⟨⟨⟨rfl, rfl, rfl, by decide +kernel, rfl, by decide +kernel, by decide +kernel⟩, by decide +kernel⟩, fun _ _ _ _ _ _ us hl => match us, hl with | [_, _], _ => rfl⟩
theorem ok_best_in : t_best_in.Ok Γ ∧ BdT t_best_in := ⟨⟨⟨rfl, rfl, rfl, by decide +kernel, rfl, by decide +kernel, by decide +kernel⟩, by decide +kernel⟩, fun _ _ _ _ _ _ us hl => match us, hl with | [_], _ => rfl⟩
theorem ok_hours_by : t_hours_by.Ok Γ ∧ BdT t_hours_by := ⟨⟨⟨rfl, rfl, rfl, by decide +kernel, rfl, by decide +kernel, by decide +kernel⟩, by decide +kernel⟩, fun _ _ _ _ _ _ us hl => match us, hl with | [_, _], _ => rfl⟩
theorem ok_least_by_order : t_least_by_order.Ok Γ ∧ BdT t_least_by_order := ⟨⟨⟨rfl, rfl, rfl, by decide +kernel, rfl, by decide +kernel, by decide +kernel⟩, by decide +kernel⟩, fun _ _ _ _ _ _ us hl => match us, hl with | [_], _ => rfl⟩
theorem ok_best_order : t_best_order.Ok Γ ∧ BdT t_best_order := ⟨⟨⟨rfl, rfl, rfl, by decide +kernel, rfl, by decide +kernel, by decide +kernel⟩, by decide +kernel⟩, fun _ _ _ _ _ _ us hl => match us, hl with | [_], _ => rfl⟩
theorem ok_is_order : t_is_order.Ok Γ ∧ BdT t_is_order := ⟨⟨⟨rfl, rfl, rfl, by decide +kernel, rfl, by decide +kernel, by decide +kernel⟩, by decide +kernel⟩, fun _ _ _ _ _ _ us hl => match us, hl with | [_, _, _], _ => rfl⟩
theorem ok_turning_places : t_turning_places.Ok Γ ∧ BdT t_turning_places := ⟨⟨⟨rfl, rfl, rfl, by decide +kernel, rfl, by decide +kernel, by decide +kernel⟩, by decide +kernel⟩, fun _ _ _ _ _ _ us hl => match us, hl with | [_, _], _ => rfl⟩
theorem ok__law_cup : t__law_cup.Ok Γ ∧ BdT t__law_cup := ⟨⟨⟨rfl, rfl, rfl, by decide +kernel, rfl, by decide +kernel, by decide +kernel⟩, by decide +kernel⟩, fun _ _ _ _ _ _ us hl => match us, hl with | [_], _ => rfl⟩
theorem ok__law_roll : t__law_roll.Ok Γ ∧ BdT t__law_roll := ⟨⟨⟨rfl, rfl, rfl, by decide +kernel, rfl, by decide +kernel, by decide +kernel⟩, by decide +kernel⟩, fun _ _ _ _ _ _ us hl => match us, hl with | [_, _], _ => rfl⟩
theorem ok__law_some : t__law_some.Ok Γ ∧ BdT t__law_some := ⟨⟨⟨rfl, rfl, rfl, by decide +kernel, rfl, by decide +kernel, by decide +kernel⟩, by decide +kernel⟩, fun _ _ _ _ _ _ us hl => match us, hl with | [_, _], _ => rfl⟩
theorem ok__law_sort : t__law_sort.Ok Γ ∧ BdT t__law_sort := ⟨⟨⟨rfl, rfl, rfl, by decide +kernel, rfl, by decide +kernel, by decide +kernel⟩, by decide +kernel⟩, fun _ _ _ _ _ _ us hl => match us, hl with | [_], _ => rfl⟩
theorem ok__law_like : t__law_like.Ok Γ ∧ BdT t__law_like := ⟨⟨⟨rfl, rfl, rfl, by decide +kernel, rfl, by decide +kernel, by decide +kernel⟩, by decide +kernel⟩, fun _ _ _ _ _ _ us hl => match us, hl with | [_, _], _ => rfl⟩
theorem ok__law_sums : t__law_sums.Ok Γ ∧ BdT t__law_sums := ⟨⟨⟨rfl, rfl, rfl, by decide +kernel, rfl, by decide +kernel, by decide +kernel⟩, by decide +kernel⟩, fun _ _ _ _ _ _ us hl => match us, hl with | [_, _], _ => rfl⟩
theorem ok__law_hours : t__law_hours.Ok Γ ∧ BdT t__law_hours := ⟨⟨⟨rfl, rfl, rfl, by decide +kernel, rfl, by decide +kernel, by decide +kernel⟩, by decide +kernel⟩, fun _ _ _ _ _ _ us hl => match us, hl with | [_, _], _ => rfl⟩
theorem ok__law_is_order : t__law_is_order.Ok Γ ∧ BdT t__law_is_order := ⟨⟨⟨rfl, rfl, rfl, by decide +kernel, rfl, by decide +kernel, by decide +kernel⟩, by decide +kernel⟩, fun _ _ _ _ _ _ us hl => match us, hl with | [_, _], _ => rfl⟩
theorem ok__law_rows : t__law_rows.Ok Γ ∧ BdT t__law_rows := ⟨⟨⟨rfl, rfl, rfl, by decide +kernel, rfl, by decide +kernel, by decide +kernel⟩, by decide +kernel⟩, fun _ _ _ _ _ _ us hl => match us, hl with | [_], _ => rfl⟩
theorem ok__law_by_rule : t__law_by_rule.Ok Γ ∧ BdT t__law_by_rule := ⟨⟨⟨rfl, rfl, rfl, by decide +kernel, rfl, by decide +kernel, by decide +kernel⟩, by decide +kernel⟩, fun _ _ _ _ _ _ us hl => match us, hl with | [_], _ => rfl⟩
theorem ok__law_mixed : t__law_mixed.Ok Γ ∧ BdT t__law_mixed := ⟨⟨⟨rfl, rfl, rfl, by decide +kernel, rfl, by decide +kernel, by decide +kernel⟩, by decide +kernel⟩, fun _ _ _ _ _ _ us hl => match us, hl with | [_, _], _ => rfl⟩
theorem ok__law_right : t__law_right.Ok Γ ∧ BdT t__law_right := ⟨⟨⟨rfl, rfl, rfl, by decide +kernel, rfl, by decide +kernel, by decide +kernel⟩, by decide +kernel⟩, fun _ _ _ _ _ _ us hl => match us, hl with | [_, _], _ => rfl⟩
theorem ok__law_errors : t__law_errors.Ok Γ ∧ BdT t__law_errors := ⟨⟨⟨rfl, rfl, rfl, by decide +kernel, rfl, by decide +kernel, by decide +kernel⟩, by decide +kernel⟩, fun _ _ _ _ _ _ us hl => match us, hl with | [], _ => rfl⟩
theorem ok_law : t_law.Ok Γ ∧ BdT t_law := ⟨⟨⟨rfl, rfl, rfl, by decide +kernel, rfl, by decide +kernel, by decide +kernel⟩, by decide +kernel⟩, fun _ _ _ _ _ _ us hl => match us, hl with | [_], _ => rfl⟩
theorem hk__law_fails : h__law_fails.ck Γ = true ∧ FnScope h__law_fails.N [h__law_fails.a] (defScope h__law_fails.st) ∧ Bd h__law_fails.name h__law_fails.st [h__law_fails.a] := ⟨by decide +kernel, ⟨rfl, rfl, rfl, by decide +kernel, rfl, by decide +kernel, by decide +kernel⟩, fun _ _ _ _ _ _ us hl => match us, hl with | [_], _ => rfl⟩
theorem cov : ∀ f ∈ Γ.fns, tab.any (fun t => decide (t.name = f) && (match M.at_ f with | some x => decide (x.name = t.fn.name) | none => false)) = true := by decide +kernel
theorem text : Text Γ M tab hts where
  ok := fun t ht => by
    simp only [tab, List.mem_cons, List.not_mem_nil, or_false] at ht
    rcases ht with rfl | rfl | rfl | rfl | rfl | rfl | rfl | rfl | rfl | rfl | rfl | rfl | rfl | rfl | rfl | rfl | rfl | rfl | rfl | rfl | rfl | rfl | rfl | rfl | rfl | rfl | rfl | rfl
    · exact ok_is_whole
    · exact ok_need_whole
    · exact ok_is_tuple_of
    · exact ok_are_wholes
    · exact ok_need_bodies
    · exact ok_is_order_of
    · exact ok_need_order
    · exact ok_hours_in
    · exact ok_best_in
    · exact ok_hours_by
    · exact ok_least_by_order
    · exact ok_best_order
    · exact ok_is_order
    · exact ok_turning_places
    · exact ok__law_cup
    · exact ok__law_roll
    · exact ok__law_some
    · exact ok__law_sort
    · exact ok__law_like
    · exact ok__law_sums
    · exact ok__law_hours
    · exact ok__law_is_order
    · exact ok__law_rows
    · exact ok__law_by_rule
    · exact ok__law_mixed
    · exact ok__law_right
    · exact ok__law_errors
    · exact ok_law
  hk := fun t ht => by
    simp only [hts, List.mem_cons, List.not_mem_nil, or_false] at ht
    subst ht
    · exact hk__law_fails
  cov := fun f hf => by
    have hf := List.contains_iff_mem.mp hf
    simp only [Γ, List.mem_cons, List.not_mem_nil, or_false] at hf
    rcases hf with rfl | rfl | rfl | rfl | rfl | rfl | rfl | rfl | rfl | rfl | rfl | rfl | rfl | rfl | rfl | rfl | rfl | rfl | rfl | rfl | rfl | rfl | rfl | rfl | rfl | rfl | rfl | rfl
    · exact ⟨t_is_whole, by simp [tab], rfl, rfl, rfl⟩
    · exact ⟨t_need_whole, by simp [tab], rfl, rfl, rfl⟩
    · exact ⟨t_is_tuple_of, by simp [tab], rfl, rfl, rfl⟩
    · exact ⟨t_are_wholes, by simp [tab], rfl, rfl, rfl⟩
    · exact ⟨t_need_bodies, by simp [tab], rfl, rfl, rfl⟩
    · exact ⟨t_is_order_of, by simp [tab], rfl, rfl, rfl⟩
    · exact ⟨t_need_order, by simp [tab], rfl, rfl, rfl⟩
    · exact ⟨t_hours_in, by simp [tab], rfl, rfl, rfl⟩
    · exact ⟨t_best_in, by simp [tab], rfl, rfl, rfl⟩
    · exact ⟨t_hours_by, by simp [tab], rfl, rfl, rfl⟩
    · exact ⟨t_least_by_order, by simp [tab], rfl, rfl, rfl⟩
    · exact ⟨t_best_order, by simp [tab], rfl, rfl, rfl⟩
    · exact ⟨t_is_order, by simp [tab], rfl, rfl, rfl⟩
    · exact ⟨t_turning_places, by simp [tab], rfl, rfl, rfl⟩
    · exact ⟨t__law_cup, by simp [tab], rfl, rfl, rfl⟩
    · exact ⟨t__law_roll, by simp [tab], rfl, rfl, rfl⟩
    · exact ⟨t__law_some, by simp [tab], rfl, rfl, rfl⟩
    · exact ⟨t__law_sort, by simp [tab], rfl, rfl, rfl⟩
    · exact ⟨t__law_like, by simp [tab], rfl, rfl, rfl⟩
    · exact ⟨t__law_sums, by simp [tab], rfl, rfl, rfl⟩
    · exact ⟨t__law_hours, by simp [tab], rfl, rfl, rfl⟩
    · exact ⟨t__law_is_order, by simp [tab], rfl, rfl, rfl⟩
    · exact ⟨t__law_rows, by simp [tab], rfl, rfl, rfl⟩
    · exact ⟨t__law_by_rule, by simp [tab], rfl, rfl, rfl⟩
    · exact ⟨t__law_mixed, by simp [tab], rfl, rfl, rfl⟩
    · exact ⟨t__law_right, by simp [tab], rfl, rfl, rfl⟩
    · exact ⟨t__law_errors, by simp [tab], rfl, rfl, rfl⟩
    · exact ⟨t_law, by simp [tab], rfl, rfl, rfl⟩
  covM := fun c m n h => absurd (mem_con2 h) (by simp [Γ])
  covI := fun c n h => absurd (mem_con2 h) (by simp [Γ])
  lamN := fun t ht hl => by
    simp only [tab, List.mem_cons, List.not_mem_nil, or_false] at ht
    rcases ht with rfl | rfl | rfl | rfl | rfl | rfl | rfl | rfl | rfl | rfl | rfl | rfl | rfl | rfl | rfl | rfl | rfl | rfl | rfl | rfl | rfl | rfl | rfl | rfl | rfl | rfl | rfl | rfl
    · rfl
    · rfl
    · rfl
    · rfl
    · rfl
    · rfl
    · rfl
    · rfl
    · rfl
    · rfl
    · rfl
    · rfl
    · rfl
    · rfl
    · rfl
    · rfl
    · rfl
    · rfl
    · rfl
    · rfl
    · rfl
    · rfl
    · rfl
    · rfl
    · rfl
    · rfl
    · rfl
    · rfl
  hcov := fun f hf => by
    have hf := List.contains_iff_mem.mp hf
    simp only [Γ, List.mem_cons, List.not_mem_nil, or_false] at hf
    subst hf
    · exact ⟨h__law_fails, by simp [hts], rfl, rfl⟩
  hot := rfl
  isx := rfl
  lams := fun t ht hl => by
    simp only [tab, List.mem_cons, List.not_mem_nil, or_false] at ht
    rcases ht with rfl | rfl | rfl | rfl | rfl | rfl | rfl | rfl | rfl | rfl | rfl | rfl | rfl | rfl | rfl | rfl | rfl | rfl | rfl | rfl | rfl | rfl | rfl | rfl | rfl | rfl | rfl | rfl
    · cases hl
    · cases hl
    · cases hl
    · cases hl
    · cases hl
    · cases hl
    · cases hl
    · cases hl
    · cases hl
    · cases hl
    · cases hl
    · cases hl
    · cases hl
    · cases hl
    · cases hl
    · cases hl
    · cases hl
    · cases hl
    · cases hl
    · cases hl
    · cases hl
    · cases hl
    · cases hl
    · cases hl
    · cases hl
    · exact List.mem_of_elem_eq_true (by decide +kernel)
    · exact List.mem_of_elem_eq_true (by decide +kernel)
    · cases hl
  hin := fun t ht => by
    simp only [hts, List.mem_cons, List.not_mem_nil, or_false] at ht
    subst ht
    · rfl
end Law_k64

/-! K64p1: bodies at two benches one behind the other, in plain words. -/
namespace K64
/-- hours of a body at either bench -/
abbrev J := Int × Int
def step (s : Int × Int) (p : J) : Int × Int := (s.1 + p.1, (if s.2 > s.1 + p.1 then s.2 else s.1 + p.1) + p.2)
/-- the hours in which all are done -/
def G (l : List J) (s : Int × Int) : Int := (l.foldl step s).2
def hrs (l : List J) : Int := G l (0, 0)
theorem G_nil {s : Int × Int} : G [] s = s.2 := rfl
theorem G_cons {p : J} {l : List J} {s : Int × Int} : G (p :: l) s = G l (step s p) := rfl
theorem G_mono : ∀ {l : List J} {f s t : Int}, s ≤ t → G l (f, s) ≤ G l (f, t)
  | [], f, s, t, h => h
  | p :: l, f, s, t, h => by
    rw [G_cons, G_cons]
    refine G_mono (l := l) ?_
    simp only []
    split <;> split <;> omega
/-- p ahead of q is no worse -/
theorem G_swap {p q : J} {l : List J} {s : Int × Int} (h : min p.1 q.2 ≤ min q.1 p.2) : G (p :: q :: l) s ≤ G (q :: p :: l) s := by
  rw [G_cons, G_cons, G_cons, G_cons]
  have e : (step (step s p) q).1 = (step (step s q) p).1 := by
    simp only [step]
    omega
  have e2 : step (step s p) q = ((step (step s q) p).1, (step (step s p) q).2) := by rw [← e]
  rw [e2]
  refine G_mono (l := l) ?_
  simp only [step]
  split <;> split <;> split <;> split <;> omega
/-! ### the greatest of the sums -/
def sb (l : List J) : Int := (l.map (·.2)).sum
def sumsL (f : Int) : List J → List Int
  | [] => []
  | p :: l => (f + p.1 + sb (p :: l)) :: sumsL (f + p.1) l
theorem G_max : ∀ {l : List J} {f s : Int}, G l (f, s) ∈ (s + sb l) :: sumsL f l ∧ ∀ y ∈ (s + sb l) :: sumsL f l, y ≤ G l (f, s)
  | [], f, s => by simp [G_nil, sb, sumsL]
  | p :: l, f, s => by
    have e : sb (p :: l) = p.2 + sb l := by simp [sb]
    have ih := G_max (l := l) (f := f + p.1) (s := (if s > f + p.1 then s else f + p.1) + p.2)
    rw [G_cons]
    have es : step (f, s) p = (f + p.1, (if s > f + p.1 then s else f + p.1) + p.2) := rfl
    rw [es]
    obtain ⟨h1, h2⟩ := ih
    generalize G l (f + p.1, (if s > f + p.1 then s else f + p.1) + p.2) = g at h1 h2
    have h3 := h2 _ List.mem_cons_self
    refine ⟨?_, fun y hy => ?_⟩
    · rcases List.mem_cons.mp h1 with h1 | h1
      · rw [h1]
        unfold sumsL
        rw [e]
        split
        · exact List.mem_cons.mpr (.inl (by omega))
        · exact List.mem_cons.mpr (.inr (List.mem_cons.mpr (.inl (by omega))))
      · exact List.mem_cons_of_mem _ (by unfold sumsL; exact List.mem_cons_of_mem _ h1)
    · unfold sumsL at hy
      rw [e] at hy
      rcases List.mem_cons.mp hy with rfl | hy
      · split at h3 <;> omega
      · rcases List.mem_cons.mp hy with rfl | hy
        · split at h3 <;> omega
        · exact h2 y (List.mem_cons_of_mem _ hy)
theorem hrs_max {l : List J} (h0 : ∀ p ∈ l, 0 ≤ p.1) (hn : l ≠ []) : hrs l ∈ sumsL 0 l ∧ ∀ y ∈ sumsL 0 l, y ≤ hrs l := by
  obtain ⟨h1, h2⟩ := G_max (l := l) (f := 0) (s := 0)
  refine ⟨?_, fun y hy => h2 y (List.mem_cons_of_mem _ hy)⟩
  rcases List.mem_cons.mp h1 with h1 | h1
  · cases l with
    | nil => exact absurd rfl hn
    | cons p l =>
      have hp := h0 p List.mem_cons_self
      have h3 := h2 (0 + p.1 + sb (p :: l)) (List.mem_cons_of_mem _ List.mem_cons_self)
      have e : G (p :: l) (0, 0) = 0 + p.1 + sb (p :: l) := by omega
      unfold hrs
      rw [e]
      exact List.mem_cons_self
  · exact h1
/-- the sum at a place -/
def sumAt (l : List J) (k : Nat) : Int := ((l.take (k + 1)).map (·.1)).sum + ((l.drop k).map (·.2)).sum
theorem sumsL_eq : ∀ (l : List J) (f : Int), sumsL f l = (List.range l.length).map fun k => f + sumAt l k
  | [], f => rfl
  | p :: l, f => by
    rw [List.length_cons, List.range_succ_eq_map, List.map_cons, List.map_map, sumsL, sumsL_eq l (f + p.1)]
    congr 1
    · simp [sumAt, sb]
      omega
    · refine List.map_congr_left fun k _ => ?_
      simp [sumAt, Function.comp]
      omega
/-- the sums are no greater than all hours together -/
theorem G_le : ∀ {l : List J} {f s : Int} {c : Int}, (∀ p ∈ l, 0 ≤ p.1 ∧ p.1 ≤ c ∧ 0 ≤ p.2 ∧ p.2 ≤ c) → 0 ≤ s → 0 ≤ f → 0 ≤ G l (f, s) ∧ G l (f, s) ≤ max f s + 2 * c * l.length
  | [], f, s, c, _, hs, hf => by
    rw [G_nil]
    simp
    omega
  | p :: l, f, s, c, h, hs, hf => by
    have hp := h p List.mem_cons_self
    rw [G_cons]
    have es : step (f, s) p = (f + p.1, (if s > f + p.1 then s else f + p.1) + p.2) := rfl
    rw [es]
    obtain ⟨h1, h2⟩ := G_le (l := l) (f := f + p.1) (s := (if s > f + p.1 then s else f + p.1) + p.2) (c := c) (fun q hq => h q (List.mem_cons_of_mem _ hq)) (by split <;> omega) (by omega)
    refine ⟨h1, ?_⟩
    have e : 2 * c * ((p :: l).length : Nat) = 2 * c * (l.length : Nat) + 2 * c := by
      rw [List.length_cons]
      push_cast
      rw [Int.mul_add, Int.mul_one]
    rw [e]
    have h3 : max (f + p.1) ((if s > f + p.1 then s else f + p.1) + p.2) ≤ max f s + 2 * c := by
      split <;> omega
    omega
/-! ### an order of places -/
section
variable {α : Type} {key : α → α → Bool} {job : α → J}
/-- put in its place -/
def ins (key : α → α → Bool) (p : α) : List α → List α
  | [] => [p]
  | q :: l => if key p q then p :: q :: l else q :: ins key p l
def isort (key : α → α → Bool) : List α → List α
  | [] => []
  | p :: l => ins key p (isort key l)
theorem ins_perm : ∀ (p : α) (l : List α), (ins key p l).Perm (p :: l)
  | p, [] => .refl _
  | p, q :: l => by
    unfold ins
    split
    · exact .refl _
    · exact ((ins_perm p l).cons q).trans (.swap p q l)
theorem isort_perm : ∀ l : List α, (isort key l).Perm l
  | [] => .refl _
  | p :: l => (ins_perm p _).trans ((isort_perm l).cons p)
theorem ins_sorted (ht : ∀ a b c, key a b = true → key b c = true → key a c = true) (hn : ∀ a b, (key a b || key b a) = true) : ∀ {p : α} {l : List α}, l.Pairwise (fun a b => key a b = true) → (ins key p l).Pairwise fun a b => key a b = true
  | p, [], _ => by simp [ins]
  | p, q :: l, h => by
    unfold ins
    obtain ⟨h1, h2⟩ := List.pairwise_cons.mp h
    split
    · rename_i hk
      exact List.pairwise_cons.mpr ⟨fun a ha => by
        rcases List.mem_cons.mp ha with rfl | ha
        · exact hk
        · exact ht _ _ _ hk (h1 a ha), h⟩
    · rename_i hk
      refine List.pairwise_cons.mpr ⟨fun a ha => ?_, ins_sorted ht hn h2⟩
      rcases List.mem_cons.mp ((ins_perm p l).mem_iff.mp ha) with rfl | ha
      · have := hn a q
        simpa [hk] using this
      · exact h1 a ha
theorem isort_sorted (ht : ∀ a b c, key a b = true → key b c = true → key a c = true) (hn : ∀ a b, (key a b || key b a) = true) : ∀ l : List α, (isort key l).Pairwise fun a b => key a b = true
  | [] => .nil
  | p :: l => ins_sorted ht hn (isort_sorted ht hn l)
theorem G_ins (hk : ∀ a b, key a b = true → min (job a).1 (job b).2 ≤ min (job b).1 (job a).2) (hn : ∀ a b, (key a b || key b a) = true) : ∀ {p : α} {l : List α} {s : Int × Int}, G ((ins key p l).map job) s ≤ G ((p :: l).map job) s
  | p, [], s => Int.le_refl _
  | p, q :: l, s => by
    unfold ins
    split
    · exact Int.le_refl _
    · rename_i h
      have hq : key q p = true := by
        have := hn p q
        simpa [h] using this
      refine Int.le_trans ?_ (G_swap (p := job q) (q := job p) (l := l.map job) (s := s) (hk q p hq))
      rw [List.map_cons, G_cons, G_cons]
      exact G_ins hk hn
theorem G_isort (hk : ∀ a b, key a b = true → min (job a).1 (job b).2 ≤ min (job b).1 (job a).2) (hn : ∀ a b, (key a b || key b a) = true) : ∀ {l : List α} {s : Int × Int}, G ((isort key l).map job) s ≤ G (l.map job) s
  | [], s => Int.le_refl _
  | p :: l, s => by
    refine Int.le_trans (G_ins hk hn) ?_
    rw [List.map_cons, List.map_cons, G_cons, G_cons]
    exact G_isort hk hn
end
/-! ### the order by the rule -/
def job (bs : List J) (i : Nat) : J := bs.getD i (0, 0)
def isA (bs : List J) (i : Nat) : Bool := decide ((job bs i).1 < (job bs i).2)
def kA (bs : List J) (i j : Nat) : Bool := decide ((job bs i).1 < (job bs j).1 ∨ (job bs i).1 = (job bs j).1 ∧ (i : Int) ≤ (j : Int))
def kB (bs : List J) (i j : Nat) : Bool := decide (-(job bs i).2 < -(job bs j).2 ∨ -(job bs i).2 = -(job bs j).2 ∧ (i : Int) ≤ (j : Int))
def key (bs : List J) (i j : Nat) : Bool := if isA bs i then (if isA bs j then kA bs i j else true) else (if isA bs j then false else kB bs i j)
section
variable {bs : List J}
theorem kA_trans (a b c : Nat) (h1 : kA bs a b = true) (h2 : kA bs b c = true) : kA bs a c = true := by
  unfold kA at *
  simp only [decide_eq_true_eq] at *
  omega
theorem kB_trans (a b c : Nat) (h1 : kB bs a b = true) (h2 : kB bs b c = true) : kB bs a c = true := by
  unfold kB at *
  simp only [decide_eq_true_eq] at *
  omega
theorem kA_total (a b : Nat) : (kA bs a b || kA bs b a) = true := by
  unfold kA
  simp only [Bool.or_eq_true, decide_eq_true_eq]
  omega
theorem kB_total (a b : Nat) : (kB bs a b || kB bs b a) = true := by
  unfold kB
  simp only [Bool.or_eq_true, decide_eq_true_eq]
  omega
theorem key_trans (a b c : Nat) (h1 : key bs a b = true) (h2 : key bs b c = true) : key bs a c = true := by
  unfold key at *
  cases ha : isA bs a <;> cases hb : isA bs b <;> cases hc : isA bs c <;> simp only [ha, hb, hc, if_true, if_false, Bool.false_eq_true] at h1 h2 ⊢ <;> first | exact kA_trans _ _ _ h1 h2 | exact kB_trans _ _ _ h1 h2
theorem key_total (a b : Nat) : (key bs a b || key bs b a) = true := by
  unfold key
  cases ha : isA bs a <;> cases hb : isA bs b <;> simp only [if_true, if_false, Bool.false_eq_true] <;> first | rfl | exact kA_total _ _ | exact kB_total _ _
theorem key_anti {a b : Nat} (h1 : key bs a b = true) (h2 : key bs b a = true) : a = b := by
  unfold key kA kB at *
  cases ha : isA bs a <;> cases hb : isA bs b <;> simp only [ha, hb, if_true, if_false, Bool.false_eq_true, decide_eq_true_eq] at h1 h2 <;> omega
theorem key_min (a b : Nat) (h : key bs a b = true) : min (job bs a).1 (job bs b).2 ≤ min (job bs b).1 (job bs a).2 := by
  unfold key kA kB isA at h
  by_cases ha : (job bs a).1 < (job bs a).2 <;> by_cases hb : (job bs b).1 < (job bs b).2 <;> simp only [ha, hb, decide_true, decide_false, if_true, if_false, Bool.false_eq_true, decide_eq_true_eq] at h <;> omega
theorem uniq {l m : List Nat} (h : l.Pairwise fun a b => key bs a b = true) (g : m.Pairwise fun a b => key bs a b = true) (p : l.Perm m) : l = m := List.Perm.eq_of_pairwise (fun a b _ _ h1 h2 => key_anti h1 h2) h g p
def best (bs : List J) : List Nat := ((List.range bs.length).filter (isA bs)).mergeSort (kA bs) ++ ((List.range bs.length).filter fun i => !isA bs i).mergeSort (kB bs)
theorem best_perm : (best bs).Perm (List.range bs.length) := ((List.mergeSort_perm _ _).append (List.mergeSort_perm _ _)).trans (List.filter_append_perm _ _)
theorem best_sorted : (best bs).Pairwise fun a b => key bs a b = true := by
  have mA : ∀ i ∈ ((List.range bs.length).filter (isA bs)).mergeSort (kA bs), isA bs i = true := fun i hi => (List.mem_filter.mp (List.mem_mergeSort.mp hi)).2
  have mB : ∀ i ∈ ((List.range bs.length).filter fun i => !isA bs i).mergeSort (kB bs), isA bs i = false := fun i hi => by simpa using (List.mem_filter.mp (List.mem_mergeSort.mp hi)).2
  refine List.pairwise_append.mpr ⟨?_, ?_, fun a ha b hb => ?_⟩
  · refine (List.pairwise_mergeSort kA_trans kA_total _).imp_of_mem fun {a b} ha hb h => ?_
    simp only [key, mA a ha, mA b hb, if_true]
    exact h
  · refine (List.pairwise_mergeSort kB_trans kB_total _).imp_of_mem fun {a b} ha hb h => ?_
    simp only [key, mB a ha, mB b hb, if_false, Bool.false_eq_true]
    exact h
  · simp only [key, mA a ha, mB b hb, if_true, if_false, Bool.false_eq_true]
theorem best_opt {l : List Nat} (p : l.Perm (List.range bs.length)) : hrs ((best bs).map (job bs)) ≤ hrs (l.map (job bs)) := by
  have e : isort (key bs) l = best bs := uniq (isort_sorted key_trans key_total l) best_sorted ((isort_perm l).trans (p.trans best_perm.symm))
  rw [← e]
  exact G_isort key_min key_total
/-! ### one after the other -/
/-- the first of the least ones -/
def mnI (k : Nat → Nat → Bool) (i : Nat) (l : List Nat) : Nat := l.foldl (fun a y => if !k a y then y else a) i
theorem mnI_min {k : Nat → Nat → Bool} (ht : ∀ a b c, k a b = true → k b c = true → k a c = true) (hn : ∀ a b, (k a b || k b a) = true) : ∀ (l : List Nat) (i : Nat), mnI k i l ∈ i :: l ∧ ∀ j ∈ i :: l, k (mnI k i l) j = true
  | [], i => by
    have := hn i i
    simp [mnI] at this ⊢
    exact this
  | y :: l, i => by
    have e : mnI k i (y :: l) = mnI k (if !k i y then y else i) l := rfl
    rw [e]
    obtain ⟨h1, h2⟩ := mnI_min ht hn l (if !k i y then y else i)
    have h3 := h2 _ List.mem_cons_self
    refine ⟨?_, fun j hj => ?_⟩
    · rcases List.mem_cons.mp h1 with h1 | h1
      · rw [h1]
        split <;> simp
      · exact List.mem_cons_of_mem _ (List.mem_cons_of_mem _ h1)
    · rcases List.mem_cons.mp hj with rfl | hj
      · cases hk : k j y with
        | true => simp only [hk, Bool.not_true, Bool.false_eq_true, if_false] at h3 ⊢; exact h3
        | false =>
          simp only [hk, Bool.not_false, if_true] at h3 ⊢
          have := hn j y
          rw [hk, Bool.false_or] at this
          exact ht _ _ _ h3 this
      · rcases List.mem_cons.mp hj with rfl | hj
        · cases hk : k i j with
          | true => simp only [hk, Bool.not_true, Bool.false_eq_true, if_false] at h3 ⊢; exact ht _ _ _ h3 hk
          | false => simp only [hk, Bool.not_false, if_true] at h3 ⊢; exact h3
        · exact h2 j (List.mem_cons_of_mem _ hj)
/-- what comes next by the rule -/
def pick (bs : List J) (left : List Nat) : Nat := match left.filter (isA bs) with
  | i :: l => mnI (kA bs) i l
  | [] => match left.filter fun i => !isA bs i with
    | i :: l => mnI (kB bs) i l
    | [] => 0
theorem pick_min {left : List Nat} (h : left ≠ []) : pick bs left ∈ left ∧ ∀ j ∈ left, key bs (pick bs left) j = true := by
  unfold pick
  split
  · rename_i i l hl
    obtain ⟨h1, h2⟩ := mnI_min (k := kA bs) kA_trans kA_total l i
    rw [← hl] at h1 h2
    have h3 := List.mem_filter.mp h1
    refine ⟨h3.1, fun j hj => ?_⟩
    cases hj2 : isA bs j with
    | true =>
      simp only [key, h3.2, hj2, if_true]
      exact h2 j (List.mem_filter.mpr ⟨hj, hj2⟩)
    | false => simp only [key, h3.2, hj2, if_true, if_false, Bool.false_eq_true]
  · rename_i h0
    have hno : ∀ j ∈ left, isA bs j = false := fun j hj => by
      cases q : isA bs j with
      | false => rfl
      | true =>
        have : j ∈ left.filter (isA bs) := List.mem_filter.mpr ⟨hj, q⟩
        rw [h0] at this
        cases this
    split
    · rename_i i l hl
      obtain ⟨h1, h2⟩ := mnI_min (k := kB bs) kB_trans kB_total l i
      rw [← hl] at h1 h2
      have h3 := List.mem_filter.mp h1
      refine ⟨h3.1, fun j hj => ?_⟩
      simp only [key, hno _ h3.1, hno j hj, if_false, Bool.false_eq_true]
      exact h2 j (List.mem_filter.mpr ⟨hj, by simp [hno j hj]⟩)
    · rename_i h1
      cases left with
      | nil => exact absurd rfl h
      | cons i l =>
        have : i ∈ (i :: l).filter fun i => !isA bs i := List.mem_filter.mpr ⟨List.mem_cons_self, by simp [hno i List.mem_cons_self]⟩
        rw [h1] at this
        cases this
/-- after so many turns -/
def sel (bs : List J) : Nat → List Nat × List Nat
  | 0 => ([], List.range bs.length)
  | t + 1 => ((sel bs t).1 ++ [pick bs (sel bs t).2], (sel bs t).2.filter fun i => decide (i ≠ pick bs (sel bs t).2))
structure SelOk (bs : List J) (t : Nat) : Prop where
  perm : ((sel bs t).1 ++ (sel bs t).2).Perm (List.range bs.length)
  len : (sel bs t).1.length = t
  srt : (sel bs t).1.Pairwise fun a b => key bs a b = true
  le : ∀ i ∈ (sel bs t).1, ∀ j ∈ (sel bs t).2, key bs i j = true
theorem filter_ne_perm {l : List Nat} (h : l.Nodup) {a : Nat} (ha : a ∈ l) : (a :: l.filter fun i => decide (i ≠ a)).Perm l := by
  induction l with
  | nil => cases ha
  | cons b l ih =>
    obtain ⟨h1, h2⟩ := List.nodup_cons.mp h
    by_cases e : b = a
    · subst e
      rw [List.filter_cons]
      simp only [ne_eq, not_true, decide_false, Bool.false_eq_true, if_false]
      have : l.filter (fun i => decide (¬ i = b)) = l := List.filter_eq_self.mpr fun i hi => by
        simp only [decide_eq_true_eq]
        exact fun e => h1 (e ▸ hi)
      rw [this]
    · have ha2 : a ∈ l := (List.mem_cons.mp ha).resolve_left fun q => e q.symm
      rw [List.filter_cons]
      simp only [ne_eq, e, not_false_iff, decide_true, if_true]
      exact (List.Perm.swap b a _).trans ((ih h2 ha2).cons b)
theorem sel_ok {bs : List J} : ∀ t, t ≤ bs.length → SelOk bs t
  | 0, _ => ⟨.refl _, rfl, .nil, fun i hi => nomatch hi⟩
  | t + 1, ht => by
    obtain ⟨h1, h2, h3, h4⟩ := sel_ok (bs := bs) t (by omega)
    have hl : (sel bs t).2 ≠ [] := fun e => by
      have := h1.length_eq
      rw [e, List.append_nil, h2, List.length_range] at this
      omega
    obtain ⟨p1, p2⟩ := pick_min (bs := bs) hl
    have nd : (sel bs t).2.Nodup := (List.nodup_append.mp (h1.nodup_iff.mpr List.nodup_range)).2.1
    refine ⟨?_, ?_, ?_, ?_⟩
    · show (((sel bs t).1 ++ [pick bs (sel bs t).2]) ++ _).Perm _
      rw [List.append_assoc]
      exact ((filter_ne_perm nd p1).append_left _).trans h1
    · show ((sel bs t).1 ++ [_]).length = t + 1
      simp [h2]
    · refine List.pairwise_append.mpr ⟨h3, by simp, fun a ha b hb => ?_⟩
      rw [List.mem_singleton.mp hb]
      exact h4 a ha _ p1
    · intro i hi j hj
      have hj := (List.mem_filter.mp hj).1
      rcases List.mem_append.mp hi with hi | hi
      · exact h4 i hi j hj
      · rw [List.mem_singleton.mp hi]
        exact p2 j hj
theorem sel_best : (sel bs bs.length).1 = best bs := by
  obtain ⟨h1, h2, h3, h4⟩ := sel_ok (bs := bs) bs.length (Nat.le_refl _)
  have e : (sel bs bs.length).2 = [] := by
    have := h1.length_eq
    rw [List.length_append, h2, List.length_range] at this
    exact List.length_eq_zero_iff.mp (by omega)
  rw [e, List.append_nil] at h1
  exact uniq h3 best_sorted (h1.trans best_perm.symm)
end
/-! ### all orders -/
def rows (n : Nat) : Nat → List (List Nat)
  | 0 => [[]]
  | t + 1 => (rows n t).flatMap fun r => ((List.range n).filter fun a => decide (a ∉ r)).map fun a => r ++ [a]
theorem mem_rows {n : Nat} : ∀ {t : Nat} {r : List Nat}, r ∈ rows n t ↔ r.length = t ∧ r.Nodup ∧ ∀ a ∈ r, a < n
  | 0, r => by
    simp only [rows, List.mem_singleton]
    refine ⟨fun h => by subst h; simp, fun h => List.length_eq_zero_iff.mp h.1⟩
  | t + 1, r => by
    simp only [rows, List.mem_flatMap, List.mem_map, List.mem_filter, List.mem_range, decide_eq_true_eq]
    refine ⟨fun ⟨q, h1, a, ⟨h2, h3⟩, h4⟩ => ?_, fun ⟨h1, h2, h3⟩ => ?_⟩
    · obtain ⟨g1, g2, g3⟩ := mem_rows.mp h1
      subst h4
      refine ⟨by simp [g1], ?_, fun b hb => ?_⟩
      · refine List.nodup_append.mpr ⟨g2, by simp, fun x hx y hy e => ?_⟩
        rw [List.mem_singleton.mp hy] at e
        exact h3 (e ▸ hx)
      · rcases List.mem_append.mp hb with hb | hb
        · exact g3 b hb
        · rw [List.mem_singleton.mp hb]; exact h2
    · have hne : r ≠ [] := fun e => by rw [e] at h1; cases h1
      have e := List.dropLast_concat_getLast hne
      rw [← e] at h2
      obtain ⟨g1, _, g3⟩ := List.nodup_append.mp h2
      refine ⟨r.dropLast, mem_rows.mpr ⟨by rw [List.length_dropLast]; omega, g1, fun a ha => h3 a (List.dropLast_subset r ha)⟩, r.getLast hne, ⟨h3 _ (List.getLast_mem hne), fun q => ?_⟩, e⟩
      exact g3 _ q _ List.mem_cons_self rfl
/-- an order of n places -/
theorem perm_of {n : Nat} {r : List Nat} (h1 : r.length = n) (h2 : r.Nodup) (h3 : ∀ a ∈ r, a < n) : r.Perm (List.range n) := by
  refine (List.perm_ext_iff_of_nodup h2 List.nodup_range).mpr fun a => ⟨fun h => List.mem_range.mpr (h3 a h), fun h => ?_⟩
  have := List.mem_range.mp h
  have sub : ∀ (l m : List Nat), l.Nodup → (∀ x ∈ l, x ∈ m) → l.length ≤ m.length := fun l => by
    induction l with
    | nil => intro m _ _; exact Nat.zero_le _
    | cons x l ih =>
      intro m hn hs
      obtain ⟨n1, n2⟩ := List.nodup_cons.mp hn
      have q := ih (m.erase x) n2 fun y hy => (List.mem_erase_of_ne fun e => n1 (by rw [← e]; exact hy)).mpr (hs y (List.mem_cons_of_mem _ hy))
      rw [List.length_erase_of_mem (hs x List.mem_cons_self)] at q
      have : 0 < m.length := List.length_pos_of_mem (hs x List.mem_cons_self)
      simp only [List.length_cons]
      omega
  by_cases ha : a ∈ r
  · exact ha
  · have q := sub (a :: r) (List.range n) (List.nodup_cons.mpr ⟨ha, h2⟩) fun x hx => by
      rcases List.mem_cons.mp hx with rfl | hx
      · exact h
      · exact List.mem_range.mpr (h3 x hx)
    rw [List.length_range, List.length_cons] at q
    omega
end K64

namespace Law_k64
open PySem PySem.Spec PyProof.Rows L2 Den K64
local macro_rules | `(tactic| walk_at "go") => `(tactic| simp only [callM, runB, FT.fn, startD, ev_var, ev_num, ev_txt, ev_bl, ev_non, ev_glo, ev_con, ev_bin, ev_neg, ev_not, ev_one, ev_and, ev_or, ev_cmp, ev_chn, ev_ite, ev_cal0, ev_cal, ev_cav, ev_bif, ev_isi, ev_nil, ev_cons, ev_tup, ev_lst, ev_cel, ev_idx, ev_sli, ev_nop, ev_err, ev_isx, ev_joi, ev_rng1, ev_rng2, ev_itr, ev_itl, ev_zip, ev_zip3, ev_fld, ev_mth0, ev_mth, ev_mk0, ev_pop0, ev_rev, ev_rgl1, ev_rgl2, ev_lset, ev_popi, ev_newb, ev_newl, ev_enm, ex_pass, ex_nil, ex_cons, ex_set, ex_tgt, ex_par, ex_par3, ex_ife, ex_whl, ex_ret, ex_retn, ex_exp, ex_brk, ex_cnt, ex_rai, ex_frz, ex_app, ex_sub, ex_fset, ex_fs3, ex_for, evT, asg, Option.bind_some, ev_cmpn, ev_cmp2, ev_cmpc, wipeD, gcal, gcon, bind_ok, bind_er, bind_no, calm_ok, b_add, b_sub, i_t0, i_t1, c_lt, c_le, c_gt, c_ge, c_eq, c_ne, t_bl, get0, gets, List.length_cons, List.length_nil, List.map_cons, List.map_nil, List.replicate, List.cons_append, List.nil_append, List.set_cons_zero, List.set_cons_succ, List.append_nil, if_true, if_false, Nat.reduceAdd, Nat.reduceSub, Nat.sub_self, Nat.zero_add, reduceIte, Bool.false_eq_true, bgcd, babs, bint, fits, Nat.reduceLeDiff, decide_true, decide_false, Bool.not_true, Bool.not_false, i_c0, i_c1, s_c0, s_c1, blen, tlen, p18, *])
local macro_rules | `(tactic| walk_at "run") => `(tactic| (rw [run_succ]; walk_at "go"))

/-! ### bodies, orders -/
abbrev pD (p : J) : D := .tup [.int p.1, .int p.2]
def bsD (bs : List J) : D := .tup (bs.map pD)
def nx (l : List Nat) : List Int := l.map fun (i : Nat) => (i : Int)
def oD (l : List Nat) : D := .tup (il (nx l))
structure Good (bs : List J) : Prop where
  lo : 1 ≤ bs.length
  hi : bs.length ≤ 10
  val : ∀ p ∈ bs, 0 ≤ p.1 ∧ p.1 ≤ 1000 ∧ 0 ≤ p.2 ∧ p.2 ≤ 1000
theorem at_whole : M.at_ "is_whole" = some is_wholeFn := by rfl
theorem at_tuple : M.at_ "is_tuple_of" = some is_tuple_ofFn := by rfl
theorem at_wholes : M.at_ "are_wholes" = some are_wholesFn := by rfl
theorem at_needw : M.at_ "need_whole" = some need_wholeFn := by rfl
theorem bs_len (bs : List J) (μ : Mem) : bifD .len [bsD bs] μ = .ok (.int bs.length) μ := by
  show bifD .len [.tup (bs.map pD)] μ = _
  rw [tlen, List.length_map]
theorem i_bs {bs : List J} {i : Nat} (h : i < bs.length) (μ : Mem) : idxD (bsD bs) (.int (i : Int)) μ = .ok (pD (job bs i)) μ := by
  have e := @i_tup μ (bs.map pD) (i : Int) (by omega) (by simp; omega)
  show idxD (.tup (bs.map pD)) (.int (i : Int)) μ = _
  rw [e]
  simp [job, List.getD_eq_getElem?_getD, List.getElem?_eq_getElem h]
theorem w_bs (bs : List J) : walkD (bsD bs) = some (bs.map pD) := rfl
theorem w_o (l : List Nat) : walkD (oD l) = some (il (nx l)) := rfl
theorem r_need (k : Nat) (μ : Mem) {bs : List J} (g : Good bs) : run M 0 (k + 2) "need_bodies" [bsD bs] μ = .ok .non μ := by
  have hat : M.at_ "need_bodies" = some t_need_bodies.fn := by rfl
  simp only [t_need_bodies, c_need_bodies] at hat
  have e0 : M.con.lookup ("BODIES" : Str) = some (.int 10) := by rfl
  have e00 : M.con.lookup ("HOURS" : Str) = some (.int 1000) := by rfl
  have e1 := r_is_tuple (W := 0) at_tuple k μ (bs.map pD) 1 10
  have e2 : (decide ((1 : Int) ≤ ((bs.map pD).length : Int)) && decide (((bs.map pD).length : Int) ≤ 10)) = true := by
    have := g.lo
    have := g.hi
    simp
    omega
  rw [e2] at e1
  have e1 : run M 0 (k + 1) "is_tuple_of" [bsD bs, .int 1, .int 10] μ = .ok (.bl true) μ := e1
  have e3 : compL (turnT (gAt M 0 (k + 1)) (.nm 1) .nop (.cal "is_tuple_of" (.cons (.var 1) (.cons (.num 2) (.cons (.num 2) .nil)))) [some (bsD bs), none, none]) (bs.map pD) [] μ = .ok ((bs.map fun _ => true).map D.bl) μ := by
    rw [comp_mm pD (fun _ => D.bl true) (fun p hp => ?_) (by have := g.hi; simp; omega)]
    · simp
    · have e := r_is_tuple (W := 0) at_tuple k μ [.int p.1, .int p.2] 2 2
      have e' : (decide ((2 : Int) ≤ (([D.int p.1, .int p.2]).length : Int)) && decide ((([D.int p.1, .int p.2]).length : Int) ≤ 2)) = true := rfl
      rw [e'] at e
      rw [turnT_nm, turnD_nop]
      clear e' hp e2
      walk_at "go"
  have e4 := all_bls (bs.map fun _ => true) μ
  have e5 : (bs.map fun _ => true).all id = true := by simp
  rw [e5] at e4
  have e6 : compM (turn2 (gAt M 0 (k + 1)) (.nm 1) .nop (.nm 2) (.itr (.var 1)) .nop (.cal "is_whole" (.cons (.var 2) (.cons (.num 0) (.cons (.con "HOURS") .nil)))) [some (bsD bs), none, none]) (bs.map pD) [] μ = .ok ((bs.flatMap fun _ => [true, true]).map D.bl) μ := by
    rw [compM_mm pD (fun _ => [D.bl true, D.bl true]) (fun p hp acc hl => ?_) (by have := g.hi; simp [List.map_const']; omega)]
    · rw [List.nil_append, List.map_flatMap]
      rfl
    · refine (turn2_map (ρ' := [some (bsD bs), some (pD p), none]) (items1 := [.int p.1, .int p.2]) (fun _ => D.bl true) rfl ?_ ?_ (by simpa using hl)).trans rfl
      · simp only [ev_itr, ev_var, get0, gets, bind_ok, walkD]
      · intro e he
        have hv := g.val p hp
        obtain ⟨v, rfl, hv⟩ : ∃ v, e = .int v ∧ 0 ≤ v ∧ v ≤ 1000 := by
          simp only [List.mem_cons, List.not_mem_nil, or_false] at he
          rcases he with rfl | rfl
          · exact ⟨_, rfl, by omega, by omega⟩
          · exact ⟨_, rfl, by omega, by omega⟩
        have e1 := r_is_whole (W := 0) at_whole k μ v 0 1000
        have e2 : (decide (0 ≤ v) && decide (v ≤ 1000)) = true := by simp [hv]
        rw [e2] at e1
        rw [turnT_nm, turnD_nop]
        clear hv he hl hp e2
        simp only [T.slots, wipeD]
        walk_at "go"
  have e7 := all_bls (bs.flatMap fun _ => [true, true]) μ
  have e8 : (bs.flatMap fun _ => [true, true]).all id = true := by simp
  rw [e8] at e7
  have e9 := w_bs bs
  clear e2 e5 e8 g
  generalize bsD bs = B at *
  walk_at "run"
/-! ### the hours of an order -/
def envH (B o : D) (s : (Int × Int) × Option D) : DEnv := [some B, some o, some (.int s.1.1), some (.int s.1.2), s.2]
theorem fold_two {bs : List J} : ∀ (l : List Nat) (s : Int × Int) (x : Option D), (l.foldl (fun (s : (Int × Int) × Option D) (i : Nat) => (K64.step s.1 (job bs i), some (D.int (i : Int)))) (s, x)).1 = (l.map (job bs)).foldl K64.step s
  | [], _, _ => rfl
  | i :: l, s, x => fold_two l _ _
theorem il_nl (l : List Nat) : il (nx l) = l.map fun (i : Nat) => D.int (i : Int) := by
  unfold il nx
  rw [List.map_map]
  rfl
theorem r_hours_in (k : Nat) (μ : Mem) {bs : List J} {l : List Nat} (hl : ∀ i ∈ l, i < bs.length) : run M 0 (k + 1) "hours_in" [bsD bs, oD l] μ = .ok (.int (hrs (l.map (job bs)))) μ := by
  have hat : M.at_ "hours_in" = some t_hours_in.fn := by rfl
  simp only [t_hours_in, c_hours_in] at hat
  have e1 := w_o l
  have e2 := for_fold (μ := μ) (turn := forT (gAt M 0 k) (.nm 4) (.cons (.set 2 (.bin .Add (.var 2) (.idx (.idx (.var 0) (.var 4)) (.num 0)))) (.cons (.set 3 (.bin .Add (.bif .max2 (.cons (.var 2) (.cons (.var 3) .nil))) (.idx (.idx (.var 0) (.var 4)) (.num 1)))) .nil)))
    (fun i : Nat => D.int (i : Int)) (envH (bsD bs) (oD l)) (fun s i => (K64.step s.1 (job bs i), some (D.int (i : Int)))) (ps := l) (s := ((0, 0), none)) (fun i hi s => by
      have e1 := i_bs (hl i hi) μ
      have e2 := @bmax2 (s.1.1 + (job bs i).1) s.1.2 μ
      rw [forT_nm]
      unfold envH K64.step
      clear hl hi
      generalize bsD bs = B at *
      walk_at "go")
  rw [← il_nl] at e2
  have e3 := fold_two (bs := bs) l (0, 0) none
  generalize l.foldl (fun (s : (Int × Int) × Option D) (i : Nat) => (K64.step s.1 (job bs i), some (D.int (i : Int)))) ((0, 0), none) = s at e2 e3
  have e4 : hrs (l.map (job bs)) = s.1.2 := by
    unfold hrs K64.G
    rw [e3]
  rw [e4]
  unfold envH at e2
  clear e3 e4 hl
  generalize bsD bs = B at *
  generalize oD l = O at *
  walk_at "run"
theorem r_law_hours (k : Nat) (μ : Mem) {bs : List J} {l : List Nat} (hl : ∀ i ∈ l, i < bs.length) : run M 0 (k + 1) "_law_hours" [bsD bs, oD l] μ = .ok (.int (hrs (l.map (job bs)))) μ := by
  have hat : M.at_ "_law_hours" = some t__law_hours.fn := by rfl
  simp only [t__law_hours, c__law_hours] at hat
  have e1 := w_o l
  have e2 := for_fold (μ := μ) (turn := forT (gAt M 0 k) (.nm 4) (.cons (.set 2 (.bin .Add (.var 2) (.idx (.idx (.var 0) (.var 4)) (.num 0)))) (.cons (.set 3 (.bin .Add (.ite (.cmp .Gt (.var 3) (.var 2)) (.var 3) (.var 2)) (.idx (.idx (.var 0) (.var 4)) (.num 1)))) .nil)))
    (fun i : Nat => D.int (i : Int)) (envH (bsD bs) (oD l)) (fun s i => (K64.step s.1 (job bs i), some (D.int (i : Int)))) (ps := l) (s := ((0, 0), none)) (fun i hi s => by
      have e1 := i_bs (hl i hi) μ
      rw [forT_nm]
      unfold envH K64.step
      clear hl hi
      generalize bsD bs = B at *
      by_cases h : s.1.1 + (job bs i).1 < s.1.2
      · walk_at "go"
      · walk_at "go")
  rw [← il_nl] at e2
  have e3 := fold_two (bs := bs) l (0, 0) none
  generalize l.foldl (fun (s : (Int × Int) × Option D) (i : Nat) => (K64.step s.1 (job bs i), some (D.int (i : Int)))) ((0, 0), none) = s at e2 e3
  have e4 : hrs (l.map (job bs)) = s.1.2 := by
    unfold hrs K64.G
    rw [e3]
  rw [e4]
  unfold envH at e2
  clear e3 e4 hl
  generalize bsD bs = B at *
  generalize oD l = O at *
  walk_at "run"
end Law_k64

namespace Law_k64
open PySem PySem.Spec PyProof.Rows L2 Den K64
local macro_rules | `(tactic| walk_at "go") => `(tactic| simp only [callM, runB, FT.fn, startD, ev_var, ev_num, ev_txt, ev_bl, ev_non, ev_glo, ev_con, ev_bin, ev_neg, ev_not, ev_one, ev_and, ev_or, ev_cmp, ev_chn, ev_ite, ev_cal0, ev_cal, ev_cav, ev_bif, ev_isi, ev_nil, ev_cons, ev_tup, ev_lst, ev_cel, ev_idx, ev_sli, ev_nop, ev_err, ev_isx, ev_joi, ev_rng1, ev_rng2, ev_itr, ev_itl, ev_zip, ev_zip3, ev_fld, ev_mth0, ev_mth, ev_mk0, ev_pop0, ev_rev, ev_rgl1, ev_rgl2, ev_lset, ev_popi, ev_newb, ev_newl, ev_enm, ex_pass, ex_nil, ex_cons, ex_set, ex_tgt, ex_par, ex_par3, ex_ife, ex_whl, ex_ret, ex_retn, ex_exp, ex_brk, ex_cnt, ex_rai, ex_frz, ex_app, ex_sub, ex_fset, ex_fs3, ex_for, evT, asg, Option.bind_some, ev_cmpn, ev_cmp2, ev_cmpc, wipeD, gcal, gcon, bind_ok, bind_er, bind_no, calm_ok, b_add, b_sub, i_t0, i_t1, c_lt, c_le, c_gt, c_ge, c_eq, c_ne, t_bl, get0, gets, List.length_cons, List.length_nil, List.map_cons, List.map_nil, List.replicate, List.cons_append, List.nil_append, List.set_cons_zero, List.set_cons_succ, List.append_nil, if_true, if_false, Nat.reduceAdd, Nat.reduceSub, Nat.sub_self, Nat.zero_add, reduceIte, Bool.false_eq_true, bgcd, babs, bint, fits, Nat.reduceLeDiff, decide_true, decide_false, Bool.not_true, Bool.not_false, i_c0, i_c1, s_c0, s_c1, blen, tlen, p18, *])
local macro_rules | `(tactic| walk_at "run") => `(tactic| (rw [run_succ]; walk_at "go"))

/-! ### the best order -/
def rowA (bs : List J) (i : Nat) : List Int := [(job bs i).1, (i : Int)]
def rowB (bs : List J) (i : Nat) : List Int := [-(job bs i).2, (i : Int)]
theorem enum_bs (bs : List J) : enumL 0 (bs.map pD) = (List.range bs.length).map fun (i : Nat) => D.tup [.int (i : Int), pD (job bs i)] := by
  rw [enumL_m]
  refine List.ext_getElem (by simp) fun i h1 h2 => ?_
  have hi : i < bs.length := by simpa using h1
  simp [job, List.getD_eq_getElem?_getD, List.getElem?_eq_getElem hi]
theorem sort_rows {bs : List J} {f : Nat → List Int} {k : Nat → Nat → Bool} (hk : ∀ i j, ZN.leR (f i) (f j) = k i j) (l : List Nat) : (l.map f).mergeSort ZN.leR = (l.mergeSort k).map f := (List.map_mergeSort (f := f) (r := k) (s := ZN.leR) fun a _ b _ => (hk a b).symm).symm
theorem kA_row (bs : List J) (i j : Nat) : ZN.leR (rowA bs i) (rowA bs j) = kA bs i j := by
  unfold rowA kA
  rw [leR_two]
theorem kB_row (bs : List J) (i j : Nat) : ZN.leR (rowB bs i) (rowB bs j) = kB bs i j := by
  unfold rowB kB
  rw [leR_two]
theorem fm_filter {f : Nat → D} {p : Nat → Bool} : ∀ l : List Nat, (l.filterMap fun i => if p i then some (f i) else none) = (l.filter p).map f
  | [] => rfl
  | i :: l => by
    rw [List.filterMap_cons, List.filter_cons, fm_filter l]
    cases p i <;> rfl
theorem r_best_in (k : Nat) (μ : Mem) {bs : List J} (g : Good bs) : run M 0 (k + 1) "best_in" [bsD bs] μ = .ok (oD (best bs)) μ := by
  have hat : M.at_ "best_in" = some t_best_in.fn := by rfl
  simp only [t_best_in, c_best_in] at hat
  have hn := g.hi
  have e0 := w_bs bs
  have e1 := enum_bs bs
  have e2 : ∀ x1 x2 x5 : Option D, compL (turnT (gAt M 0 k) (.cons (.nm 3) (.cons (.nm 4) .nil)) (.cmp .Lt (.idx (.var 4) (.num 0)) (.idx (.var 4) (.num 1))) (.tup (.cons (.idx (.var 4) (.num 0)) (.cons (.var 3) .nil))) [some (bsD bs), x1, x2, none, none, x5])
      (enumL 0 (bs.map pD)) [] μ = .ok ((((List.range bs.length).filter (isA bs)).map (rowA bs)).map rowD) μ := fun x1 x2 x5 => by
    rw [e1, comp_fmm (fun (i : Nat) => D.tup [.int (i : Int), pD (job bs i)]) (fun i => if isA bs i then some (rowD (rowA bs i)) else none) (fun i hi => ?_) (by simp; omega), fm_filter, List.nil_append, List.map_map]
    · rfl
    · rw [turnT_2]
      unfold turnD
      clear e0 e1 hn g
      by_cases h : (job bs i).1 < (job bs i).2
      · have q : isA bs i = true := decide_eq_true h
        walk_at "go"
        rfl
      · have q : isA bs i = false := decide_eq_false h
        walk_at "go"
  have e3 : ∀ x1 x2 x5 : Option D, compL (turnT (gAt M 0 k) (.cons (.nm 3) (.cons (.nm 4) .nil)) (.cmp .GtE (.idx (.var 4) (.num 0)) (.idx (.var 4) (.num 1))) (.tup (.cons (.neg (.idx (.var 4) (.num 1))) (.cons (.var 3) .nil))) [some (bsD bs), x1, x2, none, none, x5])
      (enumL 0 (bs.map pD)) [] μ = .ok ((((List.range bs.length).filter fun i => !isA bs i).map (rowB bs)).map rowD) μ := fun x1 x2 x5 => by
    rw [e1, comp_fmm (fun (i : Nat) => D.tup [.int (i : Int), pD (job bs i)]) (fun i => if !isA bs i then some (rowD (rowB bs i)) else none) (fun i hi => ?_) (by simp; omega), fm_filter, List.nil_append, List.map_map]
    · rfl
    · rw [turnT_2]
      unfold turnD
      clear e0 e1 hn g e2
      by_cases h : (job bs i).2 ≤ (job bs i).1
      · have q : isA bs i = false := decide_eq_false (by omega)
        walk_at "go"
        rfl
      · have q : isA bs i = true := decide_eq_true (by omega)
        walk_at "go"
  have e4 := bsort_rows (rs := ((List.range bs.length).filter (isA bs)).map (rowA bs)) (fun r hr => by
    obtain ⟨i, _, rfl⟩ := List.mem_map.mp hr
    exact List.cons_ne_nil _ _) μ
  have e5 := bsort_rows (rs := ((List.range bs.length).filter fun i => !isA bs i).map (rowB bs)) (fun r hr => by
    obtain ⟨i, _, rfl⟩ := List.mem_map.mp hr
    exact List.cons_ne_nil _ _) μ
  rw [sort_rows (bs := bs) (kA_row bs)] at e4
  rw [sort_rows (bs := bs) (kB_row bs)] at e5
  have hl := (best_perm (bs := bs)).length_eq
  rw [List.length_range] at hl
  unfold best at hl ⊢
  generalize ((List.range bs.length).filter (isA bs)).mergeSort (kA bs) = A at *
  generalize ((List.range bs.length).filter fun i => !isA bs i).mergeSort (kB bs) = B at *
  rw [List.length_append] at hl
  have e6 := @b_lst μ ((A.map (rowA bs)).map rowD) ((B.map (rowB bs)).map rowD) (by simp; omega)
  have e7 : ∀ x1 x2 x4 : Option D, compL (turnT (gAt M 0 k) (.cons (.nm 5) (.cons (.nm 3) .nil)) .nop (.var 3) [some (bsD bs), x1, x2, none, x4, none]) ((A.map (rowA bs)).map rowD ++ (B.map (rowB bs)).map rowD) [] μ = .ok (il (nx (A ++ B))) μ := fun x1 x2 x4 => by
    have q : (A.map (rowA bs)).map rowD ++ (B.map (rowB bs)).map rowD = (A.map (fun i => (rowA bs i, i)) ++ B.map fun i => (rowB bs i, i)).map fun p => rowD p.1 := by simp [Function.comp_def]
    rw [q, comp_mm (fun p : List Int × Nat => rowD p.1) (fun p : List Int × Nat => D.int (p.2 : Int)) (fun p hp => ?_) (by simp; omega)]
    · rw [il_nl]
      simp [Function.comp_def]
    · have hx : ∃ a : Int, p.1 = [a, (p.2 : Int)] := by
        rcases List.mem_append.mp hp with h | h
        · obtain ⟨i, _, rfl⟩ := List.mem_map.mp h
          exact ⟨_, rfl⟩
        · obtain ⟨i, _, rfl⟩ := List.mem_map.mp h
          exact ⟨_, rfl⟩
      obtain ⟨a, ha⟩ := hx
      rw [ha]
      show turnT _ _ _ _ _ (.tup [.int a, .int (p.2 : Int)]) μ = _
      rw [turnT_2, turnD_nop]
      rfl
  have e8 : walkD (.lst ((A.map (rowA bs)).map rowD ++ (B.map (rowB bs)).map rowD)) = some ((A.map (rowA bs)).map rowD ++ (B.map (rowB bs)).map rowD) := rfl
  have e9 := @btup μ (il (nx (A ++ B)))
  clear g hn e1 hl
  generalize bsD bs = Bs at *
  unfold oD
  walk_at "run"
/-! ### what is an order -/
def rng (n : Nat) : List Int := nx (List.range n)
def ordB (n : Nat) : D → Bool
  | .tup xs => match intsOf xs with
    | some ns => decide (ns.mergeSort ZN.leI = rng n)
    | none => false
  | _ => false
theorem nx_pair {l : List Nat} (h : l.Pairwise (· < ·)) : (nx l).Pairwise fun a b => ZN.leI a b = true := by
  unfold nx
  refine List.pairwise_map.mpr (h.imp fun {a b} q => ?_)
  unfold ZN.leI
  exact decide_eq_true (by omega)
theorem ord_iff {n : Nat} {ns : List Int} : ns.mergeSort ZN.leI = rng n ↔ ns.Perm (rng n) := by
  refine ⟨fun h => by rw [← h]; exact (List.mergeSort_perm _ _).symm, fun h => ?_⟩
  refine List.Perm.eq_of_pairwise (le := fun a b => ZN.leI a b = true) (fun a b _ _ h1 h2 => ?_) (List.pairwise_mergeSort leI_trans leI_total _) (nx_pair List.pairwise_lt_range) ((List.mergeSort_perm _ _).trans h)
  unfold ZN.leI at h1 h2
  simp only [decide_eq_true_eq] at h1 h2
  omega
theorem nx_nodup {l : List Nat} : (nx l).Nodup ↔ l.Nodup := by
  unfold nx List.Nodup
  rw [List.pairwise_map]
  refine ⟨fun h => h.imp fun {a b} q e => q (by rw [e]), fun h => h.imp fun {a b} q e => q (by omega)⟩
theorem rng_mem {n : Nat} {v : Int} : v ∈ rng n ↔ 0 ≤ v ∧ v < n := by
  unfold rng nx
  rw [List.mem_map]
  refine ⟨fun ⟨i, hi, e⟩ => ?_, fun h => ⟨v.toNat, List.mem_range.mpr (by omega), by omega⟩⟩
  have := List.mem_range.mp hi
  omega
/-- so told by the program -/
theorem ord_prog {n : Nat} {ns : List Int} : ns.Perm (rng n) ↔ ns.length = n ∧ (∀ v ∈ ns, 0 ≤ v ∧ v ≤ (n : Int) - 1) ∧ (ZN.nub ns).length = n := by
  refine ⟨fun h => ?_, fun ⟨h1, h2, h3⟩ => ?_⟩
  · have hl := h.length_eq
    unfold rng nx at hl
    rw [List.length_map, List.length_range] at hl
    refine ⟨hl, fun v hv => ?_, ?_⟩
    · have := rng_mem.mp (h.mem_iff.mp hv)
      omega
    · rw [nub_id (h.nodup_iff.mpr (nx_nodup.mpr List.nodup_range)), hl]
  · have nd := nub_same (h3.trans h1.symm)
    have e : ns = nx (ns.map Int.toNat) := by
      unfold nx
      rw [List.map_map]
      refine (List.map_id ns).symm.trans (List.map_congr_left fun v hv => ?_)
      have := h2 v hv
      simp
      omega
    rw [e]
    refine List.Perm.map _ (perm_of (by rw [List.length_map, h1]) ?_ fun a ha => ?_)
    · rw [e] at nd
      exact nx_nodup.mp nd
    · obtain ⟨v, hv, rfl⟩ := List.mem_map.mp ha
      have := h2 v hv
      omega
theorem nx_of {ns : List Int} (h : ∀ v ∈ ns, 0 ≤ v) : ns = nx (ns.map Int.toNat) := by
  unfold nx
  rw [List.map_map]
  refine (List.map_id ns).symm.trans (List.map_congr_left fun v hv => ?_)
  have := h v hv
  simp
  omega
theorem nx_len (l : List Nat) : (nx l).length = l.length := List.length_map _
theorem perm_nx {n : Nat} {ns : List Int} (h : ns.Perm (rng n)) : ∃ l : List Nat, ns = nx l ∧ l.Perm (List.range n) := by
  have e := nx_of fun v hv => (rng_mem.mp (h.mem_iff.mp hv)).1
  obtain ⟨h1, h2, h3⟩ := ord_prog.mp h
  refine ⟨_, e, perm_of (by rw [List.length_map, h1]) ?_ fun a ha => ?_⟩
  · have nd := nub_same (h3.trans h1.symm)
    rw [e] at nd
    exact nx_nodup.mp nd
  · obtain ⟨v, hv, rfl⟩ := List.mem_map.mp ha
    have := h2 v hv
    omega
theorem ordB_il (n : Nat) (ns : List Int) : ordB n (.tup (il ns)) = decide (ns.mergeSort ZN.leI = rng n) := by simp only [ordB, intsOf_il]
theorem ordB_of {n : Nat} {l : List Nat} (h : l.Perm (List.range n)) : ordB n (oD l) = true := by
  unfold oD
  rw [ordB_il]
  exact decide_eq_true (ord_iff.mpr (h.map _))
theorem ordB_out {n : Nat} {v : D} (h : ordB n v = true) : ∃ l : List Nat, v = oD l ∧ l.Perm (List.range n) := by
  cases v with
  | tup xs =>
    simp only [ordB] at h
    cases q : intsOf xs with
    | none => rw [q] at h; cases h
    | some ns =>
      rw [q] at h
      obtain ⟨l, e, p⟩ := perm_nx (ord_iff.mp (of_decide_eq_true h))
      have e2 := intsOf_ds q
      refine ⟨l, ?_, p⟩
      rw [e2, e]
      rfl
  | _ => cases h
theorem ints_of_ok {lo hi : Int} : ∀ {xs : List D}, xs.all (okW lo hi) = true → ∃ ns, intsOf xs = some ns ∧ ∀ v ∈ ns, lo ≤ v ∧ v ≤ hi
  | [], _ => ⟨[], rfl, fun v hv => nomatch hv⟩
  | x :: xs, h => by
    rw [List.all_cons, Bool.and_eq_true] at h
    obtain ⟨ns, e, q⟩ := ints_of_ok h.2
    cases x with
    | int v =>
      have h1 := h.1
      simp only [okW, Bool.and_eq_true, decide_eq_true_eq] at h1
      refine ⟨v :: ns, by simp only [intsOf, e, Option.map_some], fun w hw => ?_⟩
      rcases List.mem_cons.mp hw with rfl | hw
      · exact h1
      · exact q w hw
    | _ => cases h.1
theorem ok_of_ints {lo hi : Int} {ns : List Int} (h : ∀ v ∈ ns, lo ≤ v ∧ v ≤ hi) : (il ns).all (okW lo hi) = true := by
  refine List.all_eq_true.mpr fun d hd => ?_
  obtain ⟨v, hv, rfl⟩ := List.mem_map.mp hd
  simp [okW, h v hv]
/-- a value that is asked about -/
structure Fine (v : D) : Prop where
  s : sane v = true
  x : ∀ xs, v = .tup xs → xs.length ≤ 1000 ∧ ∀ x ∈ xs, lkF x = true
theorem sane_of {d : D} (h : lkF d = true) : sane d = true := by cases d <;> first | rfl | cases h
theorem r_is_order_of (k : Nat) (μ : Mem) {bs : List J} (g : Good bs) {v : D} (hv : Fine v) : run M 0 (k + 3) "is_order_of" [bsD bs, v] μ = .ok (.bl (ordB bs.length v)) μ := by
  have hat : M.at_ "is_order_of" = some t_is_order_of.fn := by rfl
  simp only [t_is_order_of, c_is_order_of] at hat
  have e1 := r_are_wholesD (W := 0) at_wholes at_tuple at_whole k μ v (bs.length : Int) 0 ((bs.length : Int) - 1) hv.s fun xs q => ⟨by have := (hv.x xs q).1; omega, fun x hx => sane_of ((hv.x xs q).2 x hx)⟩
  have e2 := bs_len bs μ
  cases q : okWs (bs.length : Int) 0 ((bs.length : Int) - 1) v with
  | false =>
    rw [q] at e1
    have e3 : ordB bs.length v = false := by
      cases q2 : ordB bs.length v with
      | false => rfl
      | true =>
        obtain ⟨l, rfl, p⟩ := ordB_out q2
        obtain ⟨h1, h2, h3⟩ := ord_prog.mp (p.map (fun (i : Nat) => (i : Int)))
        have : okWs (bs.length : Int) 0 ((bs.length : Int) - 1) (oD l) = true := by
          simp only [okWs, oD, okT, il_length]
          rw [Bool.and_eq_true, Bool.and_eq_true, decide_eq_true_eq, decide_eq_true_eq]
          unfold nx
          refine ⟨⟨by omega, by omega⟩, ok_of_ints h2⟩
        rw [this] at q
        cases q
    rw [e3]
    clear e3 q hv g
    generalize bsD bs = B at *
    walk_at "run"
  | true =>
    rw [q] at e1
    cases v with
    | tup xs =>
      simp only [okWs, okT, Bool.and_eq_true, decide_eq_true_eq] at q
      obtain ⟨⟨q1, q2⟩, q3⟩ := q
      obtain ⟨ns, n1, n2⟩ := ints_of_ok q3
      have n3 : xs = il ns := intsOf_ds n1
      subst n3
      have hl : ns.length = bs.length := by
        rw [il_length] at q1 q2
        omega
      have e4 := @b_lset ns μ (by have := g.hi; omega)
      have e5 : ordB bs.length (.tup (il ns)) = (((ZN.nub ns).length : Int) == (bs.length : Int)) := by
        rw [ordB_il]
        rw [show (((ZN.nub ns).length : Int) == (bs.length : Int)) = decide ((ZN.nub ns).length = bs.length) from by
          rw [Bool.eq_iff_iff, beq_iff_eq, decide_eq_true_eq]
          omega]
        rw [decide_eq_decide, ord_iff, ord_prog]
        exact ⟨fun h => h.2.2, fun h => ⟨hl, n2, h⟩⟩
      rw [e5]
      clear e5 q1 q2 q3 n1 n2 hl hv g
      generalize bsD bs = B at *
      walk_at "run"
    | _ => cases q
theorem r_need_order (k : Nat) (μ : Mem) {bs : List J} (g : Good bs) {v : D} (hv : Fine v) : run M 0 (k + 4) "need_order" [bsD bs, v] μ = if ordB bs.length v then .ok .non μ else .er ⟨"InvalidRow", []⟩ μ := by
  have hat : M.at_ "need_order" = some t_need_order.fn := by rfl
  simp only [t_need_order, c_need_order] at hat
  have e1 := r_need (k + 1) μ g
  have e2 := r_is_order_of k μ g hv
  cases q : ordB bs.length v with
  | true =>
    rw [q] at e2
    clear q hv g
    generalize bsD bs = B at *
    walk_at "run"
  | false =>
    rw [q] at e2
    clear q hv g
    generalize bsD bs = B at *
    walk_at "run"
theorem fine_o (l : List Nat) (h : l.length ≤ 1000) : Fine (oD l) := ⟨rfl, fun xs q => by
  cases q
  refine ⟨by rw [il_length, nx_len]; exact h, fun x hx => ?_⟩
  obtain ⟨v, _, rfl⟩ := List.mem_map.mp hx
  rfl⟩
theorem perm_len {n : Nat} {l : List Nat} (h : l.Perm (List.range n)) : l.length = n := by
  have := h.length_eq
  rwa [List.length_range] at this
theorem perm_lt {n : Nat} {l : List Nat} (h : l.Perm (List.range n)) : ∀ i ∈ l, i < n := fun i hi => List.mem_range.mp (h.mem_iff.mp hi)
theorem r_need_order_ok (k : Nat) (μ : Mem) {bs : List J} (g : Good bs) {l : List Nat} (h : l.Perm (List.range bs.length)) : run M 0 (k + 4) "need_order" [bsD bs, oD l] μ = .ok .non μ := by
  rw [r_need_order k μ g (fine_o l (by rw [perm_len h]; have := g.hi; omega)), if_pos (ordB_of h)]
theorem r_hours_by (k : Nat) (μ : Mem) {bs : List J} (g : Good bs) {l : List Nat} (h : l.Perm (List.range bs.length)) : run M 0 (k + 5) "hours_by" [bsD bs, oD l] μ = .ok (.int (hrs (l.map (job bs)))) μ := by
  have hat : M.at_ "hours_by" = some t_hours_by.fn := by rfl
  simp only [t_hours_by, c_hours_by] at hat
  have e1 := r_need_order_ok k μ g h
  have e2 := r_hours_in (k + 3) μ (perm_lt h)
  clear h g
  generalize bsD bs = B at *
  walk_at "run"
theorem r_hours_by_no (k : Nat) (μ : Mem) {bs : List J} (g : Good bs) {v : D} (hv : Fine v) (h : ordB bs.length v = false) : run M 0 (k + 5) "hours_by" [bsD bs, v] μ = .er ⟨"InvalidRow", []⟩ μ := by
  have hat : M.at_ "hours_by" = some t_hours_by.fn := by rfl
  simp only [t_hours_by, c_hours_by] at hat
  have e1 := r_need_order k μ g hv
  rw [h] at e1
  simp only [Bool.false_eq_true, if_false] at e1
  clear h g hv
  generalize bsD bs = B at *
  walk_at "run"
theorem r_turning_no (k : Nat) (μ : Mem) {bs : List J} (g : Good bs) {v : D} (hv : Fine v) (h : ordB bs.length v = false) : run M 0 (k + 5) "turning_places" [bsD bs, v] μ = .er ⟨"InvalidRow", []⟩ μ := by
  have hat : M.at_ "turning_places" = some t_turning_places.fn := by rfl
  simp only [t_turning_places, c_turning_places] at hat
  have e1 := r_need_order k μ g hv
  rw [h] at e1
  simp only [Bool.false_eq_true, if_false] at e1
  clear h g hv
  generalize bsD bs = B at *
  walk_at "run"
theorem r_least (k : Nat) (μ : Mem) {bs : List J} (g : Good bs) : run M 0 (k + 3) "least_by_order" [bsD bs] μ = .ok (.int (hrs ((best bs).map (job bs)))) μ := by
  have hat : M.at_ "least_by_order" = some t_least_by_order.fn := by rfl
  simp only [t_least_by_order, c_least_by_order] at hat
  have e1 := r_need k μ g
  have e2 := r_best_in (k + 1) μ g
  have e3 := r_hours_in (k + 1) μ (perm_lt (best_perm (bs := bs)))
  clear g
  generalize bsD bs = B at *
  walk_at "run"
theorem r_best (k : Nat) (μ : Mem) {bs : List J} (g : Good bs) : run M 0 (k + 3) "best_order" [bsD bs] μ = .ok (oD (best bs)) μ := by
  have hat : M.at_ "best_order" = some t_best_order.fn := by rfl
  simp only [t_best_order, c_best_order] at hat
  have e1 := r_need k μ g
  have e2 := r_best_in (k + 1) μ g
  clear g
  generalize bsD bs = B at *
  walk_at "run"
/-- the hours of a value, if it is an order -/
def hrsV (bs : List J) (v : D) : Int := match v with
  | .tup xs => match intsOf xs with
    | some ns => hrs (ns.map fun i => job bs i.toNat)
    | none => 0
  | _ => 0
theorem hrsV_o (bs : List J) (l : List Nat) : hrsV bs (oD l) = hrs (l.map (job bs)) := by
  simp only [hrsV, oD, intsOf_il]
  unfold nx
  simp [Function.comp_def]
theorem r_is_order (k : Nat) (μ : Mem) {bs : List J} (g : Good bs) {v : D} (hv : Fine v) {n : Int} (h0 : 0 ≤ n) (h1 : n ≤ 20000) : run M 0 (k + 4) "is_order" [bsD bs, .int n, v] μ = .ok (.bl (ordB bs.length v && decide (hrsV bs v ≤ n))) μ := by
  have hat : M.at_ "is_order" = some t_is_order.fn := by rfl
  simp only [t_is_order, c_is_order] at hat
  have e0 : M.con.lookup ("LAST" : Str) = some (.int 20000) := by rfl
  have e1 := r_need (k + 1) μ g
  have e2 := r_need_whole (W := 0) at_needw at_whole (k + 1) μ n 0 20000 h0 h1
  have e3 := r_is_order_of k μ g hv
  cases q : ordB bs.length v with
  | false =>
    rw [q] at e3
    rw [Bool.false_and]
    clear q g hv h0 h1
    generalize bsD bs = B at *
    walk_at "run"
  | true =>
    rw [q] at e3
    rw [Bool.true_and]
    obtain ⟨l, rfl, p⟩ := ordB_out q
    rw [hrsV_o]
    have e4 := r_hours_in (k + 2) μ (perm_lt p)
    clear q g hv h0 h1 p
    generalize bsD bs = B at *
    generalize oD l = O at *
    walk_at "run"
end Law_k64

namespace Law_k64
open PySem PySem.Spec PyProof.Rows L2 Den K64
local macro_rules | `(tactic| walk_at "go") => `(tactic| simp only [callM, runB, FT.fn, startD, ev_var, ev_num, ev_txt, ev_bl, ev_non, ev_glo, ev_con, ev_bin, ev_neg, ev_not, ev_one, ev_and, ev_or, ev_cmp, ev_chn, ev_ite, ev_cal0, ev_cal, ev_cav, ev_bif, ev_isi, ev_nil, ev_cons, ev_tup, ev_lst, ev_cel, ev_idx, ev_sli, ev_nop, ev_err, ev_isx, ev_joi, ev_rng1, ev_rng2, ev_itr, ev_itl, ev_zip, ev_zip3, ev_fld, ev_mth0, ev_mth, ev_mk0, ev_pop0, ev_rev, ev_rgl1, ev_rgl2, ev_lset, ev_popi, ev_newb, ev_newl, ev_enm, ex_pass, ex_nil, ex_cons, ex_set, ex_tgt, ex_par, ex_par3, ex_ife, ex_whl, ex_ret, ex_retn, ex_exp, ex_brk, ex_cnt, ex_rai, ex_frz, ex_app, ex_sub, ex_fset, ex_fs3, ex_for, evT, asg, Option.bind_some, ev_cmpn, ev_cmp2, ev_cmpc, wipeD, gcal, gcon, bind_ok, bind_er, bind_no, calm_ok, b_add, b_sub, i_t0, i_t1, c_lt, c_le, c_gt, c_ge, c_eq, c_ne, t_bl, get0, gets, List.length_cons, List.length_nil, List.map_cons, List.map_nil, List.replicate, List.cons_append, List.nil_append, List.set_cons_zero, List.set_cons_succ, List.append_nil, if_true, if_false, Nat.reduceAdd, Nat.reduceSub, Nat.sub_self, Nat.zero_add, reduceIte, Bool.false_eq_true, bgcd, babs, bint, fits, Nat.reduceLeDiff, decide_true, decide_false, Bool.not_true, Bool.not_false, i_c0, i_c1, s_c0, s_c1, blen, tlen, p18, *])
local macro_rules | `(tactic| walk_at "run") => `(tactic| (rw [run_succ]; walk_at "go"))

/-! ### what the law calls an order -/
theorem at_sort : M.at_ "_law_sort" = some sortFn := by rfl
theorem at_like : M.at_ "_law_like" = some likeFn := by rfl
def isI2 : D → Bool
  | .int _ => true
  | _ => false
def srt : D → Int
  | .non => 0
  | .bl _ => 1
  | .int _ => 2
  | .str _ => 3
  | _ => 4
theorem r_sort (k : Nat) (μ : Mem) {d : D} (h : lkF d = true) : run M 0 (k + 1) "_law_sort" [d] μ = .ok (.int (srt d)) μ := by
  cases d <;> first | exact sort_of at_sort k _ μ rfl | cases h
theorem srt_two {d : D} (h : lkF d = true) : (srt d == 2) = isI2 d := by cases d <;> first | rfl | cases h
theorem ints_filter : ∀ {xs : List D}, (xs.filter fun d => !isI2 d) = [] → ∃ ns, xs = il ns
  | [], _ => ⟨[], rfl⟩
  | x :: xs, h => by
    rw [List.filter_cons] at h
    cases q : isI2 x with
    | false => rw [q] at h; cases h
    | true =>
      rw [q] at h
      obtain ⟨ns, rfl⟩ := ints_filter (xs := xs) h
      cases x with
      | int v => exact ⟨v :: ns, rfl⟩
      | _ => cases q
theorem filter_ints (ns : List Int) : ((il ns).filter fun d => !isI2 d) = [] := List.filter_eq_nil_iff.mpr fun d hd => by
  obtain ⟨v, _, rfl⟩ := List.mem_map.mp hd
  simp [isI2]
theorem ordB_no {n : Nat} {xs : List D} (h : (xs.filter fun d => !isI2 d) ≠ []) : ordB n (.tup xs) = false := by
  cases q : ordB n (.tup xs) with
  | false => rfl
  | true =>
    obtain ⟨l, e, _⟩ := ordB_out q
    injection e with e
    subst e
    exact absurd (filter_ints _) h
theorem fm_id {p : D → Bool} : ∀ xs : List D, (xs.filterMap fun d => if p d then some d else none) = xs.filter p
  | [] => rfl
  | x :: xs => by
    rw [List.filterMap_cons, List.filter_cons, fm_id xs]
    cases p x <;> rfl
theorem r_law_is_order (k : Nat) (μ : Mem) {bs : List J} (g : Good bs) {v : D} (hv : Fine v) : run M 0 (k + 2) "_law_is_order" [bsD bs, v] μ = .ok (.bl (ordB bs.length v)) μ := by
  have hat : M.at_ "_law_is_order" = some t__law_is_order.fn := by rfl
  simp only [t__law_is_order, c__law_is_order] at hat
  have no : ∀ w : D, isTy .tuple w = some false → ordB bs.length w = false → run M 0 (k + 2) "_law_is_order" [bsD bs, w] μ = .ok (.bl false) μ := fun w h1 _ => by
    clear hv g
    generalize bsD bs = B at *
    walk_at "run"
  cases v with
  | tup xs =>
    obtain ⟨hl, hx⟩ := hv.x xs rfl
    have e1 : isTy .tuple (.tup xs) = some true := rfl
    have e2 : compL (turnT (gAt M 0 (k + 1)) (.nm 2) (.cmp .NotEq (.cal "_law_sort" (.cons (.var 2) .nil)) (.num 2)) (.var 2) [some (bsD bs), some (.tup xs), none]) xs [] μ = .ok (xs.filter fun d => !isI2 d) μ := by
      rw [comp_fm (μ := μ) (fun d => if !isI2 d then some d else none) (fun d hd => ?_) (by simp; omega), fm_id, List.nil_append]
      have e := r_sort k μ (hx d hd)
      have e3 := srt_two (hx d hd)
      rw [turnT_nm]
      unfold turnD
      clear hv hx hl hd g
      generalize bsD bs = B at *
      cases q : isI2 d with
      | true => rw [q] at e3; walk_at "go"
      | false => rw [q] at e3; walk_at "go"
    have e3 := ne_nil_flat (ys := xs.filter fun d => !isI2 d) (fun y hy => hx y (List.mem_filter.mp hy).1) μ
    have e4 : walkD (.tup xs) = some xs := rfl
    by_cases h : (xs.filter fun d => !isI2 d) = []
    · obtain ⟨ns, rfl⟩ := ints_filter h
      rw [h] at e2 e3
      have e5 := bsort_t ns μ
      have e6 := (b_rgl (n := bs.length) (by have := g.hi; omega) μ).1
      have e7 := bs_len bs μ
      have e8 := @eq_lst μ (ns.mergeSort ZN.leI) (rng bs.length)
      simp only [List.isEmpty_nil, Bool.not_true] at e3
      rw [ordB_il]
      rw [show (List.range bs.length).map (fun (i : Nat) => (i : Int)) = rng bs.length from rfl] at e6
      clear no hv hx hl h g
      generalize bsD bs = B at *
      generalize rng bs.length = R at *
      walk_at "run"
    · rw [ordB_no h]
      have e5 : (xs.filter fun d => !isI2 d).isEmpty = false := List.isEmpty_eq_false_iff.mpr h
      rw [e5] at e3
      generalize xs.filter (fun d => !isI2 d) = ys at *
      clear no hv hx hl h g e5
      generalize bsD bs = B at *
      walk_at "run"
  | _ => first | exact no _ rfl rfl | cases hv.s
/-! ### the sums -/
def sums (l : List J) : List Int := (List.range l.length).map (sumAt l)
theorem comp_fst {g : G} {ρ : DEnv} {n i : Nat} {μ : Mem} {l : List J} (hn : i < ρ.length) (hl : l.length ≤ 1000) : compL (turnT g (.nm i) .nop (.idx (.var i) (.num 0)) ρ) (l.map pD) [] μ = .ok (il (l.map (·.1))) μ := by
  rw [comp_mm pD (fun p => D.int p.1) (fun p hp => ?_) (by simp; omega)]
  · simp [il, Function.comp_def]
  · rw [turnT_nm, turnD_nop]
    have e : (ρ.set i (some (pD p)))[i]? = some (some (pD p)) := by rw [List.getElem?_set_self hn]
    simp only [ev_idx, ev_var, ev_num, e, bind_ok, i_t0]
theorem comp_snd {g : G} {ρ : DEnv} {n i : Nat} {μ : Mem} {l : List J} (hn : i < ρ.length) (hl : l.length ≤ 1000) : compL (turnT g (.nm i) .nop (.idx (.var i) (.num 1)) ρ) (l.map pD) [] μ = .ok (il (l.map (·.2))) μ := by
  rw [comp_mm pD (fun p => D.int p.2) (fun p hp => ?_) (by simp; omega)]
  · simp [il, Function.comp_def]
  · rw [turnT_nm, turnD_nop]
    have e : (ρ.set i (some (pD p)))[i]? = some (some (pD p)) := by rw [List.getElem?_set_self hn]
    simp only [ev_idx, ev_var, ev_num, e, bind_ok, i_t1]
/-- the sum for a place, appended -/
def appS (v : Nat) : S := .cons (.app (.var 3) (.bin .Add (.bif .sum (.cons (.cmpn [(if v = 5 then "body" else "row", v)] (.nm v) (.itr (.sli (.var 2) .nop (.bin .Add (.var 4) (.num 1)))) .nop (.idx (.var v) (.num 0))) .nil)) (.bif .sum (.cons (.cmpn [(if v = 5 then "body" else "row", v)] (.nm v) (.itr (.sli (.var 2) (.var 4) .nop)) .nop (.idx (.var v) (.num 1))) .nil)))) .nil
theorem app_sum {k : Nat} {μ : Mem} {l : List J} (hl : l.length ≤ 1000) (i : Nat) (hi : i < l.length) (x0 x1 x4 x5 x6 : Option D) (ss : List Int) (hs : ss.length ≤ 1000) :
    forT (gAt M 0 k) (.nm 4) (appS 6) (.int (i : Int)) [x0, x1, some (.lst (l.map pD)), some (.cel μ.length), x4, x5, x6] (μ ++ [some (.lst (il ss))]) = .ok (.nx [x0, x1, some (.lst (l.map pD)), some (.cel μ.length), some (.int (i : Int)), x5, x6]) (μ ++ [some (.lst (il (ss ++ [sumAt l i])))]) ∧
    forT (gAt M 0 k) (.nm 4) (appS 5) (.int (i : Int)) [x0, x1, some (.lst (l.map pD)), some (.cel μ.length), x4, x5, x6] (μ ++ [some (.lst (il ss))]) = .ok (.nx [x0, x1, some (.lst (l.map pD)), some (.cel μ.length), some (.int (i : Int)), x5, x6]) (μ ++ [some (.lst (il (ss ++ [sumAt l i])))]) := by
  generalize hν : μ ++ [some (Cell.lst (il ss))] = ν
  have e0 : isCel ν (.cel μ.length) = true := by rw [← hν]; exact isCel_last
  have e1 := @sl_to (l.map pD) ((i : Int) + 1) ν (by omega)
  have e2 := @sl_from (l.map pD) (i : Int) ν (by omega)
  rw [show ((i : Int) + 1).toNat = i + 1 from by omega, ← List.map_take] at e1
  rw [show ((i : Int)).toNat = i from by omega, ← List.map_drop] at e2
  have e3 := p_non
  have e4 := @p_int (i : Int)
  have e5 := @p_int ((i : Int) + 1)
  have e6 := @w_lst ((l.take (i + 1)).map pD)
  have e7 := @w_lst ((l.drop i).map pD)
  have e8 := bsum (μ := ν) ((l.take (i + 1)).map (·.1))
  have e9 := bsum (μ := ν) ((l.drop i).map (·.2))
  have l1 : (l.take (i + 1)).length ≤ 1000 := by rw [List.length_take]; omega
  have l2 : (l.drop i).length ≤ 1000 := by rw [List.length_drop]; omega
  have ea : appD (.cel μ.length) (.int (((l.take (i + 1)).map (·.1)).sum + ((l.drop i).map (·.2)).sum)) ν = .ok () (μ ++ [some (.lst (il (ss ++ [sumAt l i])))]) := by
    rw [← hν, app_last (by rw [il_length]; omega)]
    simp [il, sumAt]
  constructor
  · have c1 := fun x4 => @comp_fst (gAt M 0 k) [x0, x1, some (.lst (l.map pD)), some (.cel μ.length), x4, x5, none] 0 6 ν _ (by simp) l1
    have c2 := fun x4 => @comp_snd (gAt M 0 k) [x0, x1, some (.lst (l.map pD)), some (.cel μ.length), x4, x5, none] 0 6 ν _ (by simp) l2
    rw [forT_nm]
    clear l1 l2 hi hl hs hν
    unfold appS
    walk_at "go"
  · have c1 := fun x4 => @comp_fst (gAt M 0 k) [x0, x1, some (.lst (l.map pD)), some (.cel μ.length), x4, none, x6] 0 5 ν _ (by simp) l1
    have c2 := fun x4 => @comp_snd (gAt M 0 k) [x0, x1, some (.lst (l.map pD)), some (.cel μ.length), x4, none, x6] 0 5 ν _ (by simp) l2
    rw [forT_nm]
    clear l1 l2 hi hl hs hν
    unfold appS
    walk_at "go"
theorem sums_loop {v : Nat} (hv : v = 5 ∨ v = 6) {k : Nat} {μ : Mem} {l : List J} (hl : l.length ≤ 1000) (x0 x1 x4 x5 x6 : Option D) :
    ∃ x4', forL (forT (gAt M 0 k) (.nm 4) (appS v)) (rngL 0 (l.length : Int)) [x0, x1, some (.lst (l.map pD)), some (.cel μ.length), x4, x5, x6] (μ ++ [some (.lst [])]) = .ok (.nx [x0, x1, some (.lst (l.map pD)), some (.cel μ.length), x4', x5, x6]) (μ ++ [some (.lst (il (sums l)))]) := by
  obtain ⟨ρ', μ', ⟨x4', q1, q2⟩, e⟩ := for_inv (turn := forT (gAt M 0 k) (.nm 4) (appS v))
    (I := fun i ρ ν => ∃ x4, ρ = [x0, x1, some (.lst (l.map pD)), some (.cel μ.length), x4, x5, x6] ∧ ν = μ ++ [some (.lst (il ((List.range i).map (sumAt l))))])
    (xs := rngL 0 (l.length : Int)) (n := 0) (ρ := [x0, x1, some (.lst (l.map pD)), some (.cel μ.length), x4, x5, x6]) (μ := μ ++ [some (.lst [])])
    (fun i dd ρ ν hdd ⟨x4, q1, q2⟩ => by
      subst q1 q2
      rw [rgl_il] at hdd
      have hi : i < l.length := by
        have := (List.getElem?_eq_some_iff.mp hdd).1
        simpa [il] using this
      have ed : dd = .int (i : Int) := by
        have := (List.getElem?_eq_some_iff.mp hdd).2
        simpa [il] using this.symm
      subst ed
      obtain ⟨a1, a2⟩ := app_sum (k := k) (μ := μ) hl i hi x0 x1 x4 x5 x6 ((List.range (0 + i)).map (sumAt l)) (by simp; omega)
      have er : (List.range (0 + i)).map (sumAt l) ++ [sumAt l i] = (List.range (0 + i + 1)).map (sumAt l) := by rw [List.range_succ, List.map_append, Nat.zero_add]; rfl
      rw [er] at a1 a2
      refine ⟨_, _, ⟨some (.int (i : Int)), rfl, rfl⟩, ?_⟩
      rcases hv with rfl | rfl
      · exact a2
      · exact a1)
    ⟨x4, rfl, rfl⟩
  subst q1 q2
  refine ⟨x4', ?_⟩
  rw [e]
  have : 0 + (rngL 0 (l.length : Int)).length = l.length := by rw [rgl_il]; simp [il]
  rw [this]
  rfl
theorem comp_bodies {k : Nat} {μ : Mem} {bs : List J} {l : List Nat} (hl : ∀ i ∈ l, i < bs.length) (hz : l.length ≤ 1000) {ρ : DEnv} {j : Nat} (hj : j < ρ.length) (h0 : j ≠ 0) (hB : ρ[0]? = some (some (bsD bs))) :
    compL (turnT (gAt M 0 k) (.nm j) .nop (.idx (.var 0) (.var j)) ρ) (il (nx l)) [] μ = .ok ((l.map (job bs)).map pD) μ := by
  rw [il_nl, comp_mm (fun (i : Nat) => D.int (i : Int)) (fun i => pD (job bs i)) (fun i hi => ?_) (by simp; omega)]
  · simp [Function.comp_def]
  · rw [turnT_nm, turnD_nop]
    have e : (ρ.set j (some (.int (i : Int))))[j]? = some (some (.int (i : Int))) := by rw [List.getElem?_set_self hj]
    have e2 : (ρ.set j (some (.int (i : Int))))[0]? = some (some (bsD bs)) := by rw [List.getElem?_set_ne h0, hB]
    simp only [ev_idx, ev_var, e, e2, bind_ok, i_bs (hl i hi) μ]
theorem r_law_sums (k : Nat) (μ : Mem) {bs : List J} (g : Good bs) {l : List Nat} (h : l.Perm (List.range bs.length)) : run M 0 (k + 1) "_law_sums" [bsD bs, oD l] μ = .ok (.lst (il (sums (l.map (job bs))))) (μ ++ [none]) := by
  have hat : M.at_ "_law_sums" = some t__law_sums.fn := by rfl
  have ec : c__law_sums = .cons (.par 2 3 (.cmpn [("at", 5)] (.nm 5) (.itr (.var 1)) .nop (.idx (.var 0) (.var 5))) (.cel .nil)) (.cons (.for (.nm 4) (.rng1 (.bif .len (.cons (.var 2) .nil))) (appS 6)) (.cons (.frz 3) (.cons (.ret (.var 3)) .nil))) := by rfl
  simp only [t__law_sums, ec] at hat
  have hz : l.length ≤ 1000 := by rw [perm_len h]; have := g.hi; omega
  have e1 := comp_bodies (k := k) (μ := μ) (perm_lt h) hz (ρ := [some (bsD bs), some (oD l), none, none, none, none, none]) (j := 5) (by simp) (by decide) rfl
  have e2 := w_o l
  have hz2 : (l.map (job bs)).length ≤ 1000 := by rw [List.length_map]; exact hz
  generalize l.map (job bs) = js at *
  obtain ⟨x4', e3⟩ := sums_loop (v := 6) (.inr rfl) (k := k) (μ := μ) hz2 (some (bsD bs)) (some (oD l)) none none none
  have e4 : ∀ ν : Mem, bifD .len [.lst (js.map pD)] ν = .ok (.int js.length) ν := fun ν => by rw [blen, List.length_map]
  have e5 : rngOk (js.length : Int) = true := by unfold rngOk; exact decide_eq_true (by omega)
  have e6 : ∀ c : Option Cell, (μ ++ [c])[μ.length]? = some c := fun c => mem_last
  have e7 : ∀ c : Option Cell, (μ ++ [c]).set μ.length none = μ ++ [none] := fun c => frz_last
  clear g h hz hz2
  generalize bsD bs = B at *
  generalize oD l = O at *
  generalize appS 6 = A at *
  walk_at "run"
end Law_k64

namespace Law_k64
open PySem PySem.Spec PyProof.Rows L2 Den K64
local macro_rules | `(tactic| walk_at "go") => `(tactic| simp only [callM, runB, FT.fn, startD, ev_var, ev_num, ev_txt, ev_bl, ev_non, ev_glo, ev_con, ev_bin, ev_neg, ev_not, ev_one, ev_and, ev_or, ev_cmp, ev_chn, ev_ite, ev_cal0, ev_cal, ev_cav, ev_bif, ev_isi, ev_nil, ev_cons, ev_tup, ev_lst, ev_cel, ev_idx, ev_sli, ev_nop, ev_err, ev_isx, ev_joi, ev_rng1, ev_rng2, ev_itr, ev_itl, ev_zip, ev_zip3, ev_fld, ev_mth0, ev_mth, ev_mk0, ev_pop0, ev_rev, ev_rgl1, ev_rgl2, ev_lset, ev_popi, ev_newb, ev_newl, ev_enm, ex_pass, ex_nil, ex_cons, ex_set, ex_tgt, ex_par, ex_par3, ex_ife, ex_whl, ex_ret, ex_retn, ex_exp, ex_brk, ex_cnt, ex_rai, ex_frz, ex_app, ex_sub, ex_fset, ex_fs3, ex_for, evT, asg, Option.bind_some, ev_cmpn, ev_cmp2, ev_cmpc, wipeD, gcal, gcon, bind_ok, bind_er, bind_no, calm_ok, b_add, b_sub, i_t0, i_t1, c_lt, c_le, c_gt, c_ge, c_eq, c_ne, t_bl, get0, gets, List.length_cons, List.length_nil, List.map_cons, List.map_nil, List.replicate, List.cons_append, List.nil_append, List.set_cons_zero, List.set_cons_succ, List.append_nil, if_true, if_false, Nat.reduceAdd, Nat.reduceSub, Nat.sub_self, Nat.zero_add, reduceIte, Bool.false_eq_true, bgcd, babs, bint, fits, Nat.reduceLeDiff, decide_true, decide_false, Bool.not_true, Bool.not_false, i_c0, i_c1, s_c0, s_c1, blen, tlen, p18, *])
local macro_rules | `(tactic| walk_at "run") => `(tactic| (rw [run_succ]; walk_at "go"))

/-- the places of the greatest sums -/
def plD (ss : List Int) (m : Int) : List D := ss.zipIdx.filterMap fun q => if q.1 = m then some (D.int (q.2 : Int)) else none
theorem sums_len (l : List J) : (sums l).length = l.length := by simp [sums]
theorem sums_max {l : List J} (h0 : ∀ p ∈ l, 0 ≤ p.1) (hn : l ≠ []) : maxOf (sums l) = some (hrs l) := by
  have hs : sums l ≠ [] := fun e => by
    have := sums_len l
    rw [e] at this
    exact hn (List.length_eq_zero_iff.mp this.symm)
  obtain ⟨m, h1, h2, h3⟩ := maxOf_spec hs
  have e : sumsL 0 l = sums l := by
    rw [sumsL_eq]
    unfold sums
    refine List.map_congr_left fun k _ => ?_
    simp
  obtain ⟨h4, h5⟩ := hrs_max h0 hn
  rw [e] at h4 h5
  rw [h1]
  have := h3 _ h4
  have := h5 _ h2
  rw [show m = hrs l from by omega]
theorem jobs_ok {bs : List J} (g : Good bs) {l : List Nat} (h : l.Perm (List.range bs.length)) : (∀ p ∈ l.map (job bs), 0 ≤ p.1 ∧ p.1 ≤ 1000 ∧ 0 ≤ p.2 ∧ p.2 ≤ 1000) ∧ l.map (job bs) ≠ [] ∧ (l.map (job bs)).length = bs.length := by
  refine ⟨fun p hp => ?_, fun e => ?_, by rw [List.length_map, perm_len h]⟩
  · obtain ⟨i, hi, rfl⟩ := List.mem_map.mp hp
    have := perm_lt h i hi
    refine g.val _ ?_
    simp only [job, List.getD_eq_getElem?_getD, List.getElem?_eq_getElem this, Option.getD_some]
    exact List.getElem_mem _
  · have := congrArg List.length e
    rw [List.length_map, perm_len h, List.length_nil] at this
    have := g.lo
    omega
theorem comp_places {k : Nat} {μ : Mem} (ss : List Int) {m : Int} (hm : maxOf ss = some m) (hz : ss.length ≤ 1000) (x0 x1 x2 x5 : Option D) :
    compL (turnT (gAt M 0 k) (.cons (.nm 4) (.cons (.nm 6) .nil)) (.cmp .Eq (.var 6) (.bif .max1 (.cons (.var 3) .nil))) (.var 4) [x0, x1, x2, some (.lst (il ss)), none, x5, none]) (enumL 0 (il ss)) [] μ = .ok (plD ss m) μ := by
  rw [enum_il, comp_fmm (fun p : Int × Nat => D.tup [.int (p.2 : Nat), .int p.1]) (fun q => if q.1 = m then some (D.int (q.2 : Int)) else none) (fun p hp => ?_) (by simp; omega), List.nil_append]
  · rfl
  · have e1 := bmax_lst (μ := μ) hm
    rw [turnT_2]
    unfold turnD
    clear hm hz hp
    by_cases h : p.1 = m
    · have e2 : (p.1 == m) = true := beq_iff_eq.mpr h
      rw [if_pos h]
      clear h
      walk_at "go"
    · have e2 : (p.1 == m) = false := beq_eq_false_iff_ne.mpr h
      rw [if_neg h]
      clear h
      walk_at "go"
theorem r_turning (k : Nat) (μ : Mem) {bs : List J} (g : Good bs) {l : List Nat} (h : l.Perm (List.range bs.length)) : run M 0 (k + 5) "turning_places" [bsD bs, oD l] μ = .ok (.tup (plD (sums (l.map (job bs))) (hrs (l.map (job bs))))) (μ ++ [none]) := by
  have hat : M.at_ "turning_places" = some t_turning_places.fn := by rfl
  have ec : c_turning_places = .cons (.exp (.cal "need_order" (.cons (.var 0) (.cons (.var 1) .nil)))) (.cons (.set 2 (.cmpn [("at", 4)] (.nm 4) (.itr (.var 1)) .nop (.idx (.var 0) (.var 4)))) (.cons (.set 3 (.cel .nil)) (.cons (.for (.nm 4) (.rng1 (.bif .len (.cons (.var 2) .nil))) (appS 5)) (.cons (.frz 3)
    (.cons (.ret (.bif .tuple (.cons (.cmpn [("at", 4), ("own", 6)] (.cons (.nm 4) (.cons (.nm 6) .nil)) (.enm (.var 3)) (.cmp .Eq (.var 6) (.bif .max1 (.cons (.var 3) .nil))) (.var 4)) .nil))) .nil))))) := by rfl
  simp only [t_turning_places, ec] at hat
  have hz : l.length ≤ 1000 := by rw [perm_len h]; have := g.hi; omega
  obtain ⟨j1, j2, j3⟩ := jobs_ok g h
  have e0 := r_need_order_ok k μ g h
  have e1 := comp_bodies (k := k + 4) (μ := μ) (perm_lt h) hz (ρ := [some (bsD bs), some (oD l), none, none, none, none, none]) (j := 4) (by simp) (by decide) rfl
  have e2 := w_o l
  have hz2 : (l.map (job bs)).length ≤ 1000 := by rw [List.length_map]; exact hz
  have hm := sums_max (fun p hp => (j1 p hp).1) j2
  generalize hrs (l.map (job bs)) = m at *
  generalize l.map (job bs) = js at *
  obtain ⟨x4', e3⟩ := sums_loop (v := 5) (.inl rfl) (k := k + 4) (μ := μ) hz2 (some (bsD bs)) (some (oD l)) none none none
  have e4 : ∀ ν : Mem, bifD .len [.lst (js.map pD)] ν = .ok (.int js.length) ν := fun ν => by rw [blen, List.length_map]
  have e5 : rngOk (js.length : Int) = true := by unfold rngOk; exact decide_eq_true (by omega)
  have e6 : ∀ c : Option Cell, (μ ++ [c])[μ.length]? = some c := fun c => mem_last
  have e7 : ∀ c : Option Cell, (μ ++ [c]).set μ.length none = μ ++ [none] := fun c => frz_last
  have e8 := @w_lst (il (sums js))
  have e9 := fun x5 => comp_places (k := k + 4) (μ := μ ++ [none]) (sums js) hm (by rw [sums_len]; exact hz2) (some (bsD bs)) (some (oD l)) (some (.lst (js.map pD))) x5
  have ea := @btup (μ ++ [none]) (plD (sums js) m)
  clear g h hz hz2 j1 j2 j3 hm
  generalize bsD bs = B at *
  generalize oD l = O at *
  generalize appS 5 = A at *
  walk_at "run"
/-! ### all orders -/
def rowsS (n : Nat) (l : List (List Nat)) (r : List Nat) : List (List Nat) := l ++ ((List.range n).filter fun a => decide (a ∉ r)).map fun a => r ++ [a]
theorem rowsS_fold (n : Nat) : ∀ (l acc : List (List Nat)), l.foldl (rowsS n) acc = acc ++ l.flatMap fun r => ((List.range n).filter fun a => decide (a ∉ r)).map fun a => r ++ [a]
  | [], acc => by simp
  | r :: l, acc => by
    rw [List.foldl_cons, rowsS_fold n l]
    unfold rowsS
    simp
theorem rows_small : ∀ n : Nat, n ≤ 4 → ∀ t : Nat, t ≤ n → (rows n t).length ≤ 24 := by decide
theorem oD_app (r : List Nat) (a : Nat) : D.tup (il (nx r) ++ [.int (a : Int)]) = oD (r ++ [a]) := by
  simp [oD, nx, il]
theorem nx_mem {a : Nat} {r : List Nat} : (a : Int) ∈ nx r ↔ a ∈ r := by
  unfold nx
  rw [List.mem_map]
  exact ⟨fun ⟨b, hb, e⟩ => by rw [show a = b from by omega]; exact hb, fun h => ⟨a, h, rfl⟩⟩
def rowB1 : S := .cons (.set 3 (.bin .Add (.var 3) (.cmpn [("at", 5)] (.nm 5) (.rng1 (.var 0)) (.cmp .NotIn (.var 5) (.var 4)) (.bin .Add (.var 4) (.tup (.cons (.var 5) .nil)))))) .nil
theorem rows_turn {k n : Nat} {μ : Mem} (hn : n ≤ 4) {r : List Nat} (hr : r.length ≤ 4) {acc : List (List Nat)} (ha : acc.length ≤ 1000) (x1 x2 x4 x5 : Option D) :
    forT (gAt M 0 k) (.nm 4) rowB1 (oD r) [some (.int (n : Int)), x1, x2, some (.lst (acc.map oD)), x4, x5] μ = .ok (.nx [some (.int (n : Int)), x1, x2, some (.lst ((rowsS n acc r).map oD)), some (oD r), x5]) μ := by
  have e1 : rngOk (n : Int) = true := by unfold rngOk; exact decide_eq_true (by omega)
  have e2 : compL (turnT (gAt M 0 k) (.nm 5) (.cmp .NotIn (.var 5) (.var 4)) (.bin .Add (.var 4) (.tup (.cons (.var 5) .nil))) [some (.int (n : Int)), x1, x2, some (.lst (acc.map oD)), some (oD r), none]) (rngL 0 (n : Int)) [] μ = .ok ((((List.range n).filter fun a => decide (a ∉ r)).map fun a => r ++ [a]).map oD) μ := by
    rw [rgl_il, show il ((List.range n).map fun (i : Nat) => (i : Int)) = (List.range n).map fun (i : Nat) => D.int (i : Int) from by simp [il, Function.comp_def]]
    rw [comp_fmm (fun (i : Nat) => D.int (i : Int)) (fun i => if decide (i ∉ r) then some (oD (r ++ [i])) else none) (fun i hi => ?_) (by simp; omega), fm_filter, List.nil_append, List.map_map]
    · rfl
    · have e3 := @in_ints (i : Int) (nx r) μ
      have e4 := @b_tup (il (nx r)) [D.int (i : Int)] μ (by rw [il_length, nx_len]; simp; omega)
      rw [oD_app] at e4
      have e3 : cmpD .NotIn (.int (i : Int)) (oD r) μ = .ok (!decide ((i : Int) ∈ nx r)) μ := e3
      have e4 : binD .Add (oD r) (.tup [.int (i : Int)]) μ = .ok (oD (r ++ [i])) μ := e4
      have e5 : decide ((i : Int) ∈ nx r) = decide (i ∈ r) := decide_eq_decide.mpr nx_mem
      rw [e5] at e3
      rw [turnT_nm]
      unfold turnD
      clear hn hr ha hi e5
      generalize oD r = R at *
      by_cases h : i ∈ r
      · have q1 : decide (i ∈ r) = true := decide_eq_true h
        have q2 : decide (i ∉ r) = false := decide_eq_false (fun z => z h)
        rw [q2]
        rw [q1] at e3
        clear q1 q2 h
        walk_at "go"
      · have q1 : decide (i ∈ r) = false := decide_eq_false h
        have q2 : decide (i ∉ r) = true := decide_eq_true h
        rw [q2]
        rw [q1] at e3
        clear q1 q2 h
        walk_at "go"
  have e3 := @b_lst μ (acc.map oD) ((((List.range n).filter fun a => decide (a ∉ r)).map fun a => r ++ [a]).map oD) (by
    have := List.length_filter_le (fun a => decide (a ∉ r)) (List.range n)
    simp only [List.length_map, List.length_range] at this ⊢
    omega)
  rw [← List.map_append] at e3
  have e4 : acc ++ ((List.range n).filter fun a => decide (a ∉ r)).map (fun a => r ++ [a]) = rowsS n acc r := rfl
  rw [e4] at e3
  rw [forT_nm]
  generalize (((List.range n).filter fun a => decide (a ∉ r)).map fun a => r ++ [a]).map oD = Z at *
  generalize (rowsS n acc r).map oD = Y at *
  clear hn hr ha e4
  generalize oD r = R at *
  unfold rowB1
  walk_at "go"
theorem fold_len (n : Nat) (l l' : List (List Nat)) : (l.foldl (rowsS n) []).length ≤ ((l ++ l').foldl (rowsS n) []).length := by
  rw [rowsS_fold, rowsS_fold, List.flatMap_append]
  simp
theorem rows_inner {k n t : Nat} {μ : Mem} (hn : n ≤ 4) (ht : t < n) (x1 x2 x4 x5 : Option D) :
    ∃ x4', forL (forT (gAt M 0 k) (.nm 4) rowB1) ((rows n t).map oD) [some (.int (n : Int)), x1, x2, some (.lst []), x4, x5] μ = .ok (.nx [some (.int (n : Int)), x1, x2, some (.lst ((rows n (t + 1)).map oD)), x4', x5]) μ := by
  have e := for_pre (μ := μ) (turn := forT (gAt M 0 k) (.nm 4) rowB1) oD (fun s : List (List Nat) × Option D => [some (.int (n : Int)), x1, x2, some (.lst (s.1.map oD)), s.2, x5]) (fun s r => (rowsS n s.1 r, some (oD r))) (s0 := ([], x4)) (ps := rows n t) (pre := []) (fun pre p post hq => by
    have hp : p ∈ rows n t := by rw [show rows n t = pre ++ p :: post from hq]; simp
    have h1 := (mem_rows.mp hp).1
    have f1 : ∀ (l : List (List Nat)) (s : List (List Nat) × Option D), (l.foldl (fun (s : List (List Nat) × Option D) r => (rowsS n s.1 r, some (oD r))) s).1 = l.foldl (rowsS n) s.1 := fun l => by
      induction l with
      | nil => intro s; rfl
      | cons r l ih => intro s; exact ih _
    have h2 := fold_len n pre (p :: post)
    rw [← hq, rowsS_fold n (_ ++ _)] at h2
    have h3 := rows_small n hn (t + 1) (by omega)
    have h4 : (pre.foldl (fun (s : List (List Nat) × Option D) r => (rowsS n s.1 r, some (oD r))) ([], x4)).1.length ≤ 1000 := by
      rw [f1]
      show (List.foldl (rowsS n) [] pre).length ≤ 1000
      simp only [List.nil_append] at h2
      have : ((rows n t).flatMap fun r => ((List.range n).filter fun a => decide (a ∉ r)).map fun a => r ++ [a]).length = (rows n (t + 1)).length := rfl
      omega
    exact rows_turn hn (by omega) h4 x1 x2 _ x5)
  have f1 : ∀ (l : List (List Nat)) (s : List (List Nat) × Option D), (l.foldl (fun (s : List (List Nat) × Option D) r => (rowsS n s.1 r, some (oD r))) s).1 = l.foldl (rowsS n) s.1 := fun l => by
    induction l with
    | nil => intro s; rfl
    | cons r l ih => intro s; exact ih _
  have f2 := f1 (rows n t) ([], x4)
  rw [rowsS_fold] at f2
  refine ⟨((rows n t).foldl (fun (s : List (List Nat) × Option D) r => (rowsS n s.1 r, some (oD r))) ([], x4)).2, ?_⟩
  rw [List.nil_append, f2] at e
  exact e
def rowB2 : S := .cons (.set 3 (.lst .nil)) (.cons (.for (.nm 4) (.itr (.var 1)) rowB1) (.cons (.set 1 (.var 3)) .nil))
theorem r_rows (k : Nat) (μ : Mem) {n : Nat} (hn : n ≤ 4) : run M 0 (k + 1) "_law_rows" [.int (n : Int)] μ = .ok (.lst ((rows n n).map oD)) μ := by
  have hat : M.at_ "_law_rows" = some t__law_rows.fn := by rfl
  have ec : c__law_rows = .cons (.set 1 (.lst (.cons (.tup .nil) .nil))) (.cons (.for (.nm 2) (.rng1 (.var 0)) rowB2) (.cons (.ret (.var 1)) .nil)) := by rfl
  simp only [t__law_rows, ec] at hat
  obtain ⟨ρ', μ', ⟨x2, x3, x4, x5, q1, q2⟩, e⟩ := for_inv (turn := forT (gAt M 0 k) (.nm 2) rowB2)
    (I := fun i ρ ν => ∃ x2 x3 x4 x5, ρ = [some (.int (n : Int)), some (.lst ((rows n i).map oD)), x2, x3, x4, x5] ∧ ν = μ)
    (xs := rngL 0 (n : Int)) (n := 0) (ρ := [some (.int (n : Int)), some (.lst [.tup []]), none, none, none, none]) (μ := μ)
    (fun i dd ρ ν hdd ⟨x2, x3, x4, x5, q1, q2⟩ => by
      subst q1 q2
      have hi : i < n := by
        have := (List.getElem?_eq_some_iff.mp hdd).1
        rw [rgl_il] at this
        simpa [il] using this
      rw [Nat.zero_add]
      obtain ⟨x4', e1⟩ := rows_inner (k := k) (μ := ν) hn hi (some (.lst ((rows n i).map oD))) (some dd) x4 x5
      refine ⟨[some (.int (n : Int)), some (.lst ((rows n (i + 1)).map oD)), some dd, some (.lst ((rows n (i + 1)).map oD)), x4', x5], ν, ⟨some dd, some (.lst ((rows n (i + 1)).map oD)), x4', x5, rfl, rfl⟩, ?_⟩
      have e2 := @w_lst ((rows n i).map oD)
      rw [forT_nm]
      clear hdd hi
      unfold rowB2
      generalize rowB1 = B1 at *
      generalize (rows n i).map oD = R0 at *
      generalize (rows n (i + 1)).map oD = R1 at *
      walk_at "go")
    ⟨none, none, none, none, rfl, rfl⟩
  subst q1 q2
  have e1 : rngOk (n : Int) = true := by unfold rngOk; exact decide_eq_true (by omega)
  have : 0 + (rngL 0 (n : Int)).length = n := by rw [rgl_il]; simp [il]
  rw [this] at e
  clear this hn
  generalize rowB2 = B2 at *
  generalize (rows n n).map oD = R0 at *
  walk_at "run"
end Law_k64

namespace Law_k64
open PySem PySem.Spec PyProof.Rows L2 Den K64
local macro_rules | `(tactic| walk_at "go") => `(tactic| simp only [callM, runB, FT.fn, startD, ev_var, ev_num, ev_txt, ev_bl, ev_non, ev_glo, ev_con, ev_bin, ev_neg, ev_not, ev_one, ev_and, ev_or, ev_cmp, ev_chn, ev_ite, ev_cal0, ev_cal, ev_cav, ev_bif, ev_isi, ev_nil, ev_cons, ev_tup, ev_lst, ev_cel, ev_idx, ev_sli, ev_nop, ev_err, ev_isx, ev_joi, ev_rng1, ev_rng2, ev_itr, ev_itl, ev_zip, ev_zip3, ev_fld, ev_mth0, ev_mth, ev_mk0, ev_pop0, ev_rev, ev_rgl1, ev_rgl2, ev_lset, ev_popi, ev_newb, ev_newl, ev_enm, ex_pass, ex_nil, ex_cons, ex_set, ex_tgt, ex_par, ex_par3, ex_ife, ex_whl, ex_ret, ex_retn, ex_exp, ex_brk, ex_cnt, ex_rai, ex_frz, ex_app, ex_sub, ex_fset, ex_fs3, ex_for, evT, asg, Option.bind_some, ev_cmpn, ev_cmp2, ev_cmpc, wipeD, gcal, gcon, bind_ok, bind_er, bind_no, calm_ok, b_add, b_sub, i_t0, i_t1, c_lt, c_le, c_gt, c_ge, c_eq, c_ne, t_bl, get0, gets, List.length_cons, List.length_nil, List.map_cons, List.map_nil, List.replicate, List.cons_append, List.nil_append, List.set_cons_zero, List.set_cons_succ, List.append_nil, if_true, if_false, Nat.reduceAdd, Nat.reduceSub, Nat.sub_self, Nat.zero_add, reduceIte, Bool.false_eq_true, bgcd, babs, bint, fits, Nat.reduceLeDiff, decide_true, decide_false, Bool.not_true, Bool.not_false, i_c0, i_c1, s_c0, s_c1, blen, tlen, p18, *])
local macro_rules | `(tactic| walk_at "run") => `(tactic| (rw [run_succ]; walk_at "go"))

/-! ### one after the other, by the rule -/
theorem lt_A (bs : List J) (i j : Nat) : KE_lt (rowA bs j) (rowA bs i) = !kA bs i j := by
  unfold rowA kA
  rw [lt_two, ← decide_not, decide_eq_decide]
  omega
theorem lt_B (bs : List J) (i j : Nat) : KE_lt (rowB bs j) (rowB bs i) = !kB bs i j := by
  unfold rowB kB
  rw [lt_two, ← decide_not, decide_eq_decide]
  omega
theorem min_A (bs : List J) (i : Nat) (l : List Nat) (μ : Mem) : bifD .min1 [.lst ((rowA bs i :: l.map (rowA bs)).map rowD)] μ = .ok (.tup [.int (job bs (mnI (kA bs) i l)).1, .int ((mnI (kA bs) i l : Nat) : Int)]) μ := by
  rw [bmin_rows (fun q hq => ?_) μ, minRow_map (rowA bs) l i]
  · have : (l.foldl (fun a y => if KE_lt (rowA bs y) (rowA bs a) = true then y else a) i) = mnI (kA bs) i l := by
      unfold mnI
      congr 1
      funext a y
      rw [lt_A]
    rw [this]
    rfl
  · rcases List.mem_cons.mp hq with rfl | hq
    · exact List.cons_ne_nil _ _
    · obtain ⟨i, _, rfl⟩ := List.mem_map.mp hq
      exact List.cons_ne_nil _ _
theorem min_B (bs : List J) (i : Nat) (l : List Nat) (μ : Mem) : bifD .min1 [.lst ((rowB bs i :: l.map (rowB bs)).map rowD)] μ = .ok (.tup [.int (-(job bs (mnI (kB bs) i l)).2), .int ((mnI (kB bs) i l : Nat) : Int)]) μ := by
  rw [bmin_rows (fun q hq => ?_) μ, minRow_map (rowB bs) l i]
  · have : (l.foldl (fun a y => if KE_lt (rowB bs y) (rowB bs a) = true then y else a) i) = mnI (kB bs) i l := by
      unfold mnI
      congr 1
      funext a y
      rw [lt_B]
    rw [this]
    rfl
  · rcases List.mem_cons.mp hq with rfl | hq
    · exact List.cons_ne_nil _ _
    · obtain ⟨i, _, rfl⟩ := List.mem_map.mp hq
      exact List.cons_ne_nil _ _
theorem comp_A {k : Nat} {ν : Mem} {bs : List J} {lf : List Nat} (hl : ∀ i ∈ lf, i < bs.length) (hz : lf.length ≤ 1000) (x1 x2 x3 x4 x5 x7 : Option D) :
    compL (turnT (gAt M 0 k) (.nm 6) (.cmp .Lt (.idx (.idx (.var 0) (.var 6)) (.num 0)) (.idx (.idx (.var 0) (.var 6)) (.num 1))) (.tup (.cons (.idx (.idx (.var 0) (.var 6)) (.num 0)) (.cons (.var 6) .nil))) [some (bsD bs), x1, x2, x3, x4, x5, none, x7]) (il (nx lf)) [] ν = .ok (((lf.filter (isA bs)).map (rowA bs)).map rowD) ν := by
  rw [il_nl, comp_fmm (fun (i : Nat) => D.int (i : Int)) (fun i => if isA bs i then some (rowD (rowA bs i)) else none) (fun i hi => ?_) (by simp; omega), fm_filter, List.nil_append, List.map_map]
  · rfl
  · have e := i_bs (hl i hi) ν
    rw [turnT_nm]
    unfold turnD
    clear hl hz hi
    generalize bsD bs = B at *
    by_cases h : (job bs i).1 < (job bs i).2
    · have q : isA bs i = true := decide_eq_true h
      walk_at "go"
      rfl
    · have q : isA bs i = false := decide_eq_false h
      walk_at "go"
theorem comp_B {k : Nat} {ν : Mem} {bs : List J} {lf : List Nat} (hl : ∀ i ∈ lf, i < bs.length) (hz : lf.length ≤ 1000) (x1 x2 x3 x4 x5 x7 : Option D) :
    compL (turnT (gAt M 0 k) (.nm 6) (.cmp .GtE (.idx (.idx (.var 0) (.var 6)) (.num 0)) (.idx (.idx (.var 0) (.var 6)) (.num 1))) (.tup (.cons (.neg (.idx (.idx (.var 0) (.var 6)) (.num 1))) (.cons (.var 6) .nil))) [some (bsD bs), x1, x2, x3, x4, x5, none, x7]) (il (nx lf)) [] ν = .ok (((lf.filter fun i => !isA bs i).map (rowB bs)).map rowD) ν := by
  rw [il_nl, comp_fmm (fun (i : Nat) => D.int (i : Int)) (fun i => if !isA bs i then some (rowD (rowB bs i)) else none) (fun i hi => ?_) (by simp; omega), fm_filter, List.nil_append, List.map_map]
  · rfl
  · have e := i_bs (hl i hi) ν
    rw [turnT_nm]
    unfold turnD
    clear hl hz hi
    generalize bsD bs = B at *
    by_cases h : (job bs i).2 ≤ (job bs i).1
    · have q : isA bs i = false := decide_eq_false (by omega)
      walk_at "go"
      rfl
    · have q : isA bs i = true := decide_eq_true (by omega)
      walk_at "go"
theorem comp_ne {k : Nat} {ν : Mem} {lf : List Nat} {a : Nat} (hz : lf.length ≤ 1000) (x0 x1 x2 x3 x4 x5 : Option D) :
    compL (turnT (gAt M 0 k) (.nm 7) (.cmp .NotEq (.var 7) (.var 6)) (.var 7) [x0, x1, x2, x3, x4, x5, some (.int (a : Int)), none]) (il (nx lf)) [] ν = .ok (il (nx (lf.filter fun i => decide (i ≠ a)))) ν := by
  rw [il_nl, comp_fmm (fun (i : Nat) => D.int (i : Int)) (fun i => if decide (i ≠ a) then some (D.int (i : Int)) else none) (fun i hi => ?_) (by simp; omega), fm_filter, List.nil_append, ← il_nl]
  rw [turnT_nm]
  unfold turnD
  clear hz hi
  by_cases h : i = a
  · have q1 : ((i : Int) == (a : Int)) = true := beq_iff_eq.mpr (by omega)
    have q2 : decide (i ≠ a) = false := decide_eq_false (fun z => z h)
    rw [q2]
    clear h q2
    walk_at "go"
  · have q1 : ((i : Int) == (a : Int)) = false := beq_eq_false_iff_ne.mpr (by omega)
    have q2 : decide (i ≠ a) = true := decide_eq_true h
    rw [q2]
    clear h q2
    walk_at "go"
def pickC : C := .ite (.cmp .NotEq (.var 4) (.lst .nil)) (.idx (.bif .min1 (.cons (.var 4) .nil)) (.num 1)) (.idx (.bif .min1 (.cons (.var 5) .nil)) (.num 1))
theorem e_pick {k : Nat} {ν : Mem} {bs : List J} {lf : List Nat} (hne : lf ≠ []) (x0 x1 x2 x3 x6 x7 : Option D) :
    evE (gAt M 0 k) pickC [x0, x1, x2, x3, some (.lst (((lf.filter (isA bs)).map (rowA bs)).map rowD)), some (.lst (((lf.filter fun i => !isA bs i).map (rowB bs)).map rowD)), x6, x7] ν = .ok (.int ((pick bs lf : Nat) : Int)) ν := by
  have e1 := ne_nil_rows ((lf.filter (isA bs)).map (rowA bs)) ν
  unfold pickC pick
  cases hA : lf.filter (isA bs) with
  | cons i l =>
    rw [hA] at e1
    have e2 := min_A bs i l ν
    rw [← List.map_cons] at e2
    simp only [List.map_cons, List.isEmpty_cons, Bool.not_false] at e1 e2
    clear hA hne
    simp only []
    generalize mnI (kA bs) i l = m at *
    walk_at "go"
  | nil =>
    rw [hA] at e1
    simp only [List.map_nil, List.isEmpty_nil, Bool.not_true] at e1
    cases hB : lf.filter fun i => !isA bs i with
    | cons i l =>
      have e2 := min_B bs i l ν
      simp only [List.map_cons] at e2
      clear hA hne hB
      simp only []
      generalize mnI (kB bs) i l = m at *
      walk_at "go"
    | nil =>
      exfalso
      cases lf with
      | nil => exact hne rfl
      | cons i l =>
        cases q : isA bs i with
        | true => rw [List.filter_cons, q] at hA; cases hA
        | false => rw [List.filter_cons, q] at hB; cases hB
def ruleB : S := .cons (.set 4 (.cmpn [("at", 6)] (.nm 6) (.itr (.var 2)) (.cmp .Lt (.idx (.idx (.var 0) (.var 6)) (.num 0)) (.idx (.idx (.var 0) (.var 6)) (.num 1))) (.tup (.cons (.idx (.idx (.var 0) (.var 6)) (.num 0)) (.cons (.var 6) .nil)))))
 (.cons (.set 5 (.cmpn [("at", 6)] (.nm 6) (.itr (.var 2)) (.cmp .GtE (.idx (.idx (.var 0) (.var 6)) (.num 0)) (.idx (.idx (.var 0) (.var 6)) (.num 1))) (.tup (.cons (.neg (.idx (.idx (.var 0) (.var 6)) (.num 1))) (.cons (.var 6) .nil)))))
 (.cons (.set 6 pickC)
 (.cons (.app (.var 1) (.var 6))
 (.cons (.set 2 (.cmpn [("one", 7)] (.nm 7) (.itr (.var 2)) (.cmp .NotEq (.var 7) (.var 6)) (.var 7)))
 .nil))))
theorem rule_turn {k : Nat} {μ : Mem} {bs : List J} {lf fd : List Nat} (hne : lf ≠ []) (hl : ∀ i ∈ lf, i < bs.length) (hz : lf.length ≤ 1000) (hf : fd.length ≤ 1000) (d : D) (x3 x4 x5 x6 x7 : Option D) :
    ∃ x4' x5' x6', forT (gAt M 0 k) (.nm 3) ruleB d [some (bsD bs), some (.cel μ.length), some (.lst (il (nx lf))), x3, x4, x5, x6, x7] (μ ++ [some (.lst (il (nx fd)))]) =
      .ok (.nx [some (bsD bs), some (.cel μ.length), some (.lst (il (nx (lf.filter fun i => decide (i ≠ pick bs lf))))), some d, x4', x5', x6', x7]) (μ ++ [some (.lst (il (nx (fd ++ [pick bs lf]))))]) := by
  refine ⟨some (.lst (((lf.filter (isA bs)).map (rowA bs)).map rowD)), some (.lst (((lf.filter fun i => !isA bs i).map (rowB bs)).map rowD)), some (.int ((pick bs lf : Nat) : Int)), ?_⟩
  have e0 : isCel (μ ++ [some (.lst (il (nx fd)))]) (.cel μ.length) = true := isCel_last
  have ea : appD (.cel μ.length) (.int ((pick bs lf : Nat) : Int)) (μ ++ [some (.lst (il (nx fd)))]) = .ok () (μ ++ [some (.lst (il (nx (fd ++ [pick bs lf]))))]) := by
    rw [app_last (by rw [il_length, nx_len]; omega)]
    simp [il, nx]
  have e1 := fun ν x1 x2 x3 x4 x5 x7 => comp_A (k := k) (ν := ν) hl hz x1 x2 x3 x4 x5 x7
  have e2 := fun ν x1 x2 x3 x4 x5 x7 => comp_B (k := k) (ν := ν) hl hz x1 x2 x3 x4 x5 x7
  have e3 := fun ν x0 x1 x2 x3 x6 x7 => e_pick (k := k) (ν := ν) (bs := bs) hne x0 x1 x2 x3 x6 x7
  have e4 := fun ν x0 x1 x2 x3 x4 x5 => comp_ne (k := k) (ν := ν) (a := pick bs lf) hz x0 x1 x2 x3 x4 x5
  have e5 := @w_lst (il (nx lf))
  rw [forT_nm]
  clear hne hl hz hf
  generalize il (nx (lf.filter fun i => decide (i ≠ pick bs lf))) = L2 at *
  generalize (((lf.filter (isA bs)).map (rowA bs)).map rowD) = RA at *
  generalize (((lf.filter fun i => !isA bs i).map (rowB bs)).map rowD) = RB at *
  generalize il (nx (fd ++ [pick bs lf])) = F2 at *
  generalize il (nx fd) = F1 at *
  generalize il (nx lf) = L1 at *
  generalize pick bs lf = p at *
  generalize bsD bs = B at *
  unfold ruleB
  generalize pickC = P at *
  walk_at "go"
theorem r_by_rule (k : Nat) (μ : Mem) {bs : List J} (g : Good bs) : run M 0 (k + 1) "_law_by_rule" [bsD bs] μ = .ok (oD (best bs)) (μ ++ [none]) := by
  have hat : M.at_ "_law_by_rule" = some t__law_by_rule.fn := by rfl
  have ec : c__law_by_rule = .cons (.par 1 2 (.cel .nil) (.rgl1 0 (.bif .len (.cons (.var 0) .nil)))) (.cons (.for (.nm 3) (.rng1 (.bif .len (.cons (.var 0) .nil))) ruleB) (.cons (.frz 1) (.cons (.ret (.bif .tuple (.cons (.var 1) .nil))) .nil))) := by rfl
  simp only [t__law_by_rule, ec] at hat
  have hg := g.hi
  obtain ⟨ρ', μ', ⟨x3, x4, x5, x6, q1, q2⟩, e⟩ := for_inv (turn := forT (gAt M 0 k) (.nm 3) ruleB)
    (I := fun i ρ ν => ∃ x3 x4 x5 x6, ρ = [some (bsD bs), some (.cel μ.length), some (.lst (il (nx (sel bs i).2))), x3, x4, x5, x6, none] ∧ ν = μ ++ [some (.lst (il (nx (sel bs i).1)))])
    (xs := rngL 0 (bs.length : Int)) (n := 0) (ρ := [some (bsD bs), some (.cel μ.length), some (.lst (il (rng bs.length))), none, none, none, none, none]) (μ := μ ++ [some (.lst [])])
    (fun i dd ρ ν hdd ⟨x3, x4, x5, x6, q1, q2⟩ => by
      subst q1 q2
      have hi : i < bs.length := by
        have := (List.getElem?_eq_some_iff.mp hdd).1
        rw [rgl_il] at this
        simpa [il] using this
      rw [Nat.zero_add]
      obtain ⟨h1, h2, h3, h4⟩ := sel_ok (bs := bs) i (by omega)
      have hl := h1.length_eq
      rw [List.length_append, h2, List.length_range] at hl
      have hne : (sel bs i).2 ≠ [] := fun z => by
        rw [z, List.length_nil] at hl
        omega
      obtain ⟨x4', x5', x6', e1⟩ := rule_turn (k := k) (μ := μ) (bs := bs) hne (fun j hj => List.mem_range.mp (h1.mem_iff.mp (List.mem_append_right _ hj))) (by omega) (fd := (sel bs i).1) (by omega) dd x3 x4 x5 x6 none
      exact ⟨_, _, ⟨some dd, x4', x5', x6', rfl, rfl⟩, e1⟩)
    ⟨none, none, none, none, rfl, rfl⟩
  subst q1 q2
  have e1 : rngOk (bs.length : Int) = true := by unfold rngOk; exact decide_eq_true (by omega)
  have : 0 + (rngL 0 (bs.length : Int)).length = bs.length := by rw [rgl_il]; simp [il]
  rw [this] at e
  rw [sel_best] at e
  have e2 := fun ν => (b_rgl (n := bs.length) (by omega) ν).1
  have e3 := fun ν => bs_len bs ν
  have e6 : ∀ c : Option Cell, (μ ++ [c])[μ.length]? = some c := fun c => mem_last
  have e7 : ∀ c : Option Cell, (μ ++ [c]).set μ.length none = μ ++ [none] := fun c => frz_last
  have e8 := @btup (μ ++ [none]) (il (nx (best bs)))
  rw [show (List.range bs.length).map (fun (i : Nat) => (i : Int)) = rng bs.length from rfl] at e2
  clear this hg g
  unfold oD
  generalize rng bs.length = R0 at *
  generalize bsD bs = B at *
  generalize ruleB = RB at *
  walk_at "run"
end Law_k64

namespace Law_k64
open PySem PySem.Spec PyProof.Rows L2 Den K64
local macro_rules | `(tactic| walk_at "go") => `(tactic| simp only [callM, runB, FT.fn, startD, ev_var, ev_num, ev_txt, ev_bl, ev_non, ev_glo, ev_con, ev_bin, ev_neg, ev_not, ev_one, ev_and, ev_or, ev_cmp, ev_chn, ev_ite, ev_cal0, ev_cal, ev_cav, ev_bif, ev_isi, ev_nil, ev_cons, ev_tup, ev_lst, ev_cel, ev_idx, ev_sli, ev_nop, ev_err, ev_isx, ev_joi, ev_rng1, ev_rng2, ev_itr, ev_itl, ev_zip, ev_zip3, ev_fld, ev_mth0, ev_mth, ev_mk0, ev_pop0, ev_rev, ev_rgl1, ev_rgl2, ev_lset, ev_popi, ev_newb, ev_newl, ev_enm, ex_pass, ex_nil, ex_cons, ex_set, ex_tgt, ex_par, ex_par3, ex_ife, ex_whl, ex_ret, ex_retn, ex_exp, ex_brk, ex_cnt, ex_rai, ex_frz, ex_app, ex_sub, ex_fset, ex_fs3, ex_for, evT, asg, Option.bind_some, ev_cmpn, ev_cmp2, ev_cmpc, wipeD, gcal, gcon, bind_ok, bind_er, bind_no, calm_ok, b_add, b_sub, i_t0, i_t1, c_lt, c_le, c_gt, c_ge, c_eq, c_ne, t_bl, get0, gets, List.length_cons, List.length_nil, List.map_cons, List.map_nil, List.replicate, List.cons_append, List.nil_append, List.set_cons_zero, List.set_cons_succ, List.append_nil, if_true, if_false, Nat.reduceAdd, Nat.reduceSub, Nat.sub_self, Nat.zero_add, reduceIte, Bool.false_eq_true, bgcd, babs, bint, fits, Nat.reduceLeDiff, decide_true, decide_false, Bool.not_true, Bool.not_false, i_c0, i_c1, s_c0, s_c1, blen, tlen, p18, *])
local macro_rules | `(tactic| walk_at "run") => `(tactic| (rw [run_succ]; walk_at "go"))

theorem at_roll : M.at_ "_law_roll" = some (rollFn 29629 9403 2147483543 317 2147483587 919) := by rfl
theorem ok_roll : rollOk 29629 2147483543 317 2147483587 919 = true := by decide
/-! ### a drawn order -/
section
variable {x y : Int} {r : Mem} {c c1 c2 : Option Cell}
theorem two_1 : (cupM x y (r ++ [c1, c2]))[r.length + 1]? = some c1 := by simp [cupM]
theorem two_2 : (cupM x y (r ++ [c1, c2]))[r.length + 2]? = some c2 := by
  unfold cupM
  rw [List.getElem?_cons_succ, List.getElem?_append_right (by omega), show r.length + 1 - r.length = 1 from by omega]
  rfl
theorem two_s1 : (cupM x y (r ++ [c1, c2])).set (r.length + 1) c = cupM x y (r ++ [c, c2]) := by
  unfold cupM
  rw [List.set_cons_succ, List.set_append_right _ _ (Nat.le_refl _), Nat.sub_self]
  rfl
theorem two_s2 : (cupM x y (r ++ [c1, c2])).set (r.length + 2) c = cupM x y (r ++ [c1, c]) := by
  unfold cupM
  rw [List.set_cons_succ, List.set_append_right _ _ (by omega), show r.length + 1 - r.length = 1 from by omega]
  rfl
end
def mixB : S := .cons (.app (.var 3) (.popi (.var 2) (.cal "_law_roll" (.cons (.var 0) (.cons (.bif .len (.cons (.var 2) .nil)) .nil))))) .nil
theorem erase_perm {l : List Nat} {i : Nat} (h : i < l.length) : (l[i] :: l.eraseIdx i).Perm l := by
  rw [List.eraseIdx_eq_take_drop_succ]
  refine (List.perm_middle (a := l[i]) (l₁ := l.take i) (l₂ := l.drop (i + 1))).symm.trans ?_
  rw [← List.drop_eq_getElem_cons h, List.take_append_drop]
theorem mix_turn (k : Nat) (x y : Int) (r : Mem) {lf fd : List Nat} (hne : lf ≠ []) (hz : lf.length ≤ 1000) (hf : fd.length ≤ 1000) (n d : Option D) (dd : D) :
    ∃ x' y' i, ∃ h : i < lf.length, forT (gAt M 0 (k + 1)) (.nm 4) mixB dd [some (.cel 0), n, some (.cel (r.length + 1)), some (.cel (r.length + 2)), d] (cupM x y (r ++ [some (.lst (il (nx lf))), some (.lst (il (nx fd)))])) =
      .ok (.nx [some (.cel 0), n, some (.cel (r.length + 1)), some (.cel (r.length + 2)), some dd]) (cupM x' y' (r ++ [some (.lst (il (nx (lf.eraseIdx i)))), some (.lst (il (nx (fd ++ [lf[i]]))))])) := by
  have hp : 0 < lf.length := List.length_pos_iff.mpr hne
  obtain ⟨v, x', y', h0, h1, e1⟩ := r_roll (W := 0) at_roll ok_roll k x y (r ++ [some (.lst (il (nx lf))), some (.lst (il (nx fd)))]) (lf.length : Int) (by omega) (log2_small (by omega) (by omega))
  have hi : v.toNat < lf.length := by omega
  refine ⟨x', y', v.toNat, hi, ?_⟩
  have g1 : ∀ x y : Int, isCel (cupM x y (r ++ [some (.lst (il (nx lf))), some (.lst (il (nx fd)))])) (.cel (r.length + 1)) = true := fun x y => by simp only [isCel, two_1]
  have g2 : ∀ x y : Int, isCel (cupM x y (r ++ [some (.lst (il (nx lf))), some (.lst (il (nx fd)))])) (.cel (r.length + 2)) = true := fun x y => by simp only [isCel, two_2]
  have g3 : ∀ x y : Int, bifD .len [.cel (r.length + 1)] (cupM x y (r ++ [some (.lst (il (nx lf))), some (.lst (il (nx fd)))])) = .ok (.int (lf.length : Int)) (cupM x y (r ++ [some (.lst (il (nx lf))), some (.lst (il (nx fd)))])) := fun x y => by
    simp only [bifD, asSeq, asLst, two_1, il_length, nx_len]
  have g4 : popI (.cel (r.length + 1)) v (cupM x' y' (r ++ [some (.lst (il (nx lf))), some (.lst (il (nx fd)))])) = .ok (.int ((lf[v.toNat] : Nat) : Int)) (cupM x' y' (r ++ [some (.lst (il (nx (lf.eraseIdx v.toNat)))), some (.lst (il (nx fd)))])) := by
    have q1 : (decide (0 ≤ v) && rngOk v) = true := by
      unfold rngOk
      rw [Bool.and_eq_true, decide_eq_true_eq, decide_eq_true_eq]
      omega
    have q2 : (il (nx lf))[v.toNat]? = some (.int ((lf[v.toNat] : Nat) : Int)) := by
      simp [il, nx, List.getElem?_eq_getElem hi]
    simp only [popI, two_1, q1, if_true, q2, two_s1]
    rw [show (il (nx lf)).eraseIdx v.toNat = il (nx (lf.eraseIdx v.toNat)) from by
      unfold il nx
      simp only [List.eraseIdx_eq_take_drop_succ, List.map_append, List.map_take, List.map_drop]]
  have g5 : appD (.cel (r.length + 2)) (.int ((lf[v.toNat] : Nat) : Int)) (cupM x' y' (r ++ [some (.lst (il (nx (lf.eraseIdx v.toNat)))), some (.lst (il (nx fd)))])) = .ok () (cupM x' y' (r ++ [some (.lst (il (nx (lf.eraseIdx v.toNat)))), some (.lst (il (nx (fd ++ [lf[v.toNat]]))))])) := by
    have q : decide ((il (nx fd)).length < 16777216) = true := decide_eq_true (by rw [il_length, nx_len]; omega)
    simp only [appD, two_2, q, if_true, two_s2]
    rw [show il (nx fd) ++ [D.int ((lf[v.toNat] : Nat) : Int)] = il (nx (fd ++ [lf[v.toNat]])) from by simp [il, nx]]
  rw [forT_nm]
  clear hne hz hf hp h0 h1
  unfold mixB
  generalize il (nx (fd ++ [lf[v.toNat]])) = F2 at *
  generalize il (nx (lf.eraseIdx v.toNat)) = L2 at *
  generalize il (nx lf) = L1 at *
  generalize il (nx fd) = F1 at *
  generalize lf[v.toNat] = p at *
  walk_at "go"
theorem r_mixed (k : Nat) (x y : Int) (r : Mem) {n : Nat} (hn : n ≤ 10) :
    ∃ l x' y' r', l.Perm (List.range n) ∧ run M 0 (k + 2) "_law_mixed" [.cel 0, .int (n : Int)] (cupM x y r) = .ok (oD l) (cupM x' y' (r ++ r')) := by
  have hat : M.at_ "_law_mixed" = some t__law_mixed.fn := by rfl
  have ec : c__law_mixed = .cons (.par 2 3 (.rgl1 2 (.var 1)) (.cel .nil)) (.cons (.for (.nm 4) (.rng1 (.var 1)) mixB) (.cons (.frz 3) (.cons (.ret (.bif .tuple (.cons (.var 3) .nil))) .nil))) := by rfl
  simp only [t__law_mixed, ec] at hat
  obtain ⟨ρ', μ', ⟨x', y', lf, fd, x4, q1, q2, q3, q4⟩, e⟩ := for_inv (turn := forT (gAt M 0 (k + 1)) (.nm 4) mixB)
    (I := fun i ρ ν => ∃ x y lf fd x4, ρ = [some (.cel 0), some (.int (n : Int)), some (.cel (r.length + 1)), some (.cel (r.length + 2)), x4] ∧ ν = cupM x y (r ++ [some (.lst (il (nx lf))), some (.lst (il (nx fd)))]) ∧ (fd ++ lf).Perm (List.range n) ∧ fd.length = i)
    (xs := rngL 0 (n : Int)) (n := 0) (ρ := [some (.cel 0), some (.int (n : Int)), some (.cel (r.length + 1)), some (.cel (r.length + 2)), none]) (μ := cupM x y (r ++ [some (.lst (il (rng n))), some (.lst [])]))
    (fun i dd ρ ν hdd ⟨x, y, lf, fd, x4, q1, q2, q3, q4⟩ => by
      subst q1 q2
      have hi : i < n := by
        have := (List.getElem?_eq_some_iff.mp hdd).1
        rw [rgl_il] at this
        simpa [il] using this
      rw [Nat.zero_add] at q4 ⊢
      have hl := perm_len q3
      rw [List.length_append, q4] at hl
      have hne : lf ≠ [] := fun z => by
        rw [z, List.length_nil] at hl
        omega
      obtain ⟨x', y', j, hj, e1⟩ := mix_turn k x y r hne (by omega) (fd := fd) (by omega) (some (.int (n : Int))) x4 dd
      refine ⟨_, _, ⟨x', y', lf.eraseIdx j, fd ++ [lf[j]], some dd, rfl, rfl, ?_, by simp [q4]⟩, e1⟩
      rw [List.append_assoc]
      exact ((erase_perm hj).append_left fd).trans q3)
    ⟨x, y, List.range n, [], none, rfl, rfl, .refl _, rfl⟩
  subst q1 q2
  have hl := perm_len q3
  have : 0 + (rngL 0 (n : Int)).length = n := by rw [rgl_il]; simp [il]
  rw [this] at q4
  rw [List.length_append, q4] at hl
  have hlf : lf = [] := List.length_eq_zero_iff.mp (by omega)
  subst hlf
  rw [List.append_nil] at q3
  refine ⟨fd, x', y', [some (.lst []), none], q3, ?_⟩
  have e1 : rngOk (n : Int) = true := by unfold rngOk; exact decide_eq_true (by omega)
  have e2 := fun ν => (b_rgl (n := n) (by omega) ν).2.2
  rw [show (List.range n).map (fun (i : Nat) => (i : Int)) = rng n from rfl] at e2
  have e3 : (cupM x y r).length = r.length + 1 := rfl
  have e4 : ∀ c : Option Cell, (cupM x y (r ++ [c])).length = r.length + 2 := fun c => by simp [cupM]
  have e5 : ∀ c c' : Option Cell, cupM x y (r ++ [c]) ++ [c'] = cupM x y (r ++ [c, c']) := fun c c' => by simp [cupM]
  have e6 := @btup (cupM x' y' (r ++ [some (.lst []), none])) (il (nx fd))
  have e7 : il (nx []) = [] := rfl
  have e8 := fun c1 c2 => @two_2 x' y' r c1 c2
  have e9 := fun c c1 c2 => @two_s2 x' y' r c c1 c2
  have ea := @cupM_app x y r
  rw [e7] at e
  clear this q3 q4 hl hn e7
  unfold oD
  generalize rng n = R0 at *
  generalize mixB = MB at *
  walk_at "run"
/-! ### what is asked of an order -/
theorem placesG {g : G} {μ : Mem} {i j s : Nat} {ρ : DEnv} (ss : List Int) {m : Int} (hm : maxOf ss = some m) (hz : ss.length ≤ 1000) (hi : ∀ a b : Option D, ((ρ.set i a).set j b)[i]? = some a) (hj : ∀ a b : Option D, ((ρ.set i a).set j b)[j]? = some b)
    (hs : ∀ a b : Option D, ((ρ.set i a).set j b)[s]? = some (some (.lst (il ss)))) :
    compL (turnT g (.cons (.nm i) (.cons (.nm j) .nil)) (.cmp .Eq (.var j) (.bif .max1 (.cons (.var s) .nil))) (.var i) ρ) (enumL 0 (il ss)) [] μ = .ok (plD ss m) μ := by
  rw [enum_il, comp_fmm (fun p : Int × Nat => D.tup [.int (p.2 : Nat), .int p.1]) (fun q => if q.1 = m then some (D.int (q.2 : Int)) else none) (fun p hp => ?_) (by simp; omega), List.nil_append]
  · rfl
  · have e1 := bmax_lst (μ := μ) hm
    rw [turnT_2]
    have hi := hi (some (.int (p.2 : Nat))) (some (.int p.1))
    have hj := hj (some (.int (p.2 : Nat))) (some (.int p.1))
    have hs := hs (some (.int (p.2 : Nat))) (some (.int p.1))
    generalize (ρ.set i (some (.int (p.2 : Nat)))).set j (some (.int p.1)) = ρ' at *
    unfold turnD
    clear hm hz hp
    by_cases h : p.1 = m
    · have e2 : (p.1 == m) = true := beq_iff_eq.mpr h
      rw [if_pos h]
      clear h
      walk_at "go"
    · have e2 : (p.1 == m) = false := beq_eq_false_iff_ne.mpr h
      rw [if_neg h]
      clear h
      walk_at "go"
theorem pl_lk (ss : List Int) (m : Int) : ∀ d ∈ plD ss m, lkD 0 d = true := fun d hd => by
  unfold plD at hd
  obtain ⟨q, _, h⟩ := List.mem_filterMap.mp hd
  split at h
  · cases h; rfl
  · cases h
def bodyO : S := .cons (.tgt (.cons (.nm 6) (.cons (.nm 7) .nil)) (.tup (.cons (.cal "_law_hours" (.cons (.var 1) (.cons (.var 5) .nil))) (.cons (.cal "_law_sums" (.cons (.var 1) (.cons (.var 5) .nil))) .nil))))
 (.cons (.set 8 (.bif .tuple (.cons (.cmpn [("place", 17), ("own", 18)] (.cons (.nm 17) (.cons (.nm 18) .nil)) (.enm (.var 7)) (.cmp .Eq (.var 18) (.bif .max1 (.cons (.var 7) .nil))) (.var 17)) .nil)))
 (.cons (.ife (.not (.cal "_law_like" (.cons (.lst (.cons (.cal "hours_by" (.cons (.var 1) (.cons (.var 5) .nil))) (.cons (.cal "turning_places" (.cons (.var 1) (.cons (.var 5) .nil))) .nil))) (.cons (.lst (.cons (.var 6) (.cons (.var 8) .nil))) .nil)))) (.cons (.ret (.bl false)) .nil) .nil)
 (.cons (.ife (.or (.cmp .NotEq (.var 6) (.bif .max1 (.cons (.var 7) .nil))) (.one (.cmp .Lt (.var 6) (.var 3)))) (.cons (.ret (.bl false)) .nil) .nil)
 .nil)))
theorem order_turn (k : Nat) (μ : Mem) {bs : List J} (g : Good bs) {l : List Nat} (h : l.Perm (List.range bs.length)) (x0 x2 x4 x5 x6 x7 x8 : Option D) :
    ∃ x6' x7' x8', forT (gAt M 0 (k + 5)) (.nm 5) bodyO (oD l) [x0, some (bsD bs), x2, some (.int (hrs ((best bs).map (job bs)))), x4, x5, x6, x7, x8, none, none, none, none, none, none, none, none, none, none, none, none] μ =
      .ok (.nx [x0, some (bsD bs), x2, some (.int (hrs ((best bs).map (job bs)))), x4, some (oD l), x6', x7', x8', none, none, none, none, none, none, none, none, none, none, none, none]) (μ ++ [none, none]) := by
  have e1 := r_law_hours (k + 4) μ (perm_lt h)
  have e2 := r_law_sums (k + 4) μ g h
  have e3 := r_hours_by k (μ ++ [none]) g h
  have e4 := r_turning k (μ ++ [none]) g h
  obtain ⟨j1, j2, j3⟩ := jobs_ok g h
  have hm := sums_max (fun p hp => (j1 p hp).1) j2
  have ho := best_opt h
  have hz : (sums (l.map (job bs))).length ≤ 1000 := by rw [sums_len, j3]; have := g.hi; omega
  have e6 := bmax_lst (μ := μ ++ [none, none]) hm
  generalize hrs ((best bs).map (job bs)) = due at *
  generalize hrs (l.map (job bs)) = hh at *
  generalize sums (l.map (job bs)) = ss at *
  refine ⟨some (.int hh), some (.lst (il ss)), some (.tup (plD ss hh)), ?_⟩
  have e7 : compL (turnT (gAt M 0 (k + 5)) (.cons (.nm 17) (.cons (.nm 18) .nil)) (.cmp .Eq (.var 18) (.bif .max1 (.cons (.var 7) .nil))) (.var 17) [x0, some (bsD bs), x2, some (.int due), x4, some (oD l), some (.int hh), some (.lst (il ss)), x8, none, none, none, none, none, none, none, none, none, none, none, none]) (enumL 0 (il ss)) [] (μ ++ [none]) = .ok (plD ss hh) (μ ++ [none]) :=
    placesG ss hm hz (fun _ _ => rfl) (fun _ _ => rfl) fun _ _ => rfl
  have e8 := @btup (μ ++ [none]) (plD ss hh)
  have e9 := @w_lst (il ss)
  have ea := r_like (W := 0) at_like at_sort (k + 1) (μ ++ [none, none]) 2 (.lst [.int hh, .tup (plD ss hh)]) (by
    show [D.int hh, .tup (plD ss hh)].all (lkD 1) = true
    refine List.all_eq_true.mpr fun d hd => ?_
    simp only [List.mem_cons, List.not_mem_nil, or_false] at hd
    rcases hd with rfl | rfl
    · rfl
    · exact List.all_eq_true.mpr fun d hd => pl_lk ss hh d hd)
  have eb : decide (hh < due) = false := decide_eq_false (by omega)
  have ec : (hh == hh) = true := beq_self_eq_true hh
  have ed : μ ++ [none] ++ [none] = μ ++ [none, none] := by simp
  rw [forT_nm]
  clear g h hm ho hz j1 j2 j3
  unfold bodyO
  generalize plD ss hh = P at *
  generalize il ss = SS at *
  generalize oD l = O at *
  generalize bsD bs = B at *
  walk_at "go"
/-! ### what is asked of a value -/
def bodyN : S := .cons (.ife (.not (.cal "_law_like" (.cons (.cal "is_order" (.cons (.var 1) (.cons (.var 14) (.cons (.var 12) .nil)))) (.cons (.and (.var 13) (.one (.cmp .LtE (.var 6) (.var 14)))) .nil)))) (.cons (.ret (.bl false)) .nil) .nil) .nil
def hoursV (bs : List J) (v : D) : Int := if ordB bs.length v then hrsV bs v else 0
theorem num_loop (k : Nat) (μ : Mem) {bs : List J} (g : Good bs) {v : D} (hv : Fine v) (x0 x2 x3 x4 x5 x7 x8 x9 xa xb xf : Option D) : ∀ (ns : List Int), (∀ n ∈ ns, 0 ≤ n ∧ n ≤ 20000) → ∀ xe : Option D,
    ∃ xe', forL (forT (gAt M 0 (k + 7)) (.nm 14) bodyN) (il ns) [x0, some (bsD bs), x2, x3, x4, x5, some (.int (hoursV bs v)), x7, x8, x9, xa, xb, some v, some (.bl (ordB bs.length v)), xe, xf, none, none, none, none, none] μ =
      .ok (.nx [x0, some (bsD bs), x2, x3, x4, x5, some (.int (hoursV bs v)), x7, x8, x9, xa, xb, some v, some (.bl (ordB bs.length v)), xe', xf, none, none, none, none, none]) μ
  | [], _, xe => ⟨xe, rfl⟩
  | n :: ns, hn, xe => by
    obtain ⟨h0, h1⟩ := hn n List.mem_cons_self
    obtain ⟨xe', ih⟩ := num_loop k μ g hv x0 x2 x3 x4 x5 x7 x8 x9 xa xb xf ns (fun m hm => hn m (List.mem_cons_of_mem _ hm)) (some (.int n))
    refine ⟨xe', ?_⟩
    have e1 := r_is_order (k + 3) μ g hv h0 h1
    have e2 := r_like (W := 0) at_like at_sort (k + 5) μ 0 (.bl (ordB bs.length v && decide (hrsV bs v ≤ n))) rfl
    have e : forT (gAt M 0 (k + 7)) (.nm 14) bodyN (.int n) [x0, some (bsD bs), x2, x3, x4, x5, some (.int (hoursV bs v)), x7, x8, x9, xa, xb, some v, some (.bl (ordB bs.length v)), xe, xf, none, none, none, none, none] μ =
      .ok (.nx [x0, some (bsD bs), x2, x3, x4, x5, some (.int (hoursV bs v)), x7, x8, x9, xa, xb, some v, some (.bl (ordB bs.length v)), some (.int n), xf, none, none, none, none, none]) μ := by
      rw [forT_nm]
      unfold hoursV bodyN
      clear ih hn h0 h1 hv g
      generalize hrsV bs v = hh at *
      cases q : ordB bs.length v with
      | true =>
        rw [q] at e1 e2
        simp only [Bool.true_and, if_true] at e1 e2 ⊢
        clear q
        generalize bsD bs = B at *
        walk_at "go"
      | false =>
        rw [q] at e1 e2
        simp only [Bool.false_and] at e1 e2
        clear q
        generalize bsD bs = B at *
        walk_at "go"
    rw [show il (n :: ns) = .int n :: il ns from rfl]
    simp only [forL, e, bind_ok, ih]
end Law_k64

namespace Law_k64
open PySem PySem.Spec PyProof.Rows L2 Den K64
local macro_rules | `(tactic| walk_at "go") => `(tactic| simp only [callM, runB, FT.fn, startD, ev_var, ev_num, ev_txt, ev_bl, ev_non, ev_glo, ev_con, ev_bin, ev_neg, ev_not, ev_one, ev_and, ev_or, ev_cmp, ev_chn, ev_ite, ev_cal0, ev_cal, ev_cav, ev_bif, ev_isi, ev_nil, ev_cons, ev_tup, ev_lst, ev_cel, ev_idx, ev_sli, ev_nop, ev_err, ev_isx, ev_joi, ev_rng1, ev_rng2, ev_itr, ev_itl, ev_zip, ev_zip3, ev_fld, ev_mth0, ev_mth, ev_mk0, ev_pop0, ev_rev, ev_rgl1, ev_rgl2, ev_lset, ev_popi, ev_newb, ev_newl, ev_enm, ex_pass, ex_nil, ex_cons, ex_set, ex_tgt, ex_par, ex_par3, ex_ife, ex_whl, ex_ret, ex_retn, ex_exp, ex_brk, ex_cnt, ex_rai, ex_frz, ex_app, ex_sub, ex_fset, ex_fs3, ex_for, evT, asg, Option.bind_some, ev_cmpn, ev_cmp2, ev_cmpc, wipeD, gcal, gcon, bind_ok, bind_er, bind_no, calm_ok, b_add, b_sub, i_t0, i_t1, c_lt, c_le, c_gt, c_ge, c_eq, c_ne, t_bl, get0, gets, List.length_cons, List.length_nil, List.map_cons, List.map_nil, List.replicate, List.cons_append, List.nil_append, List.set_cons_zero, List.set_cons_succ, List.append_nil, if_true, if_false, Nat.reduceAdd, Nat.reduceSub, Nat.sub_self, Nat.zero_add, reduceIte, Bool.false_eq_true, bgcd, babs, bint, fits, Nat.reduceLeDiff, decide_true, decide_false, Bool.not_true, Bool.not_false, i_c0, i_c1, s_c0, s_c1, blen, tlen, p18, *])
local macro_rules | `(tactic| walk_at "run") => `(tactic| (rw [run_succ]; walk_at "go"))

theorem hnd_row : M.hnd "_law_fails" (some ⟨"InvalidRow", []⟩) = some (.str "row") := by kernel_rfl
theorem hnd_hours : M.hnd "_law_fails" (some ⟨"InvalidHours", []⟩) = some (.str "hours") := by kernel_rfl
theorem hnd_number : M.hnd "_law_fails" (some ⟨"InvalidNumber", []⟩) = some (.str "number") := by kernel_rfl
theorem dp_at (k : Nat) : (gAt M 0 (k + 2)).dp = true := by
  show decide (2 ≤ k + 2) = true
  exact decide_eq_true (by omega)
theorem low_at (k : Nat) (f : Str) (ds : List D) (μ : Mem) : (gAt M 0 (k + 2)).low.cal f ds μ = run M 0 k f ds μ := rfl
theorem told_str {z : Str} {μ : Mem} : told (some (.str z)) μ = .ok (.str z) μ := rfl
theorem low_lu (k : Nat) (i : Nat) (as : C) (fs : List Str) (ρ : DEnv) (μ : Mem) (f : Str) (h : ρ[i]? = some (some (.glo f))) (hf : fs.contains f = true) : evE (gAt M 0 (k + 2)).low (.cav i fs as) ρ μ = (evE (gAt M 0 (k + 2)).low as ρ μ).bind fun x μ1 => match x with
    | .tup ds => run M 0 k f ds μ1
    | _ => .no := by
  simp only [ev_cav, h, hf, if_true]
  rfl
/-- the error of a call, if it is told -/
theorem err_told (k : Nat) {b : C} {ρ : DEnv} {μ μ' : Mem} {C : Str} {z : Str} (h : evE (gAt M 0 (k + 2)).low b ρ μ = .er ⟨C, []⟩ μ') (hh : M.hnd "_law_fails" (some ⟨C, []⟩) = some (.str z)) : evE (gAt M 0 (k + 2)) (.err "_law_fails" b) ρ μ = .ok (.str z) μ' := by
  rw [ev_err, dp_at, h]
  show told (M.hnd "_law_fails" (some ⟨C, []⟩)) μ' = _
  rw [hh]
  rfl
theorem hrs_le {bs : List J} (g : Good bs) {l : List Nat} (h : l.Perm (List.range bs.length)) : 0 ≤ hrs (l.map (job bs)) ∧ hrs (l.map (job bs)) ≤ 20000 := by
  obtain ⟨j1, j2, j3⟩ := jobs_ok g h
  have := G_le (l := l.map (job bs)) (f := 0) (s := 0) (c := 1000) (fun p hp => j1 p hp) (by omega) (by omega)
  rw [j3] at this
  have := g.hi
  unfold hrs
  omega
theorem hoursV_le {bs : List J} (g : Good bs) (v : D) : 0 ≤ hoursV bs v ∧ hoursV bs v ≤ 20000 := by
  unfold hoursV
  cases q : ordB bs.length v with
  | false => simp
  | true =>
    obtain ⟨l, rfl, p⟩ := ordB_out q
    rw [if_pos rfl, hrsV_o]
    exact hrs_le g p
def bodyV : S := .cons (.set 13 (.cal "_law_is_order" (.cons (.var 1) (.cons (.var 12) .nil))))
 (.cons (.set 6 (.ite (.var 13) (.cal "_law_hours" (.cons (.var 1) (.cons (.var 12) .nil))) (.num 0)))
 (.cons (.for (.nm 14) (.itr (.tup (.cons (.var 3) (.cons (.bif .max2 (.cons (.num 0) (.cons (.bin .Sub (.var 3) (.num 1)) .nil))) (.cons (.var 6) (.cons (.num 20000) .nil)))))) bodyN)
 (.cons (.ife (.not (.var 13)) (.cons (.set 15 (.cmpn [("call", 20)] (.nm 20) (.itr (.tup (.cons (.glo "hours_by") (.cons (.glo "turning_places") .nil)))) .nop (.err "_law_fails" (.cav 20 ["hours_by", "turning_places"] (.cons (.var 1) (.cons (.var 12) .nil))))))
 (.cons (.ife (.cmp .NotEq (.var 15) (.bin .Mult (.lst (.cons (.txt "row") .nil)) (.num 2))) (.cons (.ret (.bl false)) .nil) .nil)
 .nil)) .nil)
 .nil)))
theorem value_turn (k : Nat) (μ : Mem) {bs : List J} (g : Good bs) {v : D} (hv : Fine v) {due : Int} (d0 : 0 ≤ due) (d1 : due ≤ 20000) (x0 x2 x4 x5 x6 x7 x8 x9 xa xb xc xd xe xf : Option D) :
    ∃ x6' xd' xe' xf', forT (gAt M 0 (k + 7)) (.nm 12) bodyV v [x0, some (bsD bs), x2, some (.int due), x4, x5, x6, x7, x8, x9, xa, xb, xc, xd, xe, xf, none, none, none, none, none] μ =
      .ok (.nx [x0, some (bsD bs), x2, some (.int due), x4, x5, x6', x7, x8, x9, xa, xb, some v, xd', xe', xf', none, none, none, none, none]) μ := by
  have e1 := r_law_is_order (k + 5) μ g hv
  obtain ⟨h0, h1⟩ := hoursV_le g v
  have e2 := @bmax2 0 (due - 1) μ
  generalize hm : (if due - 1 > 0 then due - 1 else 0) = m1 at e2
  have m0 : 0 ≤ m1 ∧ m1 ≤ 20000 := by
    rw [← hm]
    split <;> omega
  obtain ⟨xe', e3⟩ := num_loop k μ g hv x0 x2 (some (.int due)) x4 x5 x7 x8 x9 xa xb xf [due, m1, hoursV bs v, 20000] (fun n hn => by
    simp only [List.mem_cons, List.not_mem_nil, or_false] at hn
    rcases hn with rfl | rfl | rfl | rfl
    · exact ⟨d0, d1⟩
    · exact m0
    · exact ⟨h0, h1⟩
    · omega) xe
  simp only [il, List.map_cons, List.map_nil] at e3
  cases q : ordB bs.length v with
  | true =>
    obtain ⟨l, rfl, p⟩ := ordB_out q
    have e4 := r_law_hours (k + 6) μ (perm_lt p)
    have e5 : hoursV bs (oD l) = hrs (l.map (job bs)) := by
      unfold hoursV
      rw [q, if_pos rfl, hrsV_o]
    rw [q] at e1 e3
    rw [e5] at e3
    refine ⟨some (.int (hrs (l.map (job bs)))), some (.bl true), xe', xf, ?_⟩
    have e6 := @w_tup [.int due, .int m1, .int (hrs (l.map (job bs))), .int 20000]
    rw [forT_nm]
    clear g hv d0 d1 h0 h1 hm m0 q e5 p
    generalize hrs (l.map (job bs)) = hh at *
    generalize oD l = O at *
    generalize bsD bs = B at *
    unfold bodyV
    generalize bodyN = BN at *
    walk_at "go"
  | false =>
    have e5 : hoursV bs v = 0 := by
      unfold hoursV
      rw [q]
      rfl
    rw [q] at e1 e3
    rw [e5] at e3
    refine ⟨some (.int 0), some (.bl false), xe', some (.lst [.str "row", .str "row"]), ?_⟩
    have e6 := @w_tup [.int due, .int m1, .int 0, .int 20000]
    have e7 : compL (turnT (gAt M 0 (k + 7)) (.nm 20) .nop (.err "_law_fails" (.cav 20 ["hours_by", "turning_places"] (.cons (.var 1) (.cons (.var 12) .nil)))) [x0, some (bsD bs), x2, some (.int due), x4, x5, some (.int 0), x7, x8, x9, xa, xb, some v, some (.bl false), xe', xf, none, none, none, none, none]) [.glo "hours_by", .glo "turning_places"] [] μ = .ok [.str "row", .str "row"] μ := by
      refine (comp_map (μ := μ) (fun _ => .str "row") (fun d hd => ?_) (by decide)).trans rfl
      rw [turnT_nm, turnD_nop]
      have r1 := r_hours_by_no k μ g hv q
      have r2 := r_turning_no k μ g hv q
      simp only [List.mem_cons, List.not_mem_nil, or_false] at hd
      rcases hd with rfl | rfl
      · have lu := low_lu (k + 5) 20 (.cons (.var 1) (.cons (.var 12) .nil)) ["hours_by", "turning_places"] [x0, some (bsD bs), x2, some (.int due), x4, x5, some (.int 0), x7, x8, x9, xa, xb, some v, some (.bl false), xe', xf, none, none, none, none, some (.glo "hours_by")] μ "hours_by" rfl (by decide)
        have lu2 : evE (gAt M 0 (k + 7)).low (.cav 20 ["hours_by", "turning_places"] (.cons (.var 1) (.cons (.var 12) .nil))) [x0, some (bsD bs), x2, some (.int due), x4, x5, some (.int 0), x7, x8, x9, xa, xb, some v, some (.bl false), xe', xf, none, none, none, none, some (.glo "hours_by")] μ = .er ⟨"InvalidRow", []⟩ μ := by
          rw [lu]
          simp only [ev_cons, ev_nil, ev_var, get0, gets, bind_ok, r1]
        have := err_told (k + 5) lu2 hnd_row
        simp only [List.set_cons_succ, List.set_cons_zero]
        rw [this]
        rfl
      · have lu := low_lu (k + 5) 20 (.cons (.var 1) (.cons (.var 12) .nil)) ["hours_by", "turning_places"] [x0, some (bsD bs), x2, some (.int due), x4, x5, some (.int 0), x7, x8, x9, xa, xb, some v, some (.bl false), xe', xf, none, none, none, none, some (.glo "turning_places")] μ "turning_places" rfl (by decide)
        have lu2 : evE (gAt M 0 (k + 7)).low (.cav 20 ["hours_by", "turning_places"] (.cons (.var 1) (.cons (.var 12) .nil))) [x0, some (bsD bs), x2, some (.int due), x4, x5, some (.int 0), x7, x8, x9, xa, xb, some v, some (.bl false), xe', xf, none, none, none, none, some (.glo "turning_places")] μ = .er ⟨"InvalidRow", []⟩ μ := by
          rw [lu]
          simp only [ev_cons, ev_nil, ev_var, get0, gets, bind_ok, r2]
        have := err_told (k + 5) lu2 hnd_row
        simp only [List.set_cons_succ, List.set_cons_zero]
        rw [this]
        rfl
    have e8 : binD .Mult (.lst [.str "row"]) (.int 2) μ = .ok (.lst [.str "row", .str "row"]) μ := by rfl
    have e9 : cmpD .NotEq (.lst [.str "row", .str "row"]) (.lst [.str "row", .str "row"]) μ = .ok false μ := by kernel_rfl
    have ea := @w_tup [.glo "hours_by", .glo "turning_places"]
    rw [forT_nm]
    clear g hv d0 d1 h0 h1 hm m0 q e5
    generalize bsD bs = B at *
    unfold bodyV
    generalize bodyN = BN at *
    generalize C.err "_law_fails" (.cav 20 ["hours_by", "turning_places"] (.cons (.var 1) (.cons (.var 12) .nil))) = EE at *
    walk_at "go"
theorem value_loop (k : Nat) (μ : Mem) {bs : List J} (g : Good bs) {due : Int} (d0 : 0 ≤ due) (d1 : due ≤ 20000) (x0 x2 x4 x5 x7 x8 x9 xa xb : Option D) : ∀ (vs : List D), (∀ v ∈ vs, Fine v) → ∀ (x6 xc xd xe xf : Option D),
    ∃ x6' xc' xd' xe' xf', forL (forT (gAt M 0 (k + 7)) (.nm 12) bodyV) vs [x0, some (bsD bs), x2, some (.int due), x4, x5, x6, x7, x8, x9, xa, xb, xc, xd, xe, xf, none, none, none, none, none] μ =
      .ok (.nx [x0, some (bsD bs), x2, some (.int due), x4, x5, x6', x7, x8, x9, xa, xb, xc', xd', xe', xf', none, none, none, none, none]) μ
  | [], _, x6, xc, xd, xe, xf => ⟨x6, xc, xd, xe, xf, rfl⟩
  | v :: vs, h, x6, xc, xd, xe, xf => by
    obtain ⟨y6, yd, ye, yf, e⟩ := value_turn k μ g (h v List.mem_cons_self) d0 d1 x0 x2 x4 x5 x6 x7 x8 x9 xa xb xc xd xe xf
    obtain ⟨z6, zc, zd, ze, zf, ih⟩ := value_loop k μ g d0 d1 x0 x2 x4 x5 x7 x8 x9 xa xb vs (fun w hw => h w (List.mem_cons_of_mem _ hw)) y6 (some v) yd ye yf
    exact ⟨z6, zc, zd, ze, zf, by simp only [forL, e, bind_ok, ih]⟩
end Law_k64

namespace Law_k64
open PySem PySem.Spec PyProof.Rows L2 Den K64
local macro_rules | `(tactic| walk_at "go") => `(tactic| simp only [callM, runB, FT.fn, startD, ev_var, ev_num, ev_txt, ev_bl, ev_non, ev_glo, ev_con, ev_bin, ev_neg, ev_not, ev_one, ev_and, ev_or, ev_cmp, ev_chn, ev_ite, ev_cal0, ev_cal, ev_cav, ev_bif, ev_isi, ev_nil, ev_cons, ev_tup, ev_lst, ev_cel, ev_idx, ev_sli, ev_nop, ev_err, ev_isx, ev_joi, ev_rng1, ev_rng2, ev_itr, ev_itl, ev_zip, ev_zip3, ev_fld, ev_mth0, ev_mth, ev_mk0, ev_pop0, ev_rev, ev_rgl1, ev_rgl2, ev_lset, ev_popi, ev_newb, ev_newl, ev_enm, ex_pass, ex_nil, ex_cons, ex_set, ex_tgt, ex_par, ex_par3, ex_ife, ex_whl, ex_ret, ex_retn, ex_exp, ex_brk, ex_cnt, ex_rai, ex_frz, ex_app, ex_sub, ex_fset, ex_fs3, ex_for, evT, asg, Option.bind_some, ev_cmpn, ev_cmp2, ev_cmpc, wipeD, gcal, gcon, bind_ok, bind_er, bind_no, calm_ok, b_add, b_sub, i_t0, i_t1, c_lt, c_le, c_gt, c_ge, c_eq, c_ne, t_bl, get0, gets, List.length_cons, List.length_nil, List.map_cons, List.map_nil, List.replicate, List.cons_append, List.nil_append, List.set_cons_zero, List.set_cons_succ, List.append_nil, if_true, if_false, Nat.reduceAdd, Nat.reduceSub, Nat.sub_self, Nat.zero_add, reduceIte, Bool.false_eq_true, bgcd, babs, bint, fits, Nat.reduceLeDiff, decide_true, decide_false, Bool.not_true, Bool.not_false, i_c0, i_c1, s_c0, s_c1, blen, tlen, p18, *])
local macro_rules | `(tactic| walk_at "run") => `(tactic| (rw [run_succ]; walk_at "go"))

/-! ### the orders that are tried -/
theorem orders_loop (k : Nat) {bs : List J} (g : Good bs) (x y : Int) (x0 x2 x4 : Option D) : ∀ (ls : List (List Nat)), (∀ l ∈ ls, l.Perm (List.range bs.length)) → ∀ (x5 x6 x7 x8 : Option D) (r : Mem),
    ∃ x5' x6' x7' x8' r', forL (forT (gAt M 0 (k + 5)) (.nm 5) bodyO) (ls.map oD) [x0, some (bsD bs), x2, some (.int (hrs ((best bs).map (job bs)))), x4, x5, x6, x7, x8, none, none, none, none, none, none, none, none, none, none, none, none] (cupM x y r) =
      .ok (.nx [x0, some (bsD bs), x2, some (.int (hrs ((best bs).map (job bs)))), x4, x5', x6', x7', x8', none, none, none, none, none, none, none, none, none, none, none, none]) (cupM x y (r ++ r'))
  | [], _, x5, x6, x7, x8, r => ⟨x5, x6, x7, x8, [], by rw [List.append_nil]; rfl⟩
  | l :: ls, h, x5, x6, x7, x8, r => by
    obtain ⟨y6, y7, y8, e⟩ := order_turn k (cupM x y r) g (h l List.mem_cons_self) x0 x2 x4 x5 x6 x7 x8
    rw [cupM_app] at e
    obtain ⟨z5, z6, z7, z8, r', ih⟩ := orders_loop k g x y x0 x2 x4 ls (fun m hm => h m (List.mem_cons_of_mem _ hm)) (some (oD l)) y6 y7 y8 (r ++ [none, none])
    refine ⟨z5, z6, z7, z8, [none, none] ++ r', ?_⟩
    rw [← List.append_assoc]
    simp only [List.map_cons, forL, e, bind_ok, ih]
/-! ### values -/
theorem fine_t {xs : List D} (hl : xs.length ≤ 1000) (h : ∀ x ∈ xs, lkF x = true) : Fine (.tup xs) := ⟨rfl, fun ys q => by
  cases q
  exact ⟨hl, h⟩⟩
theorem cut_mem {xs : List D} {lo hi : Option Int} {d : D} (h : d ∈ Den.cutD xs lo hi) : d ∈ xs := by
  unfold Den.cutD at h
  exact List.mem_of_mem_drop (List.mem_of_mem_take h)
theorem cut_len {xs : List D} {lo hi : Option Int} : (Den.cutD xs lo hi).length ≤ xs.length := by
  unfold Den.cutD
  rw [List.length_take, List.length_drop]
  omega
theorem il_lk {ns : List Int} : ∀ d ∈ il ns, lkF d = true := fun d hd => by
  obtain ⟨v, _, rfl⟩ := List.mem_map.mp hd
  rfl
theorem mul_zero_fine (n : Nat) (h1 : 1 ≤ n) (h2 : n ≤ 10) (μ : Mem) : ∃ v, binD .Mult (.tup [.int 0]) (.int (n : Int)) μ = .ok v μ ∧ Fine v := by
  by_cases h : n = 1
  · subst h
    exact ⟨.tup [.int 0], rfl, fine_t (by simp) (by simp; rfl)⟩
  · refine ⟨.tup (List.replicate n [D.int 0]).flatten, ?_, fine_t (by simp; omega) fun d hd => ?_⟩
    · show (if (n : Int) = 1 then _ else if !([D.int 0] : List D).isEmpty && decide (2 ≤ (n : Int)) && decide ((n : Int) ≤ 1000) && decide (([D.int 0] : List D).length ≤ 1000) then R.ok (D.tup (List.replicate ((n : Int)).toNat [D.int 0]).flatten) μ else .no) = _
      have c : (!([D.int 0] : List D).isEmpty && decide (2 ≤ (n : Int)) && decide ((n : Int) ≤ 1000) && decide (([D.int 0] : List D).length ≤ 1000)) = true := by
        simp
        omega
      rw [if_neg (by omega), if_pos c, Int.toNat_natCast]
    · obtain ⟨l, h3, h4⟩ := List.mem_flatten.mp hd
      rw [(List.mem_replicate.mp h3).2] at h4
      rw [List.mem_singleton.mp h4]
      rfl
theorem rgl_fine (n : Nat) (h : n ≤ 10) (μ : Mem) : ∃ v, rglD 1 1 ((n : Int) + 1) μ = .ok v μ ∧ Fine v := by
  have hl : (rngL 1 ((n : Int) + 1)).length ≤ 1000 := by rw [rngL, List.length_map, List.length_range]; omega
  refine ⟨.tup (rngL 1 ((n : Int) + 1)), ?_, fine_t hl fun d hd => ?_⟩
  · have e : (rngOk 1 && rngOk ((n : Int) + 1) && fits (rngL 1 ((n : Int) + 1)).length) = true := by
      have h1 : rngOk 1 = true := rfl
      have h2 : rngOk ((n : Int) + 1) = true := by unfold rngOk; exact decide_eq_true (by omega)
      have h3 : fits (rngL 1 ((n : Int) + 1)).length = true := by unfold fits; exact decide_eq_true (by omega)
      rw [h1, h2, h3]
      rfl
    unfold rglD
    rw [if_pos e]
    rfl
  · obtain ⟨i, _, rfl⟩ := List.mem_map.mp hd
    rfl
theorem sl_tup {xs : List D} {lo hi : Option Int} {μ : Mem} : sliD (.tup xs) lo hi μ = .ok (.tup (Den.cutD xs lo hi)) μ := rfl
def oddC : C := .bin .Add (.bin .Add (.sli (.var 4) .nop (.var 9)) (.tup (.cons (.var 19) .nil))) (.sli (.var 4) (.bin .Add (.var 9) (.num 1)) .nop)
theorem odd_comp {k : Nat} {μ : Mem} {xs : List D} (hl : xs.length ≤ 100) (hx : ∀ x ∈ xs, lkF x = true) (v : Int) (x0 x1 x2 x3 x5 x6 x7 x8 xa xb xc xd xe xf : Option D) (ds : List D) (hd : ∀ d ∈ ds, lkF d = true) (hz : ds.length ≤ 100) :
    ∃ ws, compL (turnT (gAt M 0 k) (.nm 19) .nop oddC [x0, x1, x2, x3, some (.tup xs), x5, x6, x7, x8, some (.int v), xa, xb, xc, xd, xe, xf, none, none, none, none, none]) ds [] μ = .ok ws μ ∧ ws.length ≤ 100 ∧ ∀ w ∈ ws, Fine w := by
  refine ⟨ds.map fun d => .tup (Den.cutD xs none (some v) ++ [d] ++ Den.cutD xs (some (v + 1)) none), ?_, by simpa using hz, fun w hw => ?_⟩
  · rw [comp_map (μ := μ) (fun d => .tup (Den.cutD xs none (some v) ++ [d] ++ Den.cutD xs (some (v + 1)) none)) (fun d hd => ?_) (by simp; omega), List.nil_append]
    have l1 := @cut_len xs none (some v)
    have l2 := @cut_len xs (some (v + 1)) none
    have e1 := @sl_tup xs none (some v) μ
    have e2 := @sl_tup xs (some (v + 1)) none μ
    have e3 := @b_tup (Den.cutD xs none (some v)) [d] μ (by simp; omega)
    have e4 := @b_tup (Den.cutD xs none (some v) ++ [d]) (Den.cutD xs (some (v + 1)) none) μ (by simp; omega)
    have e5 := p_non
    have e6 := @p_int v
    have e7 := @p_int (v + 1)
    rw [turnT_nm, turnD_nop]
    clear hl hx hd hz l1 l2
    unfold oddC
    generalize Den.cutD xs (some (v + 1)) none = C2 at *
    generalize Den.cutD xs none (some v) = C1 at *
    generalize D.tup xs = X at *
    walk_at "go"
  · obtain ⟨d, h1, rfl⟩ := List.mem_map.mp hw
    have l1 := @cut_len xs none (some v)
    have l2 := @cut_len xs (some (v + 1)) none
    refine fine_t (by simp; omega) fun e he => ?_
    rcases List.mem_append.mp he with he | he
    · rcases List.mem_append.mp he with he | he
      · exact hx e (cut_mem he)
      · rw [List.mem_singleton.mp he]; exact hd d h1
    · exact hx e (cut_mem he)
/-! ### the parts of right -/
def S1 : S := .tgt (.cons (.nm 2) (.cons (.nm 3) (.cons (.nm 4) .nil))) (.tup (.cons (.bif .len (.cons (.var 1) .nil)) (.cons (.cal "_law_hours" (.cons (.var 1) (.cons (.cal "_law_by_rule" (.cons (.var 1) .nil)) .nil))) (.cons (.cal "best_order" (.cons (.var 1) .nil)) .nil))))
def S2 : S := .ife (.or (.not (.cal "_law_like" (.cons (.cal "least_by_order" (.cons (.var 1) .nil)) (.cons (.var 3) .nil)))) (.or (.not (.cal "_law_is_order" (.cons (.var 1) (.cons (.var 4) .nil)))) (.one (.cmp .NotEq (.cal "_law_hours" (.cons (.var 1) (.cons (.var 4) .nil))) (.var 3))))) (.cons (.ret (.bl false)) .nil) .nil
def S3 : S := .ife (.and (.cmp .LtE (.var 2) (.num 4)) (.one (.cmp .NotEq (.var 3) (.bif .min1 (.cons (.cmpn [("row", 16)] (.nm 16) (.itr (.cal "_law_rows" (.cons (.var 2) .nil))) .nop (.cal "_law_hours" (.cons (.var 1) (.cons (.var 16) .nil)))) .nil))))) (.cons (.ret (.bl false)) .nil) .nil
def S4 : S := .for (.nm 5) (.itr (.tup (.cons (.var 4) (.cons (.rev (.var 4)) (.cons (.cal "_law_mixed" (.cons (.var 0) (.cons (.var 2) .nil))) (.cons (.rgl1 1 (.var 2)) .nil)))))) bodyO
def S5 : S := .tgt (.cons (.nm 9) (.cons (.nm 10) .nil)) (.tup (.cons (.cal "_law_roll" (.cons (.var 0) (.cons (.var 2) .nil))) (.cons (.cal "_law_mixed" (.cons (.var 0) (.cons (.var 2) .nil))) .nil)))
def S6 : S := .set 11 (.lst (.cons (.var 4) (.cons (.sli (.var 4) (.num 1) .nop) (.cons (.rev (.var 4)) (.cons (.bin .Add (.var 4) (.sli (.var 4) (.neg (.num 1)) .nop)) (.cons (.bif .list (.cons (.var 4) .nil)) (.cons (.non) .nil)))))))
def S7 : S := .set 11 (.bin .Add (.var 11) (.lst (.cons (.tup .nil) (.cons (.num 0) (.cons (.var 10) (.cons (.bin .Mult (.tup (.cons (.num 0) .nil)) (.var 2)) (.cons (.rgl2 1 (.num 1) (.bin .Add (.var 2) (.num 1))) .nil)))))))
def S8 : S := .for (.nm 12) (.itr (.bin .Add (.var 11) (.cmpn [("odd", 19)] (.nm 19) (.itr (.tup (.cons (.non) (.cons (.var 2) (.cons (.neg (.num 1)) (.cons (.bl true) (.cons (.txt "0") (.cons (.idx (.var 4) (.num 0)) .nil)))))))) .nop oddC))) bodyV
theorem c_right : c__law_right = .cons S1 (.cons S2 (.cons S3 (.cons S4 (.cons S5 (.cons S6 (.cons S7 (.cons S8 (.cons (.ret (.bl true)) .nil)))))))) := by rfl
theorem right_1 (k : Nat) {bs : List J} (g : Good bs) (x y : Int) (r : Mem) : evS (gAt M 0 (k + 7)) S1 [some (.cel 0), some (bsD bs), none, none, none, none, none, none, none, none, none, none, none, none, none, none, none, none, none, none, none] (cupM x y r) =
    .ok (.nx [some (.cel 0), some (bsD bs), some (.int (bs.length : Int)), some (.int (hrs ((best bs).map (job bs)))), some (oD (best bs)), none, none, none, none, none, none, none, none, none, none, none, none, none, none, none, none]) (cupM x y (r ++ [none])) := by
  have e1 := bs_len bs (cupM x y r)
  have e2 := r_by_rule (k + 6) (cupM x y r) g
  rw [cupM_app] at e2
  have e3 := r_law_hours (k + 6) (cupM x y (r ++ [none])) (perm_lt (best_perm (bs := bs)))
  have e4 := r_best (k + 4) (cupM x y (r ++ [none])) g
  clear g
  generalize hrs ((best bs).map (job bs)) = due at *
  generalize oD (best bs) = O at *
  generalize bsD bs = B at *
  unfold S1
  walk_at "go"
theorem right_2 (k : Nat) {bs : List J} (g : Good bs) (μ : Mem) (x0 x2 x5 x6 x7 x8 x9 xa xb xc xd xe xf xg xh xi xj xk : Option D) : evS (gAt M 0 (k + 7)) S2 [x0, some (bsD bs), x2, some (.int (hrs ((best bs).map (job bs)))), some (oD (best bs)), x5, x6, x7, x8, x9, xa, xb, xc, xd, xe, xf, xg, xh, xi, xj, xk] μ =
    .ok (.nx [x0, some (bsD bs), x2, some (.int (hrs ((best bs).map (job bs)))), some (oD (best bs)), x5, x6, x7, x8, x9, xa, xb, xc, xd, xe, xf, xg, xh, xi, xj, xk]) μ := by
  have e1 := r_least (k + 4) μ g
  have e2 := r_like (W := 0) at_like at_sort (k + 5) μ 0 (.int (hrs ((best bs).map (job bs)))) rfl
  have e3 := r_law_is_order (k + 5) μ g (fine_o (best bs) (by rw [perm_len best_perm]; have := g.hi; omega))
  rw [ordB_of best_perm] at e3
  have e4 := r_law_hours (k + 6) μ (perm_lt (best_perm (bs := bs)))
  have e5 : (hrs ((best bs).map (job bs)) == hrs ((best bs).map (job bs))) = true := beq_self_eq_true _
  clear g
  generalize hrs ((best bs).map (job bs)) = due at *
  generalize oD (best bs) = O at *
  generalize bsD bs = B at *
  unfold S2
  walk_at "go"
theorem right_3 (k : Nat) {bs : List J} (g : Good bs) (μ : Mem) (x0 x4 x5 x6 x7 x8 x9 xa xb xc xd xe xf : Option D) : evS (gAt M 0 (k + 7)) S3 [x0, some (bsD bs), some (.int (bs.length : Int)), some (.int (hrs ((best bs).map (job bs)))), x4, x5, x6, x7, x8, x9, xa, xb, xc, xd, xe, xf, none, none, none, none, none] μ =
    .ok (.nx [x0, some (bsD bs), some (.int (bs.length : Int)), some (.int (hrs ((best bs).map (job bs)))), x4, x5, x6, x7, x8, x9, xa, xb, xc, xd, xe, xf, none, none, none, none, none]) μ := by
  by_cases h : bs.length ≤ 4
  · have e1 := r_rows (k + 6) μ h
    have e2 : compL (turnT (gAt M 0 (k + 7)) (.nm 16) .nop (.cal "_law_hours" (.cons (.var 1) (.cons (.var 16) .nil))) [x0, some (bsD bs), some (.int (bs.length : Int)), some (.int (hrs ((best bs).map (job bs)))), x4, x5, x6, x7, x8, x9, xa, xb, xc, xd, xe, xf, none, none, none, none, none]) ((rows bs.length bs.length).map oD) [] μ =
        .ok (il ((rows bs.length bs.length).map fun q => hrs (q.map (job bs)))) μ := by
      rw [comp_mm oD (fun q => D.int (hrs (q.map (job bs)))) (fun q hq => ?_) (by have := rows_small _ h _ (Nat.le_refl _); simp; omega)]
      · simp [il, Function.comp_def]
      · have e := r_law_hours (k + 6) μ (bs := bs) (l := q) (fun i hi => (mem_rows.mp hq).2.2 i hi)
        rw [turnT_nm, turnD_nop]
        clear hq h e1 g
        generalize hrs (q.map (job bs)) = hh at *
        generalize oD q = O at *
        generalize bsD bs = B at *
        walk_at "go"
    have hin : best bs ∈ rows bs.length bs.length := mem_rows.mpr ⟨perm_len best_perm, (best_perm (bs := bs)).nodup_iff.mpr List.nodup_range, perm_lt best_perm⟩
    have hm : minOf ((rows bs.length bs.length).map fun q => hrs (q.map (job bs))) = some (hrs ((best bs).map (job bs))) := by
      obtain ⟨m, h1, h2, h3⟩ := minOf_spec (xs := (rows bs.length bs.length).map fun q => hrs (q.map (job bs))) (fun z => by
        have := List.mem_map_of_mem (f := fun q => hrs (q.map (job bs))) hin
        rw [z] at this
        cases this)
      have h4 := h3 _ (List.mem_map_of_mem (f := fun q => hrs (q.map (job bs))) hin)
      obtain ⟨q, hq, h5⟩ := List.mem_map.mp h2
      obtain ⟨q1, q2, q3⟩ := mem_rows.mp hq
      have h6 := best_opt (bs := bs) (perm_of q1 q2 q3)
      rw [h1]
      have : m = hrs ((best bs).map (job bs)) := by
        have h4 : m ≤ hrs ((best bs).map (job bs)) := h4
        have h5 : hrs (q.map (job bs)) = m := h5
        omega
      rw [this]
    have e3 := bmin_lst (μ := μ) hm
    have e4 := @w_lst ((rows bs.length bs.length).map oD)
    have e5 : decide ((bs.length : Int) ≤ 4) = true := decide_eq_true (by omega)
    have e6 : (hrs ((best bs).map (job bs)) == hrs ((best bs).map (job bs))) = true := beq_self_eq_true _
    clear hm hin h g
    generalize il ((rows bs.length bs.length).map fun q => hrs (q.map (job bs))) = HH at *
    generalize (rows bs.length bs.length).map oD = RR at *
    generalize hrs ((best bs).map (job bs)) = due at *
    generalize bsD bs = B at *
    unfold S3
    walk_at "go"
  · have e5 : decide ((bs.length : Int) ≤ 4) = false := decide_eq_false (by omega)
    clear h g
    generalize hrs ((best bs).map (job bs)) = due at *
    generalize bsD bs = B at *
    unfold S3
    walk_at "go"
theorem rev_o (l : List Nat) (μ : Mem) : revD (oD l) μ = .ok (oD l.reverse) μ := by
  show revD (.tup (il (nx l))) μ = _
  rw [b_rev]
  unfold oD il nx
  rw [← List.map_reverse, ← List.map_reverse]
theorem right_4 (k : Nat) {bs : List J} (g : Good bs) (x y : Int) (r : Mem) (x5 x6 x7 x8 : Option D) :
    ∃ x5' x6' x7' x8' x' y' r', evS (gAt M 0 (k + 7)) S4 [some (.cel 0), some (bsD bs), some (.int (bs.length : Int)), some (.int (hrs ((best bs).map (job bs)))), some (oD (best bs)), x5, x6, x7, x8, none, none, none, none, none, none, none, none, none, none, none, none] (cupM x y r) =
    .ok (.nx [some (.cel 0), some (bsD bs), some (.int (bs.length : Int)), some (.int (hrs ((best bs).map (job bs)))), some (oD (best bs)), x5', x6', x7', x8', none, none, none, none, none, none, none, none, none, none, none, none]) (cupM x' y' r') := by
  obtain ⟨l3, x1, y1, r1, p3, e1⟩ := r_mixed (k + 5) x y r g.hi
  have e2 := rev_o (best bs) (cupM x y r)
  have e3 : rglD 1 0 (bs.length : Int) (cupM x1 y1 (r ++ r1)) = .ok (oD (List.range bs.length)) (cupM x1 y1 (r ++ r1)) := (b_rgl (n := bs.length) (by have := g.hi; omega) (cupM x1 y1 (r ++ r1))).2.1
  obtain ⟨z5, z6, z7, z8, r2, e4⟩ := orders_loop (k + 2) g x1 y1 (some (.cel 0)) (some (.int (bs.length : Int))) (some (oD (best bs))) [best bs, (best bs).reverse, l3, List.range bs.length] (fun l hl => by
    simp only [List.mem_cons, List.not_mem_nil, or_false] at hl
    rcases hl with rfl | rfl | rfl | rfl
    · exact best_perm
    · exact (List.reverse_perm _).trans best_perm
    · exact p3
    · exact .refl _) x5 x6 x7 x8 (r ++ r1)
  simp only [List.map_cons, List.map_nil] at e4
  refine ⟨z5, z6, z7, z8, x1, y1, r ++ r1 ++ r2, ?_⟩
  have e5 := @w_tup [oD (best bs), oD (best bs).reverse, oD l3, oD (List.range bs.length)]
  clear g p3
  generalize hrs ((best bs).map (job bs)) = due at *
  generalize oD (List.range bs.length) = O4 at *
  generalize oD l3 = O3 at *
  generalize oD (best bs).reverse = O2 at *
  generalize oD (best bs) = O at *
  generalize bsD bs = B at *
  unfold S4
  generalize bodyO = BO at *
  walk_at "go"
end Law_k64

namespace Law_k64
open PySem PySem.Spec PyProof.Rows L2 Den K64
local macro_rules | `(tactic| walk_at "go") => `(tactic| simp only [callM, runB, FT.fn, startD, ev_var, ev_num, ev_txt, ev_bl, ev_non, ev_glo, ev_con, ev_bin, ev_neg, ev_not, ev_one, ev_and, ev_or, ev_cmp, ev_chn, ev_ite, ev_cal0, ev_cal, ev_cav, ev_bif, ev_isi, ev_nil, ev_cons, ev_tup, ev_lst, ev_cel, ev_idx, ev_sli, ev_nop, ev_err, ev_isx, ev_joi, ev_rng1, ev_rng2, ev_itr, ev_itl, ev_zip, ev_zip3, ev_fld, ev_mth0, ev_mth, ev_mk0, ev_pop0, ev_rev, ev_rgl1, ev_rgl2, ev_lset, ev_popi, ev_newb, ev_newl, ev_enm, ex_pass, ex_nil, ex_cons, ex_set, ex_tgt, ex_par, ex_par3, ex_ife, ex_whl, ex_ret, ex_retn, ex_exp, ex_brk, ex_cnt, ex_rai, ex_frz, ex_app, ex_sub, ex_fset, ex_fs3, ex_for, evT, asg, Option.bind_some, ev_cmpn, ev_cmp2, ev_cmpc, wipeD, gcal, gcon, bind_ok, bind_er, bind_no, calm_ok, b_add, b_sub, i_t0, i_t1, c_lt, c_le, c_gt, c_ge, c_eq, c_ne, t_bl, get0, gets, List.length_cons, List.length_nil, List.map_cons, List.map_nil, List.replicate, List.cons_append, List.nil_append, List.set_cons_zero, List.set_cons_succ, List.append_nil, if_true, if_false, Nat.reduceAdd, Nat.reduceSub, Nat.sub_self, Nat.zero_add, reduceIte, Bool.false_eq_true, bgcd, babs, bint, fits, Nat.reduceLeDiff, decide_true, decide_false, Bool.not_true, Bool.not_false, i_c0, i_c1, s_c0, s_c1, blen, tlen, p18, *])
local macro_rules | `(tactic| walk_at "run") => `(tactic| (rw [run_succ]; walk_at "go"))

theorem right_5 (k : Nat) {bs : List J} (g : Good bs) (x y : Int) (r : Mem) (x5 x6 x7 x8 : Option D) :
    ∃ x' y' r', evS (gAt M 0 (k + 7)) (.cons S5 (.cons S6 (.cons S7 (.cons S8 (.cons (.ret (.bl true)) .nil))))) [some (.cel 0), some (bsD bs), some (.int (bs.length : Int)), some (.int (hrs ((best bs).map (job bs)))), some (oD (best bs)), x5, x6, x7, x8, none, none, none, none, none, none, none, none, none, none, none, none] (cupM x y r) =
    .ok (.rt (.bl true)) (cupM x' y' r') := by
  have hlo := g.lo
  have hhi := g.hi
  obtain ⟨v, x1, y1, v0, v1, e1⟩ := r_roll (W := 0) at_roll ok_roll (k + 6) x y r (bs.length : Int) (by omega) (log2_small (by omega) (by omega))
  obtain ⟨l2, x2, y2, r2, p2, e2⟩ := r_mixed (k + 5) x1 y1 r hhi
  refine ⟨x2, y2, r ++ r2, ?_⟩
  generalize hμ : cupM x2 y2 (r ++ r2) = μ at *
  have hb := perm_len (best_perm (bs := bs))
  have hd := hrs_le g (best_perm (bs := bs))
  have ho : oD (best bs) = .tup (il (nx (best bs))) := rfl
  have lo : (il (nx (best bs))).length = bs.length := by rw [il_length, nx_len, hb]
  have f2 := rev_o (best bs) μ
  have f3 := @sl_tup (il (nx (best bs))) (some 1) none μ
  have f4 := @sl_tup (il (nx (best bs))) (some (-1)) none μ
  have c1 := @cut_len (il (nx (best bs))) (some 1) none
  have c2 := @cut_len (il (nx (best bs))) (some (-1)) none
  have f5 := @b_tup (il (nx (best bs))) (Den.cutD (il (nx (best bs))) (some (-1)) none) μ (by omega)
  have f6 := @blst μ (il (nx (best bs)))
  obtain ⟨z0, f7, z0f⟩ := mul_zero_fine bs.length hlo hhi μ
  obtain ⟨z1, f8, z1f⟩ := rgl_fine bs.length hhi μ
  have f9 := @i_tup μ (il (nx (best bs))) 0 (by decide) (by simp only [lo]; omega)
  generalize hz : (il (nx (best bs)))[(0 : Int).toNat] = b0 at f9
  have b0m : b0 ∈ il (nx (best bs)) := by rw [← hz]; exact List.getElem_mem _
  obtain ⟨ws, fa, wl, wf⟩ := odd_comp (k := k + 7) (μ := μ) (xs := il (nx (best bs))) (by omega) il_lk v (some (.cel 0)) (some (bsD bs)) (some (.int (bs.length : Int))) (some (.int (hrs ((best bs).map (job bs))))) x5 x6 x7 x8 (some (oD l2))
    (some (.lst [oD (best bs), .tup (Den.cutD (il (nx (best bs))) (some 1) none), oD (best bs).reverse, .tup (il (nx (best bs)) ++ Den.cutD (il (nx (best bs))) (some (-1)) none), .lst (il (nx (best bs))), .non, .tup [], .int 0, oD l2, z0, z1])) none none none none [.non, .int (bs.length : Int), .int (-1), .bl true, .str "0", b0] (fun d hd => by
      simp only [List.mem_cons, List.not_mem_nil, or_false] at hd
      rcases hd with rfl | rfl | rfl | rfl | rfl | rfl
      · rfl
      · rfl
      · rfl
      · rfl
      · decide +kernel
      · exact il_lk _ b0m) (by simp)
  rw [← ho] at fa
  have fb := @b_lst μ [oD (best bs), .tup (Den.cutD (il (nx (best bs))) (some 1) none), oD (best bs).reverse, .tup (il (nx (best bs)) ++ Den.cutD (il (nx (best bs))) (some (-1)) none), .lst (il (nx (best bs))), .non, .tup [], .int 0, oD l2, z0, z1] ws (by simp; omega)
  obtain ⟨y6, yc, yd, ye, yf, fc⟩ := value_loop k μ g hd.1 hd.2 (some (.cel 0)) (some (.int (bs.length : Int))) (some (oD (best bs))) x5 x7 x8 (some (.int v)) (some (oD l2))
    (some (.lst [oD (best bs), .tup (Den.cutD (il (nx (best bs))) (some 1) none), oD (best bs).reverse, .tup (il (nx (best bs)) ++ Den.cutD (il (nx (best bs))) (some (-1)) none), .lst (il (nx (best bs))), .non, .tup [], .int 0, oD l2, z0, z1]))
    ([oD (best bs), .tup (Den.cutD (il (nx (best bs))) (some 1) none), oD (best bs).reverse, .tup (il (nx (best bs)) ++ Den.cutD (il (nx (best bs))) (some (-1)) none), .lst (il (nx (best bs))), .non, .tup [], .int 0, oD l2, z0, z1] ++ ws) (fun w hw => by
      rcases List.mem_append.mp hw with hw | hw
      · simp only [List.mem_cons, List.not_mem_nil, or_false] at hw
        rcases hw with rfl | rfl | rfl | rfl | rfl | rfl | rfl | rfl | rfl | rfl | rfl
        · exact fine_o _ (by omega)
        · exact fine_t (by omega) fun x hx => il_lk x (cut_mem hx)
        · exact fine_o _ (by rw [List.length_reverse]; omega)
        · refine fine_t (by rw [List.length_append]; omega) fun x hx => ?_
          rcases List.mem_append.mp hx with hx | hx
          · exact il_lk x hx
          · exact il_lk x (cut_mem hx)
        · exact ⟨rfl, fun xs q => by cases q⟩
        · exact ⟨rfl, fun xs q => by cases q⟩
        · exact fine_t (by simp) (by simp)
        · exact ⟨rfl, fun xs q => by cases q⟩
        · exact fine_o _ (by rw [perm_len p2]; omega)
        · exact z0f
        · exact z1f
      · exact wf w hw) x6 none none none none
  have fd : ∀ a1 a2 a3 a4 a5 a6 b1 b2 b3 b4 b5 : D, binD .Add (.lst [a1, a2, a3, a4, a5, a6]) (.lst [b1, b2, b3, b4, b5]) μ = .ok (.lst [a1, a2, a3, a4, a5, a6, b1, b2, b3, b4, b5]) μ := fun _ _ _ _ _ _ _ _ _ _ _ => rfl
  have fe := @w_tup [.non, .int (bs.length : Int), .int (-1), .bl true, .str "0", b0]
  have ff := fun zs => @w_lst zs
  have fg := p_non
  have fh := fun i => @p_int i
  rw [← ho] at f3 f4 f5 f6 f9
  clear hb hd lo c1 c2 z0f z1f hz b0m wl wf hlo hhi g v0 v1 p2 hμ ho
  generalize D.tup (il (nx (best bs)) ++ Den.cutD (il (nx (best bs))) (some (-1)) none) = V4 at *
  generalize D.tup (Den.cutD (il (nx (best bs))) (some (-1)) none) = V3 at *
  generalize D.tup (Den.cutD (il (nx (best bs))) (some 1) none) = V2 at *
  generalize D.lst (il (nx (best bs))) = V5 at *
  generalize hrs ((best bs).map (job bs)) = due at *
  generalize oD (best bs).reverse = OR at *
  generalize oD (best bs) = O at *
  generalize oD l2 = O2 at *
  generalize bsD bs = B at *
  simp only [List.cons_append, List.nil_append] at fb fc
  unfold S5 S6 S7 S8
  generalize bodyV = BV at *
  generalize oddC = OC at *
  walk_at "go"
theorem r_right (k : Nat) {bs : List J} (g : Good bs) (x y : Int) (r : Mem) : ∃ x' y' r', run M 0 (k + 8) "_law_right" [.cel 0, bsD bs] (cupM x y r) = .ok (.bl true) (cupM x' y' r') := by
  have hat : M.at_ "_law_right" = some t__law_right.fn := by rfl
  simp only [t__law_right, c_right] at hat
  have e1 := right_1 k g x y r
  have e2 := right_2 k g (cupM x y (r ++ [none])) (some (.cel 0)) (some (.int (bs.length : Int))) none none none none none none none none none none none none none none none none
  have e3 := right_3 k g (cupM x y (r ++ [none])) (some (.cel 0)) (some (oD (best bs))) none none none none none none none none none none none
  obtain ⟨x5, x6, x7, x8, x1, y1, r1, e4⟩ := right_4 k g x y (r ++ [none]) none none none none
  obtain ⟨x', y', r', e5⟩ := right_5 k g x1 y1 r1 x5 x6 x7 x8
  refine ⟨x', y', r', ?_⟩
  clear g
  generalize oD (best bs) = O at *
  generalize hrs ((best bs).map (job bs)) = due at *
  generalize bsD bs = B at *
  generalize S.cons S5 (.cons S6 (.cons S7 (.cons S8 (.cons (.ret (.bl true)) .nil)))) = T5 at *
  generalize S4 = T4 at *
  generalize S3 = T3 at *
  generalize S2 = T2 at *
  generalize S1 = T1 at *
  walk_at "run"
end Law_k64

namespace Law_k64
open PySem PySem.Spec PyProof.Rows L2 Den K64
local macro_rules | `(tactic| walk_at "go") => `(tactic| simp only [callM, runB, FT.fn, startD, ev_var, ev_num, ev_txt, ev_bl, ev_non, ev_glo, ev_con, ev_bin, ev_neg, ev_not, ev_one, ev_and, ev_or, ev_cmp, ev_chn, ev_ite, ev_cal0, ev_cal, ev_cav, ev_bif, ev_isi, ev_nil, ev_cons, ev_tup, ev_lst, ev_cel, ev_idx, ev_sli, ev_nop, ev_err, ev_isx, ev_joi, ev_rng1, ev_rng2, ev_itr, ev_itl, ev_zip, ev_zip3, ev_fld, ev_mth0, ev_mth, ev_mk0, ev_pop0, ev_rev, ev_rgl1, ev_rgl2, ev_lset, ev_popi, ev_newb, ev_newl, ev_enm, ex_pass, ex_nil, ex_cons, ex_set, ex_tgt, ex_par, ex_par3, ex_ife, ex_whl, ex_ret, ex_retn, ex_exp, ex_brk, ex_cnt, ex_rai, ex_frz, ex_app, ex_sub, ex_fset, ex_fs3, ex_for, evT, asg, Option.bind_some, ev_cmpn, ev_cmp2, ev_cmpc, wipeD, gcal, gcon, bind_ok, bind_er, bind_no, calm_ok, b_add, b_sub, i_t0, i_t1, c_lt, c_le, c_gt, c_ge, c_eq, c_ne, t_bl, get0, gets, List.length_cons, List.length_nil, List.map_cons, List.map_nil, List.replicate, List.cons_append, List.nil_append, List.set_cons_zero, List.set_cons_succ, List.append_nil, if_true, if_false, Nat.reduceAdd, Nat.reduceSub, Nat.sub_self, Nat.zero_add, reduceIte, Bool.false_eq_true, bgcd, babs, bint, fits, Nat.reduceLeDiff, decide_true, decide_false, Bool.not_true, Bool.not_false, i_c0, i_c1, s_c0, s_c1, blen, tlen, p18, *])
local macro_rules | `(tactic| walk_at "run") => `(tactic| (rw [run_succ]; walk_at "go"))

/-! ### errors -/
/-- the first argument tells no bodies -/
def NoB (k : Nat) (d : D) : Prop := ∀ μ : Mem, run M 0 (k + 2) "need_bodies" [d] μ = .er ⟨"InvalidHours", []⟩ μ
section
variable {k : Nat} {d : D} (h : NoB k d) (μ : Mem)
include h
theorem no_least : run M 0 (k + 3) "least_by_order" [d] μ = .er ⟨"InvalidHours", []⟩ μ := by
  have hat : M.at_ "least_by_order" = some t_least_by_order.fn := by rfl
  simp only [t_least_by_order, c_least_by_order] at hat
  have e := h μ
  clear h
  walk_at "run"
theorem no_best : run M 0 (k + 3) "best_order" [d] μ = .er ⟨"InvalidHours", []⟩ μ := by
  have hat : M.at_ "best_order" = some t_best_order.fn := by rfl
  simp only [t_best_order, c_best_order] at hat
  have e := h μ
  clear h
  walk_at "run"
theorem no_order (v : D) : run M 0 (k + 3) "need_order" [d, v] μ = .er ⟨"InvalidHours", []⟩ μ := by
  have hat : M.at_ "need_order" = some t_need_order.fn := by rfl
  simp only [t_need_order, c_need_order] at hat
  have e := h μ
  clear h
  walk_at "run"
theorem no_hours (v : D) : run M 0 (k + 4) "hours_by" [d, v] μ = .er ⟨"InvalidHours", []⟩ μ := by
  have hat : M.at_ "hours_by" = some t_hours_by.fn := by rfl
  simp only [t_hours_by, c_hours_by] at hat
  have e := no_order h μ v
  clear h
  walk_at "run"
theorem no_turning (v : D) : run M 0 (k + 4) "turning_places" [d, v] μ = .er ⟨"InvalidHours", []⟩ μ := by
  have hat : M.at_ "turning_places" = some t_turning_places.fn := by rfl
  simp only [t_turning_places, c_turning_places] at hat
  have e := no_order h μ v
  clear h
  walk_at "run"
theorem no_is (v w : D) : run M 0 (k + 3) "is_order" [d, v, w] μ = .er ⟨"InvalidHours", []⟩ μ := by
  have hat : M.at_ "is_order" = some t_is_order.fn := by rfl
  simp only [t_is_order, c_is_order] at hat
  have e := h μ
  clear h
  walk_at "run"
end
def pr (a b : Int) : D := .tup [.int a, .int b]
def odds1 : List D := [.non, .tup [], .lst [.tup [.int 1, .int 2]], .tup [.tup [.int 1]], .tup [.tup [.int 1, .int 2, .int 3]], .tup [.tup [.int (-1), .int 2]]]
def odds2 : List D := [.tup [.tup [.int 1, .int 1001]], .tup [.tup [.bl true, .int 1]], .tup [.lst [.int 1, .int 2]], .tup [.int 1, .int 2], .tup (List.replicate 11 (.tup [.int 1, .int 2])), .int 0]
theorem odds_no : ∀ d ∈ odds1 ++ odds2, NoB 34 d ∧ NoB 33 d := fun d hd => by
  simp only [odds1, odds2, List.cons_append, List.nil_append, List.mem_cons, List.not_mem_nil, or_false] at hd
  rcases hd with rfl | rfl | rfl | rfl | rfl | rfl | rfl | rfl | rfl | rfl | rfl | rfl <;> exact ⟨fun μ => by kernel_rfl, fun μ => by kernel_rfl⟩
def hs : D := .str "hours"
def four : List Str := ["least_by_order", "best_order", "hours_by", "turning_places"]
def errE1 : C := .err "_law_fails" (.cav 3 four (.cons (.var 2) .nil))
def errE2 : C := .err "_law_fails" (.cav 3 four (.cons (.var 2) (.cons (.non) .nil)))
def errE3 : C := .err "_law_fails" (.cal "is_order" (.cons (.var 2) (.cons (.non) (.cons (.non) .nil))))
def errE4 : C := .err "_law_fails" (.cal "is_order" (.cons (.tup (.cons (.tup (.cons (.num 1) (.cons (.num 2) .nil))) .nil)) (.cons (.var 4) (.cons (.non) .nil))))
def bodyE : S := .cons (.set 0 (.newb .Add (.var 0) (.cmpn [("call", 3)] (.nm 3) (.itr (.tup (.cons (.glo "least_by_order") (.cons (.glo "best_order") .nil)))) .nop errE1)))
 (.cons (.set 0 (.newb .Add (.var 0) (.cmpn [("call", 3)] (.nm 3) (.itr (.tup (.cons (.glo "hours_by") (.cons (.glo "turning_places") .nil)))) .nop errE2)))
 (.cons (.app (.var 0) errE3)
 .nil))
theorem low37 (f : Str) (ds : List D) (μ : Mem) : (gAt M 0 39).low.cal f ds μ = run M 0 37 f ds μ := rfl
theorem comp_e1 {d : D} (h : NoB 34 d) (x0 x1 x4 : Option D) (μ : Mem) : compL (turnT (gAt M 0 39) (.nm 3) .nop errE1 [x0, x1, some d, none, x4]) [.glo "least_by_order", .glo "best_order"] [] μ = .ok [hs, hs] μ := by
  refine (comp_map (μ := μ) (fun _ => hs) (fun e he => ?_) (by simp)).trans rfl
  rw [turnT_nm, turnD_nop]
  have r1 := no_least h μ
  have r2 := no_best h μ
  simp only [List.mem_cons, List.not_mem_nil, or_false] at he
  unfold errE1
  rcases he with rfl | rfl
  · have lu : evE (gAt M 0 39).low (.cav 3 four (.cons (.var 2) .nil)) [x0, x1, some d, some (.glo "least_by_order"), x4] μ = .er ⟨"InvalidHours", []⟩ μ := by
      rw [low_lu 37 3 _ four [x0, x1, some d, some (.glo "least_by_order"), x4] μ "least_by_order" rfl (by decide)]
      simp only [ev_cons, ev_nil, ev_var, get0, gets, bind_ok, r1]
    have e := err_told 37 lu hnd_hours
    simp only [List.set_cons_succ, List.set_cons_zero]
    rw [e]
    rfl
  · have lu : evE (gAt M 0 39).low (.cav 3 four (.cons (.var 2) .nil)) [x0, x1, some d, some (.glo "best_order"), x4] μ = .er ⟨"InvalidHours", []⟩ μ := by
      rw [low_lu 37 3 _ four [x0, x1, some d, some (.glo "best_order"), x4] μ "best_order" rfl (by decide)]
      simp only [ev_cons, ev_nil, ev_var, get0, gets, bind_ok, r2]
    have e := err_told 37 lu hnd_hours
    simp only [List.set_cons_succ, List.set_cons_zero]
    rw [e]
    rfl
theorem comp_e2 {d : D} (h : NoB 33 d) (x0 x1 x4 : Option D) (μ : Mem) : compL (turnT (gAt M 0 39) (.nm 3) .nop errE2 [x0, x1, some d, none, x4]) [.glo "hours_by", .glo "turning_places"] [] μ = .ok [hs, hs] μ := by
  refine (comp_map (μ := μ) (fun _ => hs) (fun e he => ?_) (by simp)).trans rfl
  rw [turnT_nm, turnD_nop]
  have r1 := no_hours h μ .non
  have r2 := no_turning h μ .non
  simp only [List.mem_cons, List.not_mem_nil, or_false] at he
  unfold errE2
  rcases he with rfl | rfl
  · have lu : evE (gAt M 0 39).low (.cav 3 four (.cons (.var 2) (.cons (.non) .nil))) [x0, x1, some d, some (.glo "hours_by"), x4] μ = .er ⟨"InvalidHours", []⟩ μ := by
      rw [low_lu 37 3 _ four [x0, x1, some d, some (.glo "hours_by"), x4] μ "hours_by" rfl (by decide)]
      simp only [ev_cons, ev_nil, ev_var, ev_non, get0, gets, bind_ok, r1]
    have e := err_told 37 lu hnd_hours
    simp only [List.set_cons_succ, List.set_cons_zero]
    rw [e]
    rfl
  · have lu : evE (gAt M 0 39).low (.cav 3 four (.cons (.var 2) (.cons (.non) .nil))) [x0, x1, some d, some (.glo "turning_places"), x4] μ = .er ⟨"InvalidHours", []⟩ μ := by
      rw [low_lu 37 3 _ four [x0, x1, some d, some (.glo "turning_places"), x4] μ "turning_places" rfl (by decide)]
      simp only [ev_cons, ev_nil, ev_var, ev_non, get0, gets, bind_ok, r2]
    have e := err_told 37 lu hnd_hours
    simp only [List.set_cons_succ, List.set_cons_zero]
    rw [e]
    rfl
theorem e_e3 {d : D} (h : NoB 34 d) (x0 x1 x3 x4 : Option D) (μ : Mem) : evE (gAt M 0 39) errE3 [x0, x1, some d, x3, x4] μ = .ok hs μ := by
  have r1 := no_is h μ .non .non
  have lu : evE (gAt M 0 39).low (.cal "is_order" (.cons (.var 2) (.cons (.non) (.cons (.non) .nil)))) [x0, x1, some d, x3, x4] μ = .er ⟨"InvalidHours", []⟩ μ := by
    simp only [ev_cal, ev_cons, ev_nil, ev_var, ev_non, get0, gets, bind_ok, low37, r1]
  exact err_told 37 lu hnd_hours
theorem good12 : Good [(1, 2)] := ⟨by decide, by decide, by decide⟩
theorem comp_e4 (x0 x1 x2 x3 : Option D) (μ : Mem) : compL (turnT (gAt M 0 39) (.nm 4) .nop errE4 [x0, x1, x2, x3, none]) [.non, .int (-1), .int 20001, .bl true, .str "1"] [] μ = .ok (List.replicate 5 (.str "number")) μ := by
  refine (comp_map (μ := μ) (fun _ => .str "number") (fun e he => ?_) (by simp)).trans rfl
  rw [turnT_nm, turnD_nop]
  have hat : M.at_ "is_order" = some t_is_order.fn := by rfl
  simp only [t_is_order, c_is_order] at hat
  have e0 : M.con.lookup ("LAST" : Str) = some (.int 20000) := by rfl
  have e1 := r_need 34 μ good12
  have e2 := r_need_wholeD (W := 0) at_needw at_whole 34 μ e 0 20000 (by
    simp only [List.mem_cons, List.not_mem_nil, or_false] at he
    rcases he with rfl | rfl | rfl | rfl | rfl <;> rfl) (by
    simp only [List.mem_cons, List.not_mem_nil, or_false] at he
    rcases he with rfl | rfl | rfl | rfl | rfl <;> rfl)
  have r1 : run M 0 37 "is_order" [bsD [(1, 2)], e, .non] μ = .er ⟨"InvalidNumber", []⟩ μ := by
    clear he
    generalize bsD [(1, 2)] = B at *
    show run M 0 (36 + 1) _ _ _ = _
    walk_at "run"
  have lu : evE (gAt M 0 39).low (.cal "is_order" (.cons (.tup (.cons (.tup (.cons (.num 1) (.cons (.num 2) .nil))) .nil)) (.cons (.var 4) (.cons (.non) .nil)))) [x0, x1, x2, x3, some e] μ = .er ⟨"InvalidNumber", []⟩ μ := by
    have q : run M 0 37 "is_order" [.tup [.tup [.int 1, .int 2]], e, .non] μ = .er ⟨"InvalidNumber", []⟩ μ := r1
    clear r1 e1 e2 hat he e0
    simp only [ev_cal, ev_cons, ev_nil, ev_var, ev_num, ev_tup, ev_non, get0, gets, bind_ok, low37, q, fits, List.length_cons, List.length_nil, Nat.reduceAdd, Nat.reduceLeDiff, decide_true, if_true]
  simp only [List.set_cons_succ, List.set_cons_zero]
  unfold errE4
  rw [err_told 37 lu hnd_number]
  rfl
theorem newb_cel {n : Nat} {ν : Mem} {ws zs : List D} (h : ν[n]? = some (some (.lst ws))) (hl : ws.length + zs.length ≤ 16777216) : celR (binD .Add (.cel n) (.lst zs) ν) = .ok (.cel ν.length) (ν ++ [some (.lst (ws ++ zs))]) := by
  have e : binD .Add (.cel n) (.lst zs) ν = .ok (.lst (ws ++ zs)) ν := by
    show (match asLst ν (.cel n), asLst ν (.lst zs) with | some xs, some ys => if fits (xs.length + ys.length) then R.ok (D.lst (xs ++ ys)) ν else .no | _, _ => .no) = _
    simp only [asLst, h]
    rw [if_pos (by unfold fits; exact decide_eq_true hl)]
  rw [e]
  rfl
theorem err_turn {d : D} (h : NoB 34 d ∧ NoB 33 d) {n : Nat} {ν : Mem} {ws : List D} (hn : ν[n]? = some (some (.lst ws))) (hl : ws.length ≤ 1000) (x1 x2 : Option D) :
    ∃ n' ν', ν'[n']? = some (some (.lst (ws ++ [hs, hs, hs, hs, hs]))) ∧ forT (gAt M 0 39) (.nm 2) bodyE d [some (.cel n), x1, x2, none, none] ν = .ok (.nx [some (.cel n'), x1, some d, none, none]) ν' := by
  have e1 := fun x0 x1 x4 => comp_e1 h.1 x0 x1 x4 ν
  have e2 := @newb_cel n ν ws [hs, hs] hn (by simp; omega)
  generalize hν1 : ν ++ [some (Cell.lst (ws ++ [hs, hs]))] = ν1 at *
  have g1 : ν1[ν.length]? = some (some (.lst (ws ++ [hs, hs]))) := by rw [← hν1]; exact mem_last
  have e3 := fun x0 x1 x4 => comp_e2 h.2 x0 x1 x4 ν1
  have e4 := @newb_cel ν.length ν1 (ws ++ [hs, hs]) [hs, hs] g1 (by simp; omega)
  generalize hν2 : ν1 ++ [some (Cell.lst (ws ++ [hs, hs] ++ [hs, hs]))] = ν2 at *
  have e5 : isCel ν2 (.cel ν1.length) = true := by rw [← hν2]; exact isCel_last
  have e6 := fun x0 x1 x3 x4 => e_e3 h.1 x0 x1 x3 x4 ν2
  have e7 : appD (.cel ν1.length) hs ν2 = .ok () (ν1 ++ [some (.lst (ws ++ [hs, hs] ++ [hs, hs] ++ [hs]))]) := by
    rw [← hν2]
    exact app_last (by simp; omega)
  refine ⟨ν1.length, ν1 ++ [some (.lst (ws ++ [hs, hs] ++ [hs, hs] ++ [hs]))], ?_, ?_⟩
  · rw [mem_last]
    simp
  · have e8 := @w_tup [.glo "least_by_order", .glo "best_order"]
    have e9 := @w_tup [.glo "hours_by", .glo "turning_places"]
    generalize ν1 ++ [some (Cell.lst (ws ++ [hs, hs] ++ [hs, hs] ++ [hs]))] = ν3 at *
    rw [forT_nm]
    clear h hn hl hν1 hν2 g1
    unfold bodyE
    generalize errE1 = E1 at *
    generalize errE2 = E2 at *
    generalize errE3 = E3 at *
    walk_at "go"
theorem r_errors (x y : Int) (r : Mem) : ∃ μ', run M 0 40 "_law_errors" [] (cupM x y r) = .ok (.bl true) μ' := by
  have hat : M.at_ "_law_errors" = some t__law_errors.fn := by rfl
  have ec : c__law_errors = .cons (.set 0 (.cel .nil)) (.cons (.set 1 (.lst (.cons (.non) (.cons (.tup .nil) (.cons (.lst (.cons (.tup (.cons (.num 1) (.cons (.num 2) .nil))) .nil)) (.cons (.tup (.cons (.tup (.cons (.num 1) .nil)) .nil)) (.cons (.tup (.cons (.tup (.cons (.num 1) (.cons (.num 2) (.cons (.num 3) .nil)))) .nil)) (.cons (.tup (.cons (.tup (.cons (.neg (.num 1)) (.cons (.num 2) .nil))) .nil)) .nil))))))))
   (.cons (.set 1 (.bin .Add (.var 1) (.lst (.cons (.tup (.cons (.tup (.cons (.num 1) (.cons (.num 1001) .nil))) .nil)) (.cons (.tup (.cons (.tup (.cons (.bl true) (.cons (.num 1) .nil))) .nil)) (.cons (.tup (.cons (.lst (.cons (.num 1) (.cons (.num 2) .nil))) .nil)) (.cons (.tup (.cons (.num 1) (.cons (.num 2) .nil))) (.cons (.bin .Mult (.tup (.cons (.tup (.cons (.num 1) (.cons (.num 2) .nil))) .nil)) (.num 11)) (.cons (.num 0) .nil)))))))))
   (.cons (.for (.nm 2) (.itr (.var 1)) bodyE)
   (.cons (.set 0 (.newb .Add (.var 0) (.cmpn [("number", 4)] (.nm 4) (.itr (.tup (.cons (.non) (.cons (.neg (.num 1)) (.cons (.num 20001) (.cons (.bl true) (.cons (.txt "1") .nil))))))) .nop errE4)))
   (.cons (.frz 0)
   (.cons (.ret (.cmp .Eq (.var 0) (.bin .Add (.bin .Mult (.lst (.cons (.txt "hours") .nil)) (.bin .Mult (.num 5) (.bif .len (.cons (.var 1) .nil)))) (.bin .Mult (.lst (.cons (.txt "number") .nil)) (.num 5)))))
   .nil)))))) := by rfl
  simp only [t__law_errors, ec] at hat
  generalize hμ : cupM x y r = μ
  obtain ⟨ρ', μ', ⟨n, x2, q1, q2⟩, e⟩ := for_inv (turn := forT (gAt M 0 39) (.nm 2) bodyE)
    (I := fun i ρ ν => ∃ n x2, ρ = [some (.cel n), some (.lst (odds1 ++ odds2)), x2, none, none] ∧ ν[n]? = some (some (.lst (List.replicate (5 * i) hs))))
    (xs := odds1 ++ odds2) (n := 0) (ρ := [some (.cel μ.length), some (.lst (odds1 ++ odds2)), none, none, none]) (μ := μ ++ [some (.lst [])])
    (fun i dd ρ ν hdd ⟨n, x2, q1, q2⟩ => by
      subst q1
      have hm : dd ∈ odds1 ++ odds2 := List.mem_of_getElem? hdd
      have hi := (List.getElem?_eq_some_iff.mp hdd).1
      have hi : i < 12 := hi
      obtain ⟨n', ν', h1, h2⟩ := err_turn (odds_no dd hm) q2 (by simp; omega) (some (.lst (odds1 ++ odds2))) x2
      refine ⟨_, ν', ⟨n', some dd, rfl, ?_⟩, h2⟩
      rw [h1, show 5 * (0 + i + 1) = 5 * (0 + i) + 5 from by omega, ← List.replicate_append_replicate]
      rfl)
    ⟨μ.length, none, rfl, mem_last⟩
  subst q1
  have q2 : μ'[n]? = some (some (.lst (List.replicate 60 hs))) := q2
  have e1 := comp_e4 (some (.cel n)) (some (.lst (odds1 ++ odds2))) x2 none μ'
  have e2 := @newb_cel n μ' (List.replicate 60 hs) (List.replicate 5 (.str "number")) q2 (by simp)
  have e3 : ∀ c : Option Cell, (μ' ++ [c])[μ'.length]? = some c := fun c => mem_last
  have e4 : ∀ c : Option Cell, (μ' ++ [c]).set μ'.length none = μ' ++ [none] := fun c => frz_last
  have e5 : ∀ ν : Mem, bifD .len [.lst (odds1 ++ odds2)] ν = .ok (.int 12) ν := fun ν => rfl
  have e6 : ∀ ν : Mem, binD .Mult (.int 5) (.int 12) ν = .ok (.int 60) ν := fun ν => by kernel_rfl
  have e7 : ∀ ν : Mem, binD .Mult (.lst [.str "hours"]) (.int 60) ν = .ok (.lst (List.replicate 60 hs)) ν := fun ν => by kernel_rfl
  have e8 : ∀ ν : Mem, binD .Mult (.lst [.str "number"]) (.int 5) ν = .ok (.lst (List.replicate 5 (.str "number"))) ν := fun ν => by kernel_rfl
  have e9 : ∀ ν : Mem, binD .Add (.lst (List.replicate 60 hs)) (.lst (List.replicate 5 (.str "number"))) ν = .ok (.lst (List.replicate 60 hs ++ List.replicate 5 (.str "number"))) ν := fun ν => b_lst (by simp)
  have ea : ∀ ν : Mem, cmpD .Eq (.lst (List.replicate 60 hs ++ List.replicate 5 (.str "number"))) (.lst (List.replicate 60 hs ++ List.replicate 5 (.str "number"))) ν = .ok true ν := fun ν => by kernel_rfl
  have eb : ∀ ν : Mem, binD .Mult (.tup [.tup [.int 1, .int 2]]) (.int 11) ν = .ok (.tup (List.replicate 11 (.tup [.int 1, .int 2]))) ν := fun ν => by kernel_rfl
  have ef : ∀ ν : Mem, binD .Add (.lst odds1) (.lst odds2) ν = .ok (.lst (odds1 ++ odds2)) ν := fun ν => b_lst (by decide)
  have eg := @w_lst (odds1 ++ odds2)
  have eh := @w_tup [.non, .int (-1), .int 20001, .bl true, .str "1"]
  have o1 : odds1 = [.non, .tup [], .lst [.tup [.int 1, .int 2]], .tup [.tup [.int 1]], .tup [.tup [.int 1, .int 2, .int 3]], .tup [.tup [.int (-1), .int 2]]] := rfl
  have o2 : odds2 = [.tup [.tup [.int 1, .int 1001]], .tup [.tup [.bl true, .int 1]], .tup [.lst [.int 1, .int 2]], .tup [.int 1, .int 2], .tup (List.replicate 11 (.tup [.int 1, .int 2])), .int 0] := rfl
  generalize hO : odds1 ++ odds2 = O at *
  clear hO
  rw [o1, o2] at ef
  generalize hR : List.replicate 11 (D.tup [.int 1, .int 2]) = R11 at *
  generalize hZ : List.replicate 60 hs ++ List.replicate 5 (D.str "number") = Z at *
  generalize hZ1 : List.replicate 60 hs = Z1 at *
  generalize hZ2 : List.replicate 5 (D.str "number") = Z2 at *
  refine ⟨μ' ++ [none], ?_⟩
  clear hR hZ hZ1 hZ2 o1 o2 q2 hμ
  generalize bodyE = BE at *
  generalize errE4 = E4 at *
  show run M 0 (39 + 1) _ _ _ = _
  walk_at "run"
end Law_k64

namespace Law_k64
open PySem PySem.Spec PyProof.Rows L2 Den K64
local macro_rules | `(tactic| walk_at "go") => `(tactic| simp only [callM, runB, FT.fn, startD, ev_var, ev_num, ev_txt, ev_bl, ev_non, ev_glo, ev_con, ev_bin, ev_neg, ev_not, ev_one, ev_and, ev_or, ev_cmp, ev_chn, ev_ite, ev_cal0, ev_cal, ev_cav, ev_bif, ev_isi, ev_nil, ev_cons, ev_tup, ev_lst, ev_cel, ev_idx, ev_sli, ev_nop, ev_err, ev_isx, ev_joi, ev_rng1, ev_rng2, ev_itr, ev_itl, ev_zip, ev_zip3, ev_fld, ev_mth0, ev_mth, ev_mk0, ev_pop0, ev_rev, ev_rgl1, ev_rgl2, ev_lset, ev_popi, ev_newb, ev_newl, ev_enm, ex_pass, ex_nil, ex_cons, ex_set, ex_tgt, ex_par, ex_par3, ex_ife, ex_whl, ex_ret, ex_retn, ex_exp, ex_brk, ex_cnt, ex_rai, ex_frz, ex_app, ex_sub, ex_fset, ex_fs3, ex_for, evT, asg, Option.bind_some, ev_cmpn, ev_cmp2, ev_cmpc, wipeD, gcal, gcon, bind_ok, bind_er, bind_no, calm_ok, b_add, b_sub, i_t0, i_t1, c_lt, c_le, c_gt, c_ge, c_eq, c_ne, t_bl, get0, gets, List.length_cons, List.length_nil, List.map_cons, List.map_nil, List.replicate, List.cons_append, List.nil_append, List.set_cons_zero, List.set_cons_succ, List.append_nil, if_true, if_false, Nat.reduceAdd, Nat.reduceSub, Nat.sub_self, Nat.zero_add, reduceIte, Bool.false_eq_true, bgcd, babs, bint, fits, Nat.reduceLeDiff, decide_true, decide_false, Bool.not_true, Bool.not_false, i_c0, i_c1, s_c0, s_c1, blen, tlen, p18, *])
local macro_rules | `(tactic| walk_at "run") => `(tactic| (rw [run_succ]; walk_at "go"))

theorem at_some : M.at_ "_law_some" = some someFn := by rfl
theorem at_cup : M.at_ "_law_cup" = some (cupFn 139 389 5717 1944129511 241) := by rfl
/-! ### drawn bodies -/
def okJ (p : J) : Prop := 0 ≤ p.1 ∧ p.1 ≤ 1000 ∧ 0 ≤ p.2 ∧ p.2 ≤ 1000
theorem pD_of : ∀ {ys : List D}, (∀ y ∈ ys, ∃ p : J, y = pD p ∧ okJ p) → ∃ bs : List J, ys = bs.map pD ∧ ∀ p ∈ bs, okJ p
  | [], _ => ⟨[], rfl, fun p hp => nomatch hp⟩
  | y :: ys, h => by
    obtain ⟨p, rfl, hp⟩ := h y List.mem_cons_self
    obtain ⟨bs, rfl, hb⟩ := pD_of fun z hz => h z (List.mem_cons_of_mem _ hz)
    refine ⟨p :: bs, rfl, fun q hq => ?_⟩
    rcases List.mem_cons.mp hq with rfl | hq
    · exact hp
    · exact hb q hq
def drawC (eC : C) : C := .tup (.cons (.cal "_law_roll" (.cons (.var 1) (.cons eC .nil))) (.cons (.cal "_law_roll" (.cons (.var 1) (.cons eC .nil))) .nil))
theorem draws (eC : C) {m : Int} (h1 : 1 ≤ m) (h2 : m ≤ 1001) {ρ : DEnv} (hc : ∀ d, (ρ.set 9 d)[1]? = some (some (.cel 0))) (he : ∀ d μ, evE (gAt M 0 40) eC (ρ.set 9 d) μ = .ok (.int m) μ) {n : Nat} (hn : n ≤ 10) (x y : Int) (r : Mem) :
    ∃ (bs : List J) (x' y' : Int), bs.length = n ∧ (∀ p ∈ bs, okJ p) ∧ compL (turnT (gAt M 0 40) (.nm 9) .nop (drawC eC) ρ) (rngL 0 (n : Int)) [] (cupM x y r) = .ok (bs.map pD) (cupM x' y' r) := by
  obtain ⟨ys, μ', ⟨x', y', rfl⟩, hl, hq, e⟩ := comp_inv (turn := turnT (gAt M 0 40) (.nm 9) .nop (drawC eC) ρ) (I := fun μ => ∃ x y, μ = cupM x y r) (Q := fun d => ∃ p : J, d = pD p ∧ okJ p) (xs := rngL 0 (n : Int)) (acc := []) (μ := cupM x y r) (fun d hd μ ⟨x, y, hμ⟩ => by
    subst hμ
    obtain ⟨v, x1, y1, v0, v1, e1⟩ := r_roll (W := 0) at_roll ok_roll 39 x y r m (by omega) (log2_small (by omega) (by omega))
    obtain ⟨w, x2, y2, w0, w1, e2⟩ := r_roll (W := 0) at_roll ok_roll 39 x1 y1 r m (by omega) (log2_small (by omega) (by omega))
    refine ⟨pD (v, w), cupM x2 y2 r, ⟨x2, y2, rfl⟩, ⟨(v, w), rfl, v0, by show v ≤ 1000; omega, w0, by show w ≤ 1000; omega⟩, ?_⟩
    have hc := hc (some d)
    have he := he (some d)
    rw [turnT_nm, turnD_nop]
    generalize ρ.set 9 (some d) = ρ' at *
    clear h1 h2 hn hd v0 v1 w0 w1
    unfold drawC
    walk_at "go") (by rw [rgl_il]; simp [il]; omega) ⟨x, y, rfl⟩
  obtain ⟨bs, rfl, hb⟩ := pD_of hq
  refine ⟨bs, x', y', ?_, hb, e⟩
  rw [List.length_map] at hl
  rw [hl, rgl_il]
  simp [il]
theorem i_cons {d : D} {ds : List D} {μ : Mem} : (d :: ds)[0]? = some d := rfl
def bodyT : S := .cons (.tgt (.cons (.nm 3) (.cons (.nm 4) .nil)) (.tup (.cons (.bin .Add (.num 1) (.cal "_law_some" (.cons (.var 1) (.cons (.lst (.cons (.cal "_law_roll" (.cons (.var 1) (.cons (.num 4) .nil))) (.cons (.cal "_law_roll" (.cons (.var 1) (.cons (.num 10) .nil))) .nil))) .nil)))) (.cons (.cal "_law_some" (.cons (.var 1) (.cons (.lst (.cons (.num 1) (.cons (.num 5) (.cons (.num 300) .nil)))) .nil))) .nil))))
 (.cons (.set 5 (.bif .tuple (.cons (.cmpn [("body", 9)] (.nm 9) (.rng1 (.var 3)) .nop (drawC (.bin .Add (.var 4) (.num 1)))) .nil)))
 (.cons (.ife (.not (.cal "_law_right" (.cons (.var 1) (.cons (.var 5) .nil)))) (.cons (.ret (.bl false)) .nil) .nil)
 .nil))
theorem turn_ok (x y : Int) (r : Mem) (s x2 x3 x4 x5 : Option D) (dd : D) :
    ∃ x3' x4' x5' x' y' r', forT (gAt M 0 40) (.nm 2) bodyT dd [s, some (.cel 0), x2, x3, x4, x5, none, none, none, none] (cupM x y r) = .ok (.nx [s, some (.cel 0), some dd, x3', x4', x5', none, none, none, none]) (cupM x' y' r') := by
  obtain ⟨v, x1, y1, v0, v1, e1⟩ := r_roll (W := 0) at_roll ok_roll 39 x y r 4 (by omega) (log2_small (by omega) (by omega))
  obtain ⟨w, xa, ya, w0, w1, e2⟩ := r_roll (W := 0) at_roll ok_roll 39 x1 y1 r 10 (by omega) (log2_small (by omega) (by omega))
  obtain ⟨i, xb, yb, hi, e3⟩ := r_some (W := 0) at_roll ok_roll at_some 38 xa ya r [.int v, .int w] (by simp) (by simp)
  obtain ⟨j, xc, yc, hj, e4⟩ := r_some (W := 0) at_roll ok_roll at_some 38 xb yb r [.int 1, .int 5, .int 300] (by simp) (by simp)
  obtain ⟨m, hm, m0, m1⟩ : ∃ m : Int, [D.int v, .int w][i] = .int m ∧ 0 ≤ m ∧ m ≤ 9 := by
    match i, hi with
    | 0, _ => exact ⟨v, rfl, by omega, by omega⟩
    | 1, _ => exact ⟨w, rfl, by omega, by omega⟩
  obtain ⟨t, ht, t0, t1⟩ : ∃ t : Int, [D.int 1, .int 5, .int 300][j] = .int t ∧ 0 ≤ t ∧ t ≤ 1000 := by
    match j, hj with
    | 0, _ => exact ⟨1, rfl, by omega, by omega⟩
    | 1, _ => exact ⟨5, rfl, by omega, by omega⟩
    | 2, _ => exact ⟨300, rfl, by omega, by omega⟩
  rw [hm] at e3
  rw [ht] at e4
  obtain ⟨n, hn⟩ : ∃ n : Nat, 1 + m = (n : Int) := ⟨(1 + m).toNat, by omega⟩
  obtain ⟨bs, xd, yd, b1, b2, e5⟩ := draws (.bin .Add (.var 4) (.num 1)) (m := t + 1) (by omega) (by omega) (ρ := [s, some (.cel 0), some dd, some (.int (n : Int)), some (.int t), x5, none, none, none, none]) (fun d => rfl) (fun d μ => by simp only [ev_bin, ev_var, ev_num, List.set_cons_succ, List.set_cons_zero, get0, gets, bind_ok, b_add]) (n := n) (by omega) xc yc r
  have g : Good bs := ⟨by omega, by omega, b2⟩
  obtain ⟨x', y', r', e6⟩ := r_right 32 g xd yd r
  refine ⟨some (.int (n : Int)), some (.int t), some (bsD bs), x', y', r', ?_⟩
  have e7 : rngOk (n : Int) = true := by unfold rngOk; exact decide_eq_true (by omega)
  have e8 : bifD .tuple [.lst (bs.map pD)] (cupM xd yd r) = .ok (bsD bs) (cupM xd yd r) := rfl
  rw [forT_nm]
  clear g b1 b2 hm ht m0 m1 t0 t1 v0 v1 w0 w1
  generalize bsD bs = B at *
  generalize bs.map pD = BL at *
  unfold bodyT
  generalize drawC (.bin .Add (.var 4) (.num 1)) = DC at *
  walk_at "go"
theorem turns_loop (s : Option D) (x y : Int) (r : Mem) :
    ∃ x2' x3' x4' x5' x' y' r', forL (forT (gAt M 0 40) (.nm 2) bodyT) (rngL 0 6) [s, some (.cel 0), none, none, none, none, none, none, none, none] (cupM x y r) = .ok (.nx [s, some (.cel 0), x2', x3', x4', x5', none, none, none, none]) (cupM x' y' r') := by
  obtain ⟨ρ', μ', ⟨x2, x3, x4, x5, x', y', r', q1, q2⟩, e⟩ := for_inv (turn := forT (gAt M 0 40) (.nm 2) bodyT)
    (I := fun i ρ ν => ∃ x2 x3 x4 x5 x y r, ρ = [s, some (.cel 0), x2, x3, x4, x5, none, none, none, none] ∧ ν = cupM x y r)
    (xs := rngL 0 6) (n := 0) (ρ := [s, some (.cel 0), none, none, none, none, none, none, none, none]) (μ := cupM x y r)
    (fun i dd ρ ν hdd ⟨x2, x3, x4, x5, x, y, r, q1, q2⟩ => by
      subst q1 q2
      obtain ⟨x3', x4', x5', x', y', r', e⟩ := turn_ok x y r s x2 x3 x4 x5 dd
      exact ⟨_, _, ⟨some dd, x3', x4', x5', x', y', r', rfl, rfl⟩, e⟩)
    ⟨none, none, none, none, x, y, r, rfl, rfl⟩
  subst q1 q2
  exact ⟨x2, x3, x4, x5, x', y', r', e⟩
/-! ### told by hand -/
def B1 : D := .tup [pr 3 2, pr 1 4]
def B0 : D := .tup [pr 0 0]
def F5 : D := .tup [pr 4 5, pr 4 1, pr 10 4, pr 6 10, pr 2 3]
def T4 : D := .tup [pr 2 2, pr 2 2, pr 2 2, pr 2 2]
def T3 : D := .tup [pr 5 3, pr 5 2, pr 5 1]
def N3 : D := .tup [pr 0 9, pr 1 1, pr 1 1]
def G10 : D := .tup (List.replicate 10 (pr 1000 1000))
def b1 : List J := [(3, 2), (1, 4)]
def b0 : List J := [(0, 0)]
def f5 : List J := [(4, 5), (4, 1), (10, 4), (6, 10), (2, 3)]
def t4 : List J := [(2, 2), (2, 2), (2, 2), (2, 2)]
def t3 : List J := [(5, 3), (5, 2), (5, 1)]
def n3 : List J := [(0, 9), (1, 1), (1, 1)]
def g10 : List J := List.replicate 10 (1000, 1000)
def z2 : List J := [(0, 0), (0, 0)]
def d2 : List J := [(9, 0), (0, 9)]
theorem gd1 : Good b1 := ⟨by decide, by decide, by decide⟩
theorem gd0 : Good b0 := ⟨by decide, by decide, by decide⟩
theorem gf5 : Good f5 := ⟨by decide, by decide, by decide⟩
theorem gt4 : Good t4 := ⟨by decide, by decide, by decide⟩
theorem gt3 : Good t3 := ⟨by decide, by decide, by decide⟩
theorem gn3 : Good n3 := ⟨by decide, by decide, by decide⟩
theorem gg10 : Good g10 := ⟨by decide, by decide, by decide⟩
theorem gz2 : Good z2 := ⟨by decide, by decide, by decide⟩
theorem gd2 : Good d2 := ⟨by decide, by decide, by decide⟩
theorem best_is {bs : List J} {l : List Nat} (p : l.Perm (List.range bs.length)) (h : l.Pairwise fun a b => key bs a b = true) : best bs = l := uniq best_sorted h (best_perm.trans p.symm)
theorem best1 : best b1 = [1, 0] := best_is (by decide) (by decide)
theorem best0 : best b0 = [0] := best_is (by decide) (by decide)
theorem best5 : best f5 = [4, 0, 3, 2, 1] := best_is (by decide) (by decide)
theorem best3 : best t3 = [0, 1, 2] := best_is (by decide) (by decide)
theorem best10 : best g10 = List.range 10 := best_is (by decide) (by decide)
section
variable (μ : Mem)
theorem h1 : run M 0 40 "hours_by" [B1, .tup [.int 0, .int 1]] μ = .ok (.int 9) μ := r_hours_by 35 μ gd1 (l := [0, 1]) (by decide)
theorem h2 : run M 0 40 "hours_by" [B1, .tup [.int 1, .int 0]] μ = .ok (.int 7) μ := r_hours_by 35 μ gd1 (l := [1, 0]) (by decide)
theorem h3 : run M 0 40 "least_by_order" [B1] μ = .ok (.int 7) μ := by
  have := r_least 37 μ gd1
  rw [best1] at this
  exact this
theorem h4 : run M 0 40 "best_order" [B1] μ = .ok (.tup [.int 1, .int 0]) μ := by
  have := r_best 37 μ gd1
  rw [best1] at this
  exact this
theorem h5 : run M 0 40 "is_order" [B1, .int 8, .tup [.int 0, .int 1]] μ = .ok (.bl false) μ := by
  have := r_is_order 36 μ gd1 (v := oD [0, 1]) (fine_o _ (by decide)) (n := 8) (by decide) (by decide)
  rw [ordB_of (by decide), hrsV_o] at this
  exact this
theorem h6 : run M 0 40 "turning_places" [B1, .tup [.int 1, .int 0]] μ = .ok (.tup [.int 0]) (μ ++ [none]) := r_turning 35 μ gd1 (l := [1, 0]) (by decide)
theorem h7 : run M 0 40 "turning_places" [B1, .tup [.int 0, .int 1]] μ = .ok (.tup [.int 0]) (μ ++ [none]) := r_turning 35 μ gd1 (l := [0, 1]) (by decide)
theorem h8 : run M 0 40 "least_by_order" [B0] μ = .ok (.int 0) μ := by
  have := r_least 37 μ gd0
  rw [best0] at this
  exact this
theorem g1 : run M 0 40 "least_by_order" [F5] μ = .ok (.int 27) μ := by
  have := r_least 37 μ gf5
  rw [best5] at this
  exact this
theorem g2 : run M 0 40 "turning_places" [T4, .tup [.int 0, .int 1, .int 2, .int 3]] μ = .ok (.tup [.int 0, .int 1, .int 2, .int 3]) (μ ++ [none]) := r_turning 35 μ gt4 (l := [0, 1, 2, 3]) (by decide)
theorem g3 : run M 0 40 "hours_by" [T4, .tup [.int 3, .int 2, .int 1, .int 0]] μ = .ok (.int 10) μ := r_hours_by 35 μ gt4 (l := [3, 2, 1, 0]) (by decide)
theorem g4 : run M 0 40 "least_by_order" [T3] μ = .ok (.int 16) μ := by
  have := r_least 37 μ gt3
  rw [best3] at this
  exact this
theorem g5 : run M 0 40 "hours_by" [N3, .tup [.int 0, .int 1, .int 2]] μ = .ok (.int 11) μ := r_hours_by 35 μ gn3 (l := [0, 1, 2]) (by decide)
theorem g6 : run M 0 40 "least_by_order" [G10] μ = .ok (.int 11000) μ := by
  have := r_least 37 μ gg10
  rw [best10] at this
  exact this
end
end Law_k64

namespace Law_k64
open PySem PySem.Spec PyProof.Rows L2 Den K64
local macro_rules | `(tactic| walk_at "go") => `(tactic| simp only [callM, runB, FT.fn, startD, ev_var, ev_num, ev_txt, ev_bl, ev_non, ev_glo, ev_con, ev_bin, ev_neg, ev_not, ev_one, ev_and, ev_or, ev_cmp, ev_chn, ev_ite, ev_cal0, ev_cal, ev_cav, ev_bif, ev_isi, ev_nil, ev_cons, ev_tup, ev_lst, ev_cel, ev_idx, ev_sli, ev_nop, ev_err, ev_isx, ev_joi, ev_rng1, ev_rng2, ev_itr, ev_itl, ev_zip, ev_zip3, ev_fld, ev_mth0, ev_mth, ev_mk0, ev_pop0, ev_rev, ev_rgl1, ev_rgl2, ev_lset, ev_popi, ev_newb, ev_newl, ev_enm, ex_pass, ex_nil, ex_cons, ex_set, ex_tgt, ex_par, ex_par3, ex_ife, ex_whl, ex_ret, ex_retn, ex_exp, ex_brk, ex_cnt, ex_rai, ex_frz, ex_app, ex_sub, ex_fset, ex_fs3, ex_for, evT, asg, Option.bind_some, ev_cmpn, ev_cmp2, ev_cmpc, wipeD, gcal, gcon, bind_ok, bind_er, bind_no, calm_ok, b_add, b_sub, i_t0, i_t1, c_lt, c_le, c_gt, c_ge, c_eq, c_ne, t_bl, get0, gets, List.length_cons, List.length_nil, List.map_cons, List.map_nil, List.replicate, List.cons_append, List.nil_append, List.set_cons_zero, List.set_cons_succ, List.append_nil, if_true, if_false, Nat.reduceAdd, Nat.reduceSub, Nat.sub_self, Nat.zero_add, reduceIte, Bool.false_eq_true, bgcd, babs, bint, fits, Nat.reduceLeDiff, decide_true, decide_false, Bool.not_true, Bool.not_false, i_c0, i_c1, s_c0, s_c1, blen, tlen, p18, *])
local macro_rules | `(tactic| walk_at "run") => `(tactic| (rw [run_succ]; walk_at "go"))

def tA : S := .set 6 (.lst (.cons (.cal "hours_by" (.cons (.tup (.cons (.tup (.cons (.num 3) (.cons (.num 2) .nil))) (.cons (.tup (.cons (.num 1) (.cons (.num 4) .nil))) .nil))) (.cons (.tup (.cons (.num 0) (.cons (.num 1) .nil))) .nil))) (.cons (.cal "hours_by" (.cons (.tup (.cons (.tup (.cons (.num 3) (.cons (.num 2) .nil))) (.cons (.tup (.cons (.num 1) (.cons (.num 4) .nil))) .nil))) (.cons (.tup (.cons (.num 1) (.cons (.num 0) .nil))) .nil))) .nil)))
def tB : S := .set 6 (.bin .Add (.var 6) (.lst (.cons (.cal "least_by_order" (.cons (.tup (.cons (.tup (.cons (.num 3) (.cons (.num 2) .nil))) (.cons (.tup (.cons (.num 1) (.cons (.num 4) .nil))) .nil))) .nil)) (.cons (.cal "best_order" (.cons (.tup (.cons (.tup (.cons (.num 3) (.cons (.num 2) .nil))) (.cons (.tup (.cons (.num 1) (.cons (.num 4) .nil))) .nil))) .nil)) .nil))))
def tC : S := .set 6 (.bin .Add (.var 6) (.lst (.cons (.cal "is_order" (.cons (.tup (.cons (.tup (.cons (.num 3) (.cons (.num 2) .nil))) (.cons (.tup (.cons (.num 1) (.cons (.num 4) .nil))) .nil))) (.cons (.num 8) (.cons (.tup (.cons (.num 0) (.cons (.num 1) .nil))) .nil)))) (.cons (.cal "turning_places" (.cons (.tup (.cons (.tup (.cons (.num 3) (.cons (.num 2) .nil))) (.cons (.tup (.cons (.num 1) (.cons (.num 4) .nil))) .nil))) (.cons (.tup (.cons (.num 1) (.cons (.num 0) .nil))) .nil))) .nil))))
def tD : S := .set 6 (.bin .Add (.var 6) (.lst (.cons (.cal "turning_places" (.cons (.tup (.cons (.tup (.cons (.num 3) (.cons (.num 2) .nil))) (.cons (.tup (.cons (.num 1) (.cons (.num 4) .nil))) .nil))) (.cons (.tup (.cons (.num 0) (.cons (.num 1) .nil))) .nil))) .nil)))
def kA : S := .ife (.not (.cal "_law_like" (.cons (.bin .Add (.var 6) (.lst (.cons (.cal "least_by_order" (.cons (.tup (.cons (.tup (.cons (.num 0) (.cons (.num 0) .nil))) .nil)) .nil)) .nil))) (.cons (.lst (.cons (.num 9) (.cons (.num 7) (.cons (.num 7) (.cons (.tup (.cons (.num 1) (.cons (.num 0) .nil))) (.cons (.bl false) (.cons (.tup (.cons (.num 0) .nil)) (.cons (.tup (.cons (.num 0) .nil)) (.cons (.num 0) .nil))))))))) .nil)))) (.cons (.ret (.bl false))  .nil) .nil
def fv : S := .set 7 (.tup (.cons (.tup (.cons (.num 4) (.cons (.num 5) .nil))) (.cons (.tup (.cons (.num 4) (.cons (.num 1) .nil))) (.cons (.tup (.cons (.num 10) (.cons (.num 4) .nil))) (.cons (.tup (.cons (.num 6) (.cons (.num 10) .nil))) (.cons (.tup (.cons (.num 2) (.cons (.num 3) .nil))) .nil))))))
def tE : S := .set 6 (.lst (.cons (.cal "least_by_order" (.cons (.var 7) .nil)) (.cons (.cal "turning_places" (.cons (.bin .Mult (.tup (.cons (.tup (.cons (.num 2) (.cons (.num 2) .nil))) .nil)) (.num 4)) (.cons (.tup (.cons (.num 0) (.cons (.num 1) (.cons (.num 2) (.cons (.num 3) .nil))))) .nil))) (.cons (.cal "hours_by" (.cons (.bin .Mult (.tup (.cons (.tup (.cons (.num 2) (.cons (.num 2) .nil))) .nil)) (.num 4)) (.cons (.tup (.cons (.num 3) (.cons (.num 2) (.cons (.num 1) (.cons (.num 0) .nil))))) .nil))) .nil))))
def tF : S := .set 6 (.bin .Add (.var 6) (.lst (.cons (.cal "least_by_order" (.cons (.tup (.cons (.tup (.cons (.num 5) (.cons (.num 3) .nil))) (.cons (.tup (.cons (.num 5) (.cons (.num 2) .nil))) (.cons (.tup (.cons (.num 5) (.cons (.num 1) .nil))) .nil)))) .nil)) (.cons (.cal "hours_by" (.cons (.tup (.cons (.tup (.cons (.num 0) (.cons (.num 9) .nil))) (.cons (.tup (.cons (.num 1) (.cons (.num 1) .nil))) (.cons (.tup (.cons (.num 1) (.cons (.num 1) .nil))) .nil)))) (.cons (.tup (.cons (.num 0) (.cons (.num 1) (.cons (.num 2) .nil)))) .nil))) .nil))))
def tG : S := .set 6 (.bin .Add (.var 6) (.lst (.cons (.cal "least_by_order" (.cons (.bin .Mult (.tup (.cons (.tup (.cons (.num 1000) (.cons (.num 1000) .nil))) .nil)) (.num 10)) .nil)) .nil)))
def kB : S := .ife (.not (.cal "_law_like" (.cons (.var 6) (.cons (.lst (.cons (.num 27) (.cons (.tup (.cons (.num 0) (.cons (.num 1) (.cons (.num 2) (.cons (.num 3) .nil))))) (.cons (.num 10) (.cons (.num 16) (.cons (.num 11) (.cons (.num 11000) .nil))))))) .nil)))) (.cons (.ret (.bl false))  .nil) .nil
def bodyR : S := .cons (.ife (.not (.cal "_law_right" (.cons (.var 1) (.cons (.var 5) .nil)))) (.cons (.ret (.bl false)) .nil) .nil) .nil
def forR : S := .for (.nm 5) (.itr (.tup (.cons (.var 7) (.cons (.bin .Mult (.tup (.cons (.tup (.cons (.num 2) (.cons (.num 2) .nil))) .nil)) (.num 4)) (.cons (.tup (.cons (.tup (.cons (.num 5) (.cons (.num 3) .nil))) (.cons (.tup (.cons (.num 5) (.cons (.num 2) .nil))) (.cons (.tup (.cons (.num 5) (.cons (.num 1) .nil))) .nil)))) (.cons (.tup (.cons (.tup (.cons (.num 0) (.cons (.num 9) .nil))) (.cons (.tup (.cons (.num 1) (.cons (.num 1) .nil))) (.cons (.tup (.cons (.num 1) (.cons (.num 1) .nil))) .nil)))) (.cons (.tup (.cons (.tup (.cons (.num 0) (.cons (.num 0) .nil))) (.cons (.tup (.cons (.num 0) (.cons (.num 0) .nil))) .nil))) (.cons (.tup (.cons (.tup (.cons (.num 9) (.cons (.num 0) .nil))) (.cons (.tup (.cons (.num 0) (.cons (.num 9) .nil))) .nil))) .nil)))))))) bodyR
def greatS : S := .set 8 (.bif .tuple (.cons (.cmpn [("body", 9)] (.nm 9) (.rng1 (.num 10)) .nop (drawC (.num 1001))) .nil))
theorem c_law_eq : c_law = .cons (.set 1 (.cal "_law_cup" (.cons (.var 0) .nil))) (.cons (.for (.nm 2) (.rng1 (.num 6)) bodyT) (.cons tA (.cons tB (.cons tC (.cons tD (.cons kA (.cons fv (.cons tE (.cons tF (.cons tG (.cons kB (.cons forR (.cons greatS (.cons (.ret (.and (.cal "_law_right" (.cons (.var 1) (.cons (.var 8) .nil))) (.one (.cal0 "_law_errors")))) .nil)))))))))))))) := by rfl
theorem right_loop (s x2 x3 x4 x6 x7 : Option D) : ∀ (bss : List (List J)), (∀ bs ∈ bss, Good bs) → ∀ (x5 : Option D) (x y : Int) (r : Mem),
    ∃ x5' x' y' r', forL (forT (gAt M 0 40) (.nm 5) bodyR) (bss.map bsD) [s, some (.cel 0), x2, x3, x4, x5, x6, x7, none, none] (cupM x y r) = .ok (.nx [s, some (.cel 0), x2, x3, x4, x5', x6, x7, none, none]) (cupM x' y' r')
  | [], _, x5, x, y, r => ⟨x5, x, y, r, rfl⟩
  | bs :: bss, h, x5, x, y, r => by
    obtain ⟨x1, y1, r1, e1⟩ := r_right 32 (h bs List.mem_cons_self) x y r
    obtain ⟨x5', x', y', r', ih⟩ := right_loop s x2 x3 x4 x6 x7 bss (fun b hb => h b (List.mem_cons_of_mem _ hb)) (some (bsD bs)) x1 y1 r1
    refine ⟨x5', x', y', r', ?_⟩
    have e : forT (gAt M 0 40) (.nm 5) bodyR (bsD bs) [s, some (.cel 0), x2, x3, x4, x5, x6, x7, none, none] (cupM x y r) = .ok (.nx [s, some (.cel 0), x2, x3, x4, some (bsD bs), x6, x7, none, none]) (cupM x1 y1 r1) := by
      rw [forT_nm]
      clear ih h
      generalize bsD bs = B at *
      unfold bodyR
      walk_at "go"
    simp only [List.map_cons, forL, e, bind_ok, ih]
section
variable (s x2 x3 x4 x5 : Option D) (μ : Mem)
def L1 : D := .lst [.int 9, .int 7]
def L2' : D := .lst [.int 9, .int 7, .int 7, .tup [.int 1, .int 0]]
def L3 : D := .lst [.int 9, .int 7, .int 7, .tup [.int 1, .int 0], .bl false, .tup [.int 0]]
def L4 : D := .lst [.int 9, .int 7, .int 7, .tup [.int 1, .int 0], .bl false, .tup [.int 0], .tup [.int 0]]
def L5 : D := .lst [.int 9, .int 7, .int 7, .tup [.int 1, .int 0], .bl false, .tup [.int 0], .tup [.int 0], .int 0]
def K1 : D := .lst [.int 27, .tup [.int 0, .int 1, .int 2, .int 3], .int 10]
def K2 : D := .lst [.int 27, .tup [.int 0, .int 1, .int 2, .int 3], .int 10, .int 16, .int 11]
def K3 : D := .lst [.int 27, .tup [.int 0, .int 1, .int 2, .int 3], .int 10, .int 16, .int 11, .int 11000]
theorem s_A (x6 : Option D) : evS (gAt M 0 40) tA [s, some (.cel 0), x2, x3, x4, x5, x6, none, none, none] μ = .ok (.nx [s, some (.cel 0), x2, x3, x4, x5, some L1, none, none, none]) μ := by
  have k1 := h1 μ
  have k2 := h2 μ
  simp only [B1, pr] at k1 k2
  unfold tA L1
  walk_at "go"
theorem s_B : evS (gAt M 0 40) tB [s, some (.cel 0), x2, x3, x4, x5, some L1, none, none, none] μ = .ok (.nx [s, some (.cel 0), x2, x3, x4, x5, some L2', none, none, none]) μ := by
  have k1 := h3 μ
  have k2 := h4 μ
  have k3 : ∀ a b c d : D, binD .Add (.lst [a, b]) (.lst [c, d]) μ = .ok (.lst [a, b, c, d]) μ := fun _ _ _ _ => rfl
  simp only [B1, pr] at k1 k2
  unfold tB L1 L2'
  walk_at "go"
theorem s_C : evS (gAt M 0 40) tC [s, some (.cel 0), x2, x3, x4, x5, some L2', none, none, none] μ = .ok (.nx [s, some (.cel 0), x2, x3, x4, x5, some L3, none, none, none]) (μ ++ [none]) := by
  have k1 := h5 μ
  have k2 := h6 μ
  have k3 : ∀ a b c d e f : D, binD .Add (.lst [a, b, c, d]) (.lst [e, f]) (μ ++ [none]) = .ok (.lst [a, b, c, d, e, f]) (μ ++ [none]) := fun _ _ _ _ _ _ => rfl
  simp only [B1, pr] at k1 k2
  unfold tC L2' L3
  walk_at "go"
theorem s_D : evS (gAt M 0 40) tD [s, some (.cel 0), x2, x3, x4, x5, some L3, none, none, none] μ = .ok (.nx [s, some (.cel 0), x2, x3, x4, x5, some L4, none, none, none]) (μ ++ [none]) := by
  have k2 := h7 μ
  have k3 : ∀ a b c d e f g : D, binD .Add (.lst [a, b, c, d, e, f]) (.lst [g]) (μ ++ [none]) = .ok (.lst [a, b, c, d, e, f, g]) (μ ++ [none]) := fun _ _ _ _ _ _ _ => rfl
  simp only [B1, pr] at k2
  unfold tD L3 L4
  walk_at "go"
theorem s_kA : evS (gAt M 0 40) kA [s, some (.cel 0), x2, x3, x4, x5, some L4, none, none, none] μ = .ok (.nx [s, some (.cel 0), x2, x3, x4, x5, some L4, none, none, none]) μ := by
  have k1 := h8 μ
  have k3 : ∀ a b c d e f g h : D, binD .Add (.lst [a, b, c, d, e, f, g]) (.lst [h]) μ = .ok (.lst [a, b, c, d, e, f, g, h]) μ := fun _ _ _ _ _ _ _ _ => rfl
  have k4 : run M 0 40 "_law_like" [L5, L5] μ = .ok (.bl true) μ := r_like (W := 0) at_like at_sort 36 μ 2 L5 (by decide +kernel)
  simp only [B0, pr, L5] at k1 k4
  unfold kA L4
  walk_at "go"
theorem s_fv : evS (gAt M 0 40) fv [s, some (.cel 0), x2, x3, x4, x5, some L4, none, none, none] μ = .ok (.nx [s, some (.cel 0), x2, x3, x4, x5, some L4, some F5, none, none]) μ := by
  unfold fv F5 pr
  generalize L4 = L at *
  walk_at "go"
theorem s_E : evS (gAt M 0 40) tE [s, some (.cel 0), x2, x3, x4, x5, some L4, some F5, none, none] μ = .ok (.nx [s, some (.cel 0), x2, x3, x4, x5, some K1, some F5, none, none]) (μ ++ [none]) := by
  have k1 := g1 μ
  have k2 := g2 μ
  have k3 := g3 (μ ++ [none])
  have k4 : ∀ ν : Mem, binD .Mult (.tup [.tup [.int 2, .int 2]]) (.int 4) ν = .ok T4 ν := fun ν => rfl
  generalize L4 = L at *
  generalize F5 = F at *
  generalize T4 = T at *
  unfold tE K1
  walk_at "go"
theorem s_F : evS (gAt M 0 40) tF [s, some (.cel 0), x2, x3, x4, x5, some K1, some F5, none, none] μ = .ok (.nx [s, some (.cel 0), x2, x3, x4, x5, some K2, some F5, none, none]) μ := by
  have k1 := g4 μ
  have k2 := g5 μ
  have k3 : ∀ a b c d e : D, binD .Add (.lst [a, b, c]) (.lst [d, e]) μ = .ok (.lst [a, b, c, d, e]) μ := fun _ _ _ _ _ => rfl
  simp only [T3, N3, pr] at k1 k2
  generalize F5 = F at *
  unfold tF K1 K2
  walk_at "go"
theorem s_G : evS (gAt M 0 40) tG [s, some (.cel 0), x2, x3, x4, x5, some K2, some F5, none, none] μ = .ok (.nx [s, some (.cel 0), x2, x3, x4, x5, some K3, some F5, none, none]) μ := by
  have k1 := g6 μ
  have k2 : binD .Mult (.tup [.tup [.int 1000, .int 1000]]) (.int 10) μ = .ok G10 μ := by kernel_rfl
  have k3 : ∀ a b c d e f : D, binD .Add (.lst [a, b, c, d, e]) (.lst [f]) μ = .ok (.lst [a, b, c, d, e, f]) μ := fun _ _ _ _ _ _ => rfl
  generalize F5 = F at *
  generalize G10 = G at *
  unfold tG K2 K3
  walk_at "go"
theorem s_kB : evS (gAt M 0 40) kB [s, some (.cel 0), x2, x3, x4, x5, some K3, some F5, none, none] μ = .ok (.nx [s, some (.cel 0), x2, x3, x4, x5, some K3, some F5, none, none]) μ := by
  have k4 : run M 0 40 "_law_like" [K3, K3] μ = .ok (.bl true) μ := r_like (W := 0) at_like at_sort 36 μ 2 K3 (by decide +kernel)
  generalize F5 = F at *
  unfold kB
  simp only [K3] at k4 ⊢
  walk_at "go"
end
theorem s_forR (s x2 x3 x4 x5 x6 : Option D) (x y : Int) (r : Mem) : ∃ x5' x' y' r', evS (gAt M 0 40) forR [s, some (.cel 0), x2, x3, x4, x5, x6, some F5, none, none] (cupM x y r) = .ok (.nx [s, some (.cel 0), x2, x3, x4, x5', x6, some F5, none, none]) (cupM x' y' r') := by
  obtain ⟨x5', x', y', r', e⟩ := right_loop s x2 x3 x4 x6 (some F5) [f5, t4, t3, n3, z2, d2] (fun bs h => by
    simp only [List.mem_cons, List.not_mem_nil, or_false] at h
    rcases h with rfl | rfl | rfl | rfl | rfl | rfl
    · exact gf5
    · exact gt4
    · exact gt3
    · exact gn3
    · exact gz2
    · exact gd2) x5 x y r
  refine ⟨x5', x', y', r', ?_⟩
  have k1 : ∀ ν : Mem, binD .Mult (.tup [.tup [.int 2, .int 2]]) (.int 4) ν = .ok T4 ν := fun ν => rfl
  have e' : forL (forT (gAt M 0 40) (.nm 5) bodyR) [F5, T4, .tup [.tup [.int 5, .int 3], .tup [.int 5, .int 2], .tup [.int 5, .int 1]], .tup [.tup [.int 0, .int 9], .tup [.int 1, .int 1], .tup [.int 1, .int 1]], .tup [.tup [.int 0, .int 0], .tup [.int 0, .int 0]], .tup [.tup [.int 9, .int 0], .tup [.int 0, .int 9]]] [s, some (.cel 0), x2, x3, x4, x5, x6, some F5, none, none] (cupM x y r) = .ok (.nx [s, some (.cel 0), x2, x3, x4, x5', x6, some F5, none, none]) (cupM x' y' r') := e
  have k2 := fun zs => @w_tup zs
  clear e
  generalize F5 = F at *
  generalize T4 = T at *
  unfold forR
  generalize bodyR = BR at *
  walk_at "go"
theorem plain (ns : List Int) (hl : ns.length ≤ 63) (hb : ∀ z ∈ ns, Builtin.Int.intBits z ≤ 1048576) : ∃ μ', run M 0 (40 + 1) "law" [.fls (ns.map .int)] [] = .ok (.bl true) μ' := by
  have hat : M.at_ "law" = some t_law.fn := by rfl
  simp only [t_law, c_law_eq] at hat
  obtain ⟨x, y, e1⟩ := r_lawcup (W := 0) at_cup (by decide) 39 ns hl
  obtain ⟨x2, x3, x4, x5, xa, ya, ra, e2⟩ := turns_loop (some (.fls (ns.map .int))) x y []
  generalize D.fls (ns.map .int) = SC at *
  have eA := s_A (some SC) x2 x3 x4 x5 (cupM xa ya ra) none
  have eB := s_B (some SC) x2 x3 x4 x5 (cupM xa ya ra)
  have eC := s_C (some SC) x2 x3 x4 x5 (cupM xa ya ra)
  rw [cupM_app] at eC
  have eD := s_D (some SC) x2 x3 x4 x5 (cupM xa ya (ra ++ [none]))
  rw [cupM_app] at eD
  have ekA := s_kA (some SC) x2 x3 x4 x5 (cupM xa ya (ra ++ [none] ++ [none]))
  have efv := s_fv (some SC) x2 x3 x4 x5 (cupM xa ya (ra ++ [none] ++ [none]))
  have eE := s_E (some SC) x2 x3 x4 x5 (cupM xa ya (ra ++ [none] ++ [none]))
  rw [cupM_app] at eE
  have eF := s_F (some SC) x2 x3 x4 x5 (cupM xa ya (ra ++ [none] ++ [none] ++ [none]))
  have eG := s_G (some SC) x2 x3 x4 x5 (cupM xa ya (ra ++ [none] ++ [none] ++ [none]))
  have ekB := s_kB (some SC) x2 x3 x4 x5 (cupM xa ya (ra ++ [none] ++ [none] ++ [none]))
  obtain ⟨x5', xb, yb, rb, eR⟩ := s_forR (some SC) x2 x3 x4 x5 (some K3) xa ya (ra ++ [none] ++ [none] ++ [none])
  obtain ⟨bs, xc, yc, q1, q2, e5⟩ := draws (.num 1001) (m := 1001) (by omega) (by omega) (ρ := [some SC, some (.cel 0), x2, x3, x4, x5', some K3, some F5, none, none]) (fun d => rfl) (fun d μ => by rw [ev_num]) (n := 10) (by omega) xb yb rb
  have g : Good bs := ⟨by omega, by omega, q2⟩
  obtain ⟨xd, yd, rd, e6⟩ := r_right 32 g xc yc rb
  obtain ⟨μ', e7⟩ := r_errors xd yd rd
  refine ⟨μ', ?_⟩
  have e8 : bifD .tuple [.lst (bs.map pD)] (cupM xc yc rb) = .ok (bsD bs) (cupM xc yc rb) := rfl
  have e9 : rngOk 6 = true := by decide
  have ea : rngOk 10 = true := by decide
  have e5 : compL (turnT (gAt M 0 40) (.nm 9) .nop (drawC (.num 1001)) [some SC, some (.cel 0), x2, x3, x4, x5', some K3, some F5, none, none]) (rngL 0 10) [] (cupM xb yb rb) = .ok (bs.map pD) (cupM xc yc rb) := e5
  clear hl hb g q1 q2
  generalize bsD bs = B at *
  generalize bs.map pD = BL at *
  unfold greatS at hat
  generalize ra ++ [none] ++ [none] ++ [none] = r3 at *
  generalize ra ++ [none] ++ [none] = r2 at *
  generalize ra ++ [none] = r1 at *
  generalize L1 = T1 at *
  generalize L2' = T2 at *
  generalize L3 = T3 at *
  generalize L4 = T4 at *
  generalize K1 = T5 at *
  generalize K2 = T6 at *
  generalize K3 = T7 at *
  generalize F5 = T8 at *
  generalize drawC (.num 1001) = DC at *
  generalize bodyT = u0 at *
  generalize tA = u1 at *
  generalize tB = u2 at *
  generalize tC = u3 at *
  generalize tD = u4 at *
  generalize kA = u5 at *
  generalize fv = u6 at *
  generalize tE = u7 at *
  generalize tF = u8 at *
  generalize tG = u9 at *
  generalize kB = ua at *
  generalize forR = ub at *
  walk_at "run"
end Law_k64

namespace Law_k64
open PySem PySem.Spec PyProof.Rows L2 Den
abbrev R0 : PySem.W.OpenRow := PySem.W.OpenLaw.row PySem.Challenge.rw_benchbound_k64_whole_orders_at_benches
abbrev hk : PySem.W.Hook := hookOf 4 Γ M tab hts
def ob (s : PySem.W.SharedT) : He.AlX := He.obsX 4 (fasOf Γ) (fnsOf tab hts) [] tfOf (moreB Γ M) (HandSHeadRun.getT s)
theorem ob_eq (s : PySem.W.SharedT) : ob s = hk.obs s.abs := He.obsX_eq (HandSHeadRun.getT_eq s)
def loose : List Str := [("__name__" : Str), ("BenchError" : Str), ("InvalidNumber" : Str), ("InvalidRow" : Str), ("InvalidHours" : Str), ("is_whole" : Str), ("need_whole" : Str), ("is_tuple_of" : Str), ("are_wholes" : Str), ("BODIES" : Str), ("HOURS" : Str), ("LAST" : Str), ("need_bodies" : Str), ("is_order_of" : Str), ("need_order" : Str), ("hours_in" : Str), ("best_in" : Str), ("hours_by" : Str), ("least_by_order" : Str), ("best_order" : Str), ("is_order" : Str), ("turning_places" : Str), ("_law_cup" : Str), ("_law_roll" : Str), ("_law_some" : Str), ("_law_sort" : Str), ("_law_like" : Str), ("_law_fails" : Str), ("_law_sums" : Str), ("_law_hours" : Str), ("_law_is_order" : Str), ("_law_rows" : Str), ("_law_by_rule" : Str), ("_law_mixed" : Str), ("_law_right" : Str), ("_law_errors" : Str)]
theorem run_ok (w : World) : HandSHeadRun.RunEq R0 (PySem.W.view R0.prog [40]) hk ob 4000 loose w := by
  unfold HandSHeadRun.RunEq
  intro os
  kernel_rfl
end Law_k64

namespace Law_k64
open PySem PySem.Spec PyProof.Rows L2 Den
end Law_k64
open PySem PySem.W PyProof.Rows
set_option maxRecDepth 100000 in
set_option maxHeartbeats 8000000 in
theorem PySem.Challenge.cw_benchbound_k64_whole_orders_at_benches_holds : PySem.Challenge.rw_benchbound_k64_whole_orders_at_benches.Holds := by
  w_on; o_law
  refine HandSHeadRun.head_any (r := Law_k64.R0) (q := view Law_k64.R0.prog [40]) (H := Law_k64.hk) (ob := Law_k64.ob) (M := 4000) (loose := Law_k64.loose) (d := HandSHeadRun.topDef Law_k64.R0.prog 40) (kwd := []) Law_k64.ob_eq (by kernel_rfl) (fun s => by kernel_rfl) Law_k64.run_ok (by kernel_rfl) (by kernel_rfl) (by kernel_rfl) (by rfl) (by first | assumption | decide +kernel) (by decide +kernel) ⟨rfl, rfl, rfl, rfl, rfl, by decide +kernel⟩ ?hw ?hc
  case hw => w_witness2
  case hc =>
    refine LamX.walk_ofTsE (l := PySem.Challenge.rw_benchbound_k64_whole_orders_at_benches) (n := 63) (k := 40 + 1) (x := "script") (CX := fun w => L2N.CX (PySem.Challenge.rw_benchbound_k64_whole_orders_at_benches).prog w) rfl (by decide) (by kernel_rfl) ⟨rfl, by decide, by decide⟩ ?F (fun w H s e s' h => ?_)
    · intro w mg fa h Y G hmg0
      obtain ⟨K, KX, c⟩ := Y
      have hmg : mg ("law" : PySem.Str) = some (.ref fa) := by
        have e : (HandSHeadRun.topDef Law_k64.R0.prog 40).name = ("law" : PySem.Str) := by kernel_rfl
        rw [← e]
        exact hmg0
      exact ⟨K, KX, Den.law_at (W := 0) Law_k64.text KX G c hmg (tl := Law_k64.t_law) (by simp [Law_k64.tab]) rfl rfl rfl rfl (by decide +kernel) Law_k64.plain⟩
    · obtain ⟨a, B, H', cls, d, _, _, _, _, _, _, _, z⟩ := h
      exact z
