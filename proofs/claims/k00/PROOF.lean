import PyProof.Rows.All
import Wide.All
import OpenK.AllK
import Wide.FinOn
import HandS.ForMost
import HandS.ForExc
import HandS.IsInst
import HandS.TupAny
import HandS.Wide
import HandS.Walk
import HandS.Gcd
import HandS.Zip
import HandS.CallSlots
import HandS.Defaults
import HandS.Text
import HandS.CallLocal
import HandS.HotCalls
import HandS.ExcCtx
import HandS.ExcIs
import HandS.Lambda
import HandS.HeadHook4
import HandS.HeadWalk
import HandS.Head2
import HandS.Style
import HandS.Flow
import HandS.Head3
import PySem.Challenge.RW_benchbound_k00_whole_portions
set_option Elab.async false
set_option linter.all false
set_option maxRecDepth 100000
set_option maxHeartbeats 0
/-! Den1: plain data, plain code, what the code gives: an interpreter of a part of Python over plain data. -/
namespace Den
open PySem PySem.Spec PyProof.Rows L2

/-- data without addresses; exc: the exception that is handled; cel n: the n-th thing that may still be changed; glo x: the def or class that the module calls x; fls: the script -/
inductive D where
  | non | bl (b : Bool) | int (i : Int) | str (x : Str)
  | tup (xs : List D) | lst (xs : List D) | fls (xs : List D)
  | glo (x : Str) | cel (n : Nat) | exc
instance : Inhabited D := ⟨.non⟩
/-- a thing that may be changed -/
inductive Cell where
  | lst (xs : List D)
abbrev Mem := List (Option Cell)
/-- an exception: its class's name, its own attributes -/
structure Exn where
  cls : Str
  flds : List (Str × D)
inductive R (α : Type) where
  | ok (a : α) (m : Mem)
  | er (x : Exn) (m : Mem)
  | no
@[inline] def R.bind {α β : Type} (r : R α) (f : α → Mem → R β) : R β := match r with
  | .ok a m => f a m
  | .er x m => .er x m
  | .no => .no
/-- where nothing may be raised -/
@[inline] def R.calm {α : Type} (r : R α) : R α := match r with
  | .ok a m => .ok a m
  | _ => .no
abbrev DEnv := List (Option D)
/-- targets -/
inductive T where
  | nm (i : Nat) | nil | cons (a r : T)
inductive Ty where
  | int | bool | str | tuple | list
  deriving DecidableEq
def Ty.name : Ty → String
  | .int => "int" | .bool => "bool" | .str => "str" | .tuple => "tuple" | .list => "list"
/-- built-ins called by name -/
inductive Bf where
  | len | abs | int | list | tuple | sum | all | any | gcd | max2 | min2
  deriving DecidableEq
/-- expressions, their lists, what is walked -/
inductive C where
  | var (i : Nat) | num (i : Int) | txt (x : Str) | bl (b : Bool) | non
  | glo (x : Str) | con (x : Str)
  | bin (op : Operator) (a b : C) | neg (a : C) | not (a : C)
  | and (a b : C) | or (a b : C) | one (a : C)
  | cmp (op : CmpOp) (a b : C) | chn (op op' : CmpOp) (a b c : C)
  | ite (t a b : C)
  | cal (f : Str) (as : C) | cav (i : Nat) (fs : List Str) (as : C) | bif (b : Bf) (as : C) | isi (a : C) (t : Ty)
  | tup (as : C) | lst (as : C) | cel (as : C) | nil | cons (a as : C)
  | idx (a b : C) | sli (a lo hi : C) | nop
  | cmpn (own : List (Str × Nat)) (tg : T) (it cnd elt : C)
  | cmpl (own : List (Str × Nat)) (tg : T) (a cnd elt : C)
  | err (f : Str) (b : C)
  | isx (i : Nat) (x : Str) | joi (a b : C)
  | rng1 (a : C) | rng2 (a b : C) | itr (a : C) | itl (a : C) | zip (a b : C) | enm (a : C)
/-- statements -/
inductive S where
  | pass | nil | cons (a r : S)
  | set (i : Nat) (e : C) | tgt (tg : T) (e : C) | par (i j : Nat) (a b : C) | par3 (i j l : Nat) (a b c : C)
  | ife (t : C) (a b : S) | for (tg : T) (it : C) (b : S) | whl (t : C) (b : S)
  | ret (e : C) | retn | exp (e : C) | brk | cnt
  | rai (x : Str)
  | app (o e : C) | sub (o i e : C)
  | frz (i : Nat)

/-! ### plain operations -/
mutual
def D.py : D → Option PyData
  | .non => some .none
  | .bl b => some (.bool b)
  | .int i => some (.int i)
  | .str x => some (.str x)
  | .tup xs => (pys xs).map .tuple
  | .lst xs => (pys xs).map .list
  | .fls _ => none
  | .glo _ => none
  | .cel _ => none
  | .exc => none
def pys : List D → Option (List PyData)
  | [] => some []
  | d :: ds => match d.py, pys ds with
    | some a, some b => some (a :: b)
    | _, _ => none
end
/-- the same, a changeable thing looked up once at the top -/
def pyM (μ : Mem) : D → Option PyData
  | .cel n => match μ[n]? with
    | some (some (.lst xs)) => (pys xs).map .list
    | _ => none
  | d => d.py
def mulOk (i j : Int) : Bool := decide (i.natAbs.log2 + j.natAbs.log2 < 1000000) || (decide (-(2 ^ 64) < i) && decide (i < 2 ^ 64)) || (decide (-(2 ^ 64) < j) && decide (j < 2 ^ 64))
def fits (n : Nat) : Bool := decide (n ≤ 16777216)
/-- a list to be read: a finished one, or one that may still be changed -/
def asLst (μ : Mem) : D → Option (List D)
  | .lst xs => some xs
  | .cel n => match μ[n]? with
    | some (some (.lst xs)) => some xs
    | _ => none
  | _ => none
def binD (op : Operator) (x y : D) (μ : Mem) : R D := match op, x, y with
  | .Add, .int i, .int j => .ok (.int (i + j)) μ
  | .Sub, .int i, .int j => .ok (.int (i - j)) μ
  | .Mult, .int i, .int j => if mulOk i j then .ok (.int (i * j)) μ else .no
  | .FloorDiv, .int i, .int j => if decide (j ≠ 0) && decide (j.natAbs.log2 < 9000) then .ok (.int (i.fdiv j)) μ else .no
  | .Mod, .int i, .int j => if j ≠ 0 then .ok (.int (i.fmod j)) μ else .no
  | .Pow, .int i, .int j => if decide (0 ≤ j) && decide (j ≤ 1000000) && decide (i.natAbs < 2 ^ 64) then .ok (.int (i ^ j.toNat)) μ else .no
  | .Add, .str a, .str b => if fits (a.length + b.length) then .ok (.str (a ++ b)) μ else .no
  | .Add, .tup a, .tup b => if fits (a.length + b.length) then .ok (.tup (a ++ b)) μ else .no
  | .Add, a, b => match asLst μ a, asLst μ b with
    | some xs, some ys => if fits (xs.length + ys.length) then .ok (.lst (xs ++ ys)) μ else .no
    | _, _ => .no
  | .Mult, a, .int k => match asLst μ a with
    | some xs => if decide (-(2 ^ 63) ≤ k) && decide (k < 2 ^ 63) && fits (xs.length * k.toNat) then .ok (.lst (List.replicate k.toNat xs).flatten) μ else .no
    | none => .no
  | _, _, _ => .no
def flat : D → Bool
  | .non => true
  | .bl _ => true
  | .int _ => true
  | .str _ => true
  | _ => false
def eqF : D → D → Bool
  | .non, .non => true
  | .bl a, .bl b => a == b
  | .bl a, .int b => (if a then 1 else 0) == b
  | .int a, .bl b => a == (if b then 1 else 0)
  | .int a, .int b => a == b
  | .str a, .str b => a == b
  | _, _ => false
/-- the items of a list or a tuple -/
def asSeq (μ : Mem) : D → Option (List D)
  | .tup xs => some xs
  | d => asLst μ d
def eqD (μ : Mem) (x y : D) : Option Bool := match pyM μ x, pyM μ y with
  | some d, some e => if SeqAt.shaped d && SeqAt.shaped e then some (PyData.eqv d e) else none
  | _, _ => none
def inD (μ : Mem) (x y : D) : Option Bool := match y with
  | .str b => match x with
    | .str a => some (!(Builtin.Str.occurrences b a 0 b.length 1).isEmpty)
    | _ => none
  | y => match asSeq μ y with
    | some ys => if flat x && ys.all flat then some (ys.any fun z => eqF z x) else none
    | none => none
def isNon : D → Option Bool
  | .non => some true
  | _ => some false
def isD (x y : D) : Option Bool := match y with
  | .non => match x with
    | .non => some true
    | _ => some false
  | .bl b => match x with
    | .bl a => some (decide (a = b))
    | _ => none
  | _ => none
def intsOf : List D → Option (List Int)
  | [] => some []
  | .int i :: r => (intsOf r).map (i :: ·)
  | _ :: _ => none
def lexLt : List Int → List Int → Bool := HT.lexLt
def cmpB (op : CmpOp) (x y : D) (μ : Mem) : Option Bool := match op with
  | .Eq => eqD μ x y
  | .NotEq => (eqD μ x y).map (!·)
  | .In => inD μ x y
  | .NotIn => (inD μ x y).map (!·)
  | .Is => isD x y
  | .IsNot => (isD x y).map (!·)
  | .Lt => match x, y with
    | .int i, .int j => some (decide (i < j))
    | .tup a, .tup b => match intsOf a, intsOf b with
      | some a, some b => some (lexLt a b)
      | _, _ => none
    | _, _ => none
  | .LtE => match x, y with
    | .int i, .int j => some (decide (i ≤ j))
    | _, _ => none
  | .Gt => match x, y with
    | .int i, .int j => some (decide (j < i))
    | _, _ => none
  | .GtE => match x, y with
    | .int i, .int j => some (decide (j ≤ i))
    | _, _ => none
def cmpD (op : CmpOp) (x y : D) (μ : Mem) : R Bool := match cmpB op x y μ with
  | some b => .ok b μ
  | none => .no
def truB (μ : Mem) : D → Option Bool
  | .non => some false
  | .bl b => some b
  | .int i => some (i != 0)
  | .str x => if fits x.length then some ((x.length : Int) != 0) else none
  | .tup xs => some (!xs.isEmpty)
  | .lst xs => some (!xs.isEmpty)
  | .cel n => match μ[n]? with
    | some (some (.lst xs)) => some (!xs.isEmpty)
    | _ => none
  | _ => none
def tru (d : D) (μ : Mem) : R Bool := match truB μ d with
  | some b => .ok b μ
  | none => .no
def isTy (t : Ty) : D → Option Bool
  | .non => some false
  | .bl _ => some (decide (t = .bool) || decide (t = .int))
  | .int _ => some (decide (t = .int))
  | .str _ => some (decide (t = .str))
  | .tup _ => some (decide (t = .tuple))
  | .lst _ => some (decide (t = .list))
  | .fls _ => some (decide (t = .list))
  | .cel _ => none
  | .glo _ => none
  | .exc => none
def blsOf : List D → Option (List Bool)
  | [] => some []
  | .bl b :: r => (blsOf r).map (b :: ·)
  | _ :: _ => none
def bifD (b : Bf) (vs : List D) (μ : Mem) : R D := match b, vs with
  | .len, [.str x] => if fits x.length then .ok (.int x.length) μ else .no
  | .len, [d] => match asSeq μ d with
    | some xs => .ok (.int xs.length) μ
    | none => .no
  | .abs, [.int i] => .ok (.int (if i < 0 then -i else i)) μ
  | .int, [.int i] => .ok (.int i) μ
  | .int, [.bl b] => .ok (.int (if b then 1 else 0)) μ
  | .list, [.fls xs] => .ok (.lst xs) μ
  | .list, [d] => match asSeq μ d with
    | some xs => .ok (.lst xs) μ
    | none => .no
  | .tuple, [d] => match asSeq μ d with
    | some xs => .ok (.tup xs) μ
    | none => .no
  | .sum, [d] => match asLst μ d with
    | some xs => match intsOf xs with
      | some ns => .ok (.int ns.sum) μ
      | none => .no
    | none => .no
  | .all, [d] => match asLst μ d with
    | some xs => match blsOf xs with
      | some bs => .ok (.bl (bs.all id)) μ
      | none => .no
    | none => .no
  | .any, [d] => match asLst μ d with
    | some xs => match blsOf xs with
      | some bs => .ok (.bl (bs.any id)) μ
      | none => .no
    | none => .no
  | .gcd, [.int a, .int b] => .ok (.int ((Nat.gcd a.natAbs b.natAbs : Nat) : Int)) μ
  | .max2, [.int i, .int j] => .ok (.int (if j > i then j else i)) μ
  | .min2, [.int i, .int j] => .ok (.int (if j < i then j else i)) μ
  | _, _ => .no
def idxD (x y : D) (μ : Mem) : R D := match x, y with
  | .str z, .int i => if fits z.length then (match atI z.cps.toList i with
    | some c => .ok (.str ⟨#[c]⟩) μ
    | none => .no) else .no
  | x, .int i => match asSeq μ x with
    | some xs => match atI xs i with
      | some v => .ok v μ
      | none => .no
    | none => .no
  | _, _ => .no
def cutD (xs : List D) (lo hi : Option Int) : List D := (xs.drop (HT.sIx xs.length 0 lo)).take (HT.sIx xs.length xs.length hi - HT.sIx xs.length 0 lo)
def sliD (x : D) (lo hi : Option Int) (μ : Mem) : R D := match x with
  | .tup xs => .ok (.tup (cutD xs lo hi)) μ
  | .str z => if fits z.length then .ok (.str (cutS z lo hi)) μ else .no
  | x => match asLst μ x with
    | some xs => .ok (.lst (cutD xs lo hi)) μ
    | none => .no
/-! ### targets -/
def asg : T → D → DEnv → Option DEnv
  | .nm i, d, ρ => some (ρ.set i (some d))
  | .nil, .tup [], ρ => some ρ
  | .cons a r, .tup (d :: ds), ρ => (asg a d ρ).bind fun ρ' => asg r (.tup ds) ρ'
  | _, _, _ => none
def wipeD (ρ : DEnv) : List Nat → DEnv
  | [] => ρ
  | v :: vs => (wipeD ρ vs).set v none
/-- a comprehension's turns -/
def compL (turn : D → Mem → R (Option D)) : List D → List D → Mem → R (List D)
  | [], acc, μ => .ok acc μ
  | d :: ds, acc, μ => (turn d μ).calm.bind fun y μ' => match y with
    | some y => if decide (acc.length < 16777216) then compL turn ds (acc ++ [y]) μ' else .no
    | none => compL turn ds acc μ'
/-! ### the interpreter -/
structure G where
  cal : Str → List D → Mem → R D
  /-- calls from within a lambda that a def calls -/
  cal2 : Str → List D → Mem → R D
  dp : Bool
  con : Str → Option D
  /-- a def that calls what it gets and tells the end: of each end what it gives -/
  hnd : Str → Option Exn → Option D
  /-- the exception that is handled; is the one class the other's sub class? -/
  exn : Option Exn
  sub : Str → Str → Option Bool
  W : Nat
def G.low (g : G) : G := { g with cal := g.cal2, cal2 := fun _ _ _ => .no, dp := false }
def told (r : Option D) (μ : Mem) : R D := match r with
  | some d => if flat d then .ok d μ else .no
  | none => .no
def strsOf : List D → Option (List Str)
  | [] => some []
  | .str z :: r => (strsOf r).map (z :: ·)
  | _ :: _ => none
def joiD (a : Str) (y : D) (μ : Mem) : R D := match asSeq μ y with
  | some ys => match strsOf ys with
    | some zs => if decide ((zs.map (·.length)).sum + zs.length * a.length ≤ 16777216) then .ok (.str (Txt.join a zs)) μ else .no
    | none => .no
  | none => .no
def partD : D → Option (Option Int)
  | .non => some none
  | .int i => some (some i)
  | _ => none
def rngL (lo hi : Int) : List D := (List.range (hi - lo).toNat).map fun (i : Nat) => D.int (lo + i)
def rngOk (i : Int) : Bool := decide (-(2 ^ 62) ≤ i) && decide (i < 2 ^ 62)
def pairL (xs ys : List D) : List D := List.zipWith (fun a b => D.tup [a, b]) xs ys
def enumL (n : Nat) : List D → List D
  | [] => []
  | x :: xs => D.tup [.int (n : Int), x] :: enumL (n + 1) xs
def strL (z : Str) : List D := z.cps.toList.map fun c => D.str ⟨#[c]⟩
def walkD : D → Option (List D)
  | .str z => some (strL z)
  | .tup xs => some xs
  | .lst xs => some xs
  | _ => none
def evE : G → C → DEnv → Mem → R D
  | g, .var i, ρ, μ => match ρ[i]? with
    | some (some d) => .ok d μ
    | _ => .no
  | g, .num i, _, μ => .ok (.int i) μ
  | g, .txt x, _, μ => .ok (.str x) μ
  | g, .bl b, _, μ => .ok (.bl b) μ
  | g, .non, _, μ => .ok .non μ
  | g, .glo x, _, μ => .ok (.glo x) μ
  | g, .con x, _, μ => match g.con x with
    | some d => .ok d μ
    | none => .no
  | g, .bin op a b, ρ, μ => (evE g a ρ μ).bind fun x μ1 => (evE g b ρ μ1).bind fun y μ2 => binD op x y μ2
  | g, .neg a, ρ, μ => (evE g a ρ μ).bind fun x μ1 => match x with
    | .int i => .ok (.int (-i)) μ1
    | _ => .no
  | g, .not a, ρ, μ => (evE g a ρ μ).bind fun x μ1 => (tru x μ1).bind fun b μ2 => .ok (.bl (!b)) μ2
  | g, .one a, ρ, μ => evE g a ρ μ
  | g, .and a b, ρ, μ => (evE g a ρ μ).bind fun x μ1 => (tru x μ1).bind fun t μ2 => if t then evE g b ρ μ2 else .ok x μ2
  | g, .or a b, ρ, μ => (evE g a ρ μ).bind fun x μ1 => (tru x μ1).bind fun t μ2 => if t then .ok x μ2 else evE g b ρ μ2
  | g, .cmp op a b, ρ, μ => (evE g a ρ μ).bind fun x μ1 => (evE g b ρ μ1).bind fun y μ2 => (cmpD op x y μ2).bind fun t μ3 => .ok (.bl t) μ3
  | g, .chn op op' a b c, ρ, μ => (evE g a ρ μ).bind fun x μ1 => (evE g b ρ μ1).bind fun y μ2 => (cmpD op x y μ2).bind fun t μ3 =>
      if t then (evE g c ρ μ3).bind fun z μ4 => (cmpD op' y z μ4).bind fun t μ5 => .ok (.bl t) μ5 else .ok (.bl false) μ3
  | g, .ite t a b, ρ, μ => (evE g t ρ μ).bind fun x μ1 => (tru x μ1).bind fun t μ2 => if t then evE g a ρ μ2 else evE g b ρ μ2
  | g, .cal f as, ρ, μ => (evE g as ρ μ).bind fun x μ1 => match x with
    | .tup ds => g.cal f ds μ1
    | _ => .no
  | g, .cav i fs as, ρ, μ => match ρ[i]? with
    | some (some (.glo f)) => if fs.contains f then (evE g as ρ μ).bind fun x μ1 => match x with
      | .tup ds => g.cal f ds μ1
      | _ => .no
      else .no
    | _ => .no
  | g, .bif b as, ρ, μ => (evE g as ρ μ).bind fun x μ1 => match x with
    | .tup ds => bifD b ds μ1
    | _ => .no
  | g, .isi a t, ρ, μ => (evE g a ρ μ).bind fun x μ1 => match isTy t x with
    | some b => .ok (.bl b) μ1
    | none => .no
  | g, .nil, _, μ => .ok (.tup []) μ
  | g, .cons a as, ρ, μ => (evE g a ρ μ).bind fun x μ1 => (evE g as ρ μ1).bind fun y μ2 => match y with
    | .tup ds => .ok (.tup (x :: ds)) μ2
    | _ => .no
  | g, .tup as, ρ, μ => (evE g as ρ μ).bind fun x μ1 => match x with
    | .tup ds => if fits ds.length then .ok (.tup ds) μ1 else .no
    | _ => .no
  | g, .lst as, ρ, μ => (evE g as ρ μ).bind fun x μ1 => match x with
    | .tup ds => if fits ds.length then .ok (.lst ds) μ1 else .no
    | _ => .no
  | g, .cel as, ρ, μ => (evE g as ρ μ).bind fun x μ1 => match x with
    | .tup ds => if fits ds.length then .ok (.cel μ1.length) (μ1 ++ [some (.lst ds)]) else .no
    | _ => .no
  | g, .idx a b, ρ, μ => (evE g a ρ μ).bind fun x μ1 => (evE g b ρ μ1).bind fun y μ2 => idxD x y μ2
  | g, .sli a lo hi, ρ, μ => (evE g a ρ μ).bind fun x μ1 => (evE g lo ρ μ1).bind fun l μ2 => match partD l with
    | some l => (evE g hi ρ μ2).bind fun h μ3 => match partD h with
      | some h => sliD x l h μ3
      | none => .no
    | none => .no
  | g, .nop, _, μ => .ok .non μ
  | g, .cmpn own tg it cnd elt, ρ, μ => (evE g it ρ μ).bind fun x μ1 => match x with
    | .tup items => (compL (fun d μ => match asg tg d (wipeD ρ (own.map (·.2))) with
        | some ρ' => match cnd with
          | .nop => (evE g elt ρ' μ).bind fun y μ3 => .ok (some y) μ3
          | cnd => (evE g cnd ρ' μ).bind fun t μ1 => (tru t μ1).bind fun b μ2 => if b then (evE g elt ρ' μ2).bind fun y μ3 => .ok (some y) μ3 else .ok none μ2
        | none => .no) items [] μ1).bind fun ys μ2 => .ok (.lst ys) μ2
    | _ => .no
  | g, .cmpl own tg a cnd elt, ρ, μ => (evE g a ρ μ).bind fun x μ1 => match x with
    | .lst items => (compL (fun d μ => match asg tg d (wipeD ρ (own.map (·.2))) with
        | some ρ' => match cnd with
          | .nop => (evE g elt ρ' μ).bind fun y μ3 => .ok (some y) μ3
          | cnd => (evE g cnd ρ' μ).bind fun t μ1 => (tru t μ1).bind fun b μ2 => if b then (evE g elt ρ' μ2).bind fun y μ3 => .ok (some y) μ3 else .ok none μ2
        | none => .no) items [] μ1).bind fun ys μ2 => .ok (.lst ys) μ2
    | _ => .no
  | g, .err f b, ρ, μ => if g.dp then (match evE g.low b ρ μ with
    | .ok _ μ' => told (g.hnd f none) μ'
    | .er x μ' => told (g.hnd f (some x)) μ'
    | .no => .no) else .no
  | g, .isx i x, ρ, μ => match ρ[i]? with
    | some (some .exc) => match g.exn with
      | some e => match g.sub e.cls x with
        | some b => .ok (.bl b) μ
        | none => .no
      | none => .no
    | _ => .no
  | g, .joi a b, ρ, μ => (evE g a ρ μ).bind fun x μ1 => match x with
    | .str z => (evE g b ρ μ1).bind fun y μ2 => joiD z y μ2
    | _ => .no
  | g, .rng1 a, ρ, μ => (evE g a ρ μ).bind fun x μ1 => match x with
    | .int j => if rngOk j then .ok (.tup (rngL 0 j)) μ1 else .no
    | _ => .no
  | g, .rng2 a b, ρ, μ => (evE g a ρ μ).bind fun x μ1 => (evE g b ρ μ1).bind fun y μ2 => match x, y with
    | .int i, .int j => if rngOk i && rngOk j then .ok (.tup (rngL i j)) μ2 else .no
    | _, _ => .no
  | g, .itr a, ρ, μ => (evE g a ρ μ).bind fun x μ1 => match walkD x with
    | some xs => .ok (.tup xs) μ1
    | none => .no
  | g, .itl a, ρ, μ => (evE g a ρ μ).bind fun x μ1 => match x with
    | .lst xs => .ok (.tup xs) μ1
    | _ => .no
  | g, .zip a b, ρ, μ => (evE g a ρ μ).bind fun x μ1 => (evE g b ρ μ1).bind fun y μ2 => match x, y with
    | .tup xs, .tup ys => .ok (.tup (pairL xs ys)) μ2
    | .lst xs, .lst ys => .ok (.tup (pairL xs ys)) μ2
    | _, _ => .no
  | g, .enm a, ρ, μ => (evE g a ρ μ).bind fun x μ1 => match x with
    | .lst xs => .ok (.tup (enumL 0 xs)) μ1
    | _ => .no
/-- what a statement comes to -/
inductive Fl where
  | nx (ρ : DEnv) | rt (d : D) | bk (ρ : DEnv) | ct (ρ : DEnv)
def forL (turn : D → DEnv → Mem → R Fl) : List D → DEnv → Mem → R Fl
  | [], ρ, μ => .ok (.nx ρ) μ
  | d :: ds, ρ, μ => (turn d ρ μ).bind fun f μ' => match f with
    | .nx ρ' => forL turn ds ρ' μ'
    | .ct ρ' => forL turn ds ρ' μ'
    | .bk ρ' => .ok (.nx ρ') μ'
    | .rt d => .ok (.rt d) μ'
def whlL (test : DEnv → Mem → R Bool) (body : DEnv → Mem → R Fl) : Nat → DEnv → Mem → R Fl
  | 0, _, _ => .no
  | n + 1, ρ, μ => (test ρ μ).bind fun b μ1 => if b then (body ρ μ1).bind fun f μ' => (match f with
    | .nx ρ' => whlL test body n ρ' μ'
    | .ct ρ' => whlL test body n ρ' μ'
    | .bk ρ' => .ok (.nx ρ') μ'
    | .rt d => .ok (.rt d) μ') else .ok (.nx ρ) μ1
def evT (g : G) (c : C) (ρ : DEnv) (μ : Mem) : R Bool := (evE g c ρ μ).bind fun x μ1 => tru x μ1
def isCel (μ : Mem) : D → Bool
  | .cel n => match μ[n]? with
    | some (some (.lst _)) => true
    | _ => false
  | _ => false
def appD (o x : D) (μ : Mem) : R Unit := match o with
  | .cel n => match μ[n]? with
    | some (some (.lst xs)) => if decide (xs.length < 16777216) then .ok () (μ.set n (some (.lst (xs ++ [x])))) else .no
    | _ => .no
  | _ => .no
def subD (o i x : D) (μ : Mem) : R Unit := match o, i with
  | .cel n, .int k => match μ[n]? with
    | some (some (.lst xs)) => match ixN xs.length k with
      | some j => .ok () (μ.set n (some (.lst (xs.set j x))))
      | none => .no
    | _ => .no
  | _, _ => .no
def evS (g : G) : S → DEnv → Mem → R Fl
  | .pass, ρ, μ => .ok (.nx ρ) μ
  | .nil, ρ, μ => .ok (.nx ρ) μ
  | .cons a r, ρ, μ => (evS g a ρ μ).bind fun f μ' => match f with
    | .nx ρ' => evS g r ρ' μ'
    | f => .ok f μ'
  | .set i e, ρ, μ => (evE g e ρ μ).bind fun x μ1 => .ok (.nx (ρ.set i (some x))) μ1
  | .tgt tg e, ρ, μ => (evE g e ρ μ).bind fun x μ1 => match asg tg x ρ with
    | some ρ' => .ok (.nx ρ') μ1
    | none => .no
  | .par i j a b, ρ, μ => (evE g a ρ μ).bind fun x μ1 => (evE g b ρ μ1).bind fun y μ2 => .ok (.nx ((ρ.set i (some x)).set j (some y))) μ2
  | .par3 i j l a b c, ρ, μ => (evE g a ρ μ).bind fun x μ1 => (evE g b ρ μ1).bind fun y μ2 => (evE g c ρ μ2).bind fun z μ3 => .ok (.nx (((ρ.set i (some x)).set j (some y)).set l (some z))) μ3
  | .ife t a b, ρ, μ => (evT g t ρ μ).bind fun c μ1 => if c then evS g a ρ μ1 else evS g b ρ μ1
  | .for tg it b, ρ, μ => (evE g it ρ μ).bind fun x μ1 => match x with
    | .tup items => forL (fun d ρ μ => match asg tg d ρ with
        | some ρ' => evS g b ρ' μ
        | none => .no) items ρ μ1
    | _ => .no
  | .whl t b, ρ, μ => whlL (fun ρ μ => evT g t ρ μ) (fun ρ μ => evS g b ρ μ) g.W ρ μ
  | .ret e, ρ, μ => (evE g e ρ μ).bind fun x μ1 => .ok (.rt x) μ1
  | .retn, _, μ => .ok (.rt .non) μ
  | .exp e, ρ, μ => (evE g e ρ μ).bind fun _ μ1 => .ok (.nx ρ) μ1
  | .brk, ρ, μ => .ok (.bk ρ) μ
  | .cnt, ρ, μ => .ok (.ct ρ) μ
  | .rai x, _, μ => .er ⟨x, []⟩ μ
  | .frz i, ρ, μ => match ρ[i]? with
    | some (some (.cel n)) => match μ[n]? with
      | some (some (.lst xs)) => .ok (.nx (ρ.set i (some (.lst xs)))) (μ.set n none)
      | _ => .no
    | _ => .no
  | .app o e, ρ, μ => (evE g o ρ μ).bind fun x μ1 => if isCel μ1 x then (evE g e ρ μ1).bind fun y μ2 => (appD x y μ2).bind fun _ μ3 => .ok (.nx ρ) μ3 else .no
  | .sub o i e, ρ, μ => (evE g e ρ μ).bind fun y μ1 => (evE g o ρ μ1).bind fun x μ2 => (evE g i ρ μ2).bind fun k μ3 => (subD x k y μ3).bind fun _ μ4 => .ok (.nx ρ) μ4
/-- a def: how many parameters, how many names, its code -/
structure Fn where
  name : Str
  np : Nat
  nn : Nat
  code : S
def startD (n : Nat) (ds : List D) : DEnv := ds.map some ++ List.replicate (n - ds.length) none
def runB (g : G) (f : Fn) (ds : List D) (μ : Mem) : R D := if ds.length = f.np then (evS g f.code (startD f.nn ds) μ).bind fun fl μ' => (match fl with
    | .rt d => .ok d μ'
    | .nx _ => .ok .non μ'
    | _ => .no) else .no
/-- the module's defs, its constants -/
structure Md where
  fns : List Fn
  con : List (Str × D)
  hnd : Str → Option Exn → Option D
  sub : Str → Str → Option Bool
def Md.at_ (M : Md) (f : Str) : Option Fn := M.fns.find? fun x => x.name == f
def callM (M : Md) (g : G) (f : Str) (ds : List D) (μ : Mem) : R D := match M.at_ f with
  | some x => runB g x ds μ
  | none => .no
def gOf (M : Md) (W : Nat) (c c2 : Str → List D → Mem → R D) (dp : Bool) : G := ⟨c, c2, dp, fun x => M.con.lookup x, M.hnd, none, M.sub, W⟩
/-- a call, so many calls deep -/
def run (M : Md) (W : Nat) : Nat → Str → List D → Mem → R D
  | 0 => fun _ _ _ => .no
  | 1 => callM M (gOf M W (run M W 0) (run M W 0) false)
  | 2 => callM M (gOf M W (run M W 1) (run M W 0) false)
  | k + 3 => callM M (gOf M W (run M W (k + 2)) (run M W k) true)
/-- what runs k calls deep -/
def gAt (M : Md) (W k : Nat) : G := gOf M W (run M W k) (run M W (k - 2)) (decide (2 ≤ k))
theorem run_succ (M : Md) (W k : Nat) : run M W (k + 1) = callM M (gAt M W k) := by
  match k with
  | 0 => rfl
  | 1 => rfl
  | k + 2 => rfl
end Den

/-! DenH1: a list's end, a tuple unpacked while an exception is handled. -/
namespace Den
open PySem PySem.Spec PyProof.Rows
section
variable {prog : Program} {w : World} {A : Around} {E : Value → Shared → Prop} {s : Shared} {x1 : Addr}
/-- StopIteration is made, raised where x1 is handled -/
theorem stop_made {α : Type} {Q : α → Shared → Prop} (hot : HotX.HotAt A x1 s.heap)
    (hQ : ∀ h' a, (∀ b o, s.heap.get? b = some o → h'.get? b = some o) → (∃ oa, h'.get? a = some oa ∧ oa.cls = .type "StopIteration") → E (.ref a) { s with heap := h' }) :
    wpAny (model prog w) A (do let e ← newExc (.type "StopIteration") []; raiseNew e) Q E s := by
  obtain ⟨hh, o1, vs1, h1, d1, c1⟩ := hot
  refine wpAny_bind ?_
  simp only [newExc, newTuple]
  refine wpAny_bind (wpAny_newObj_type (wpAny_bind (m := firstArgMember _ _) (wpAny_of_eq (a := Value.none) (by first | rfl | (simp only [firstArgMember]; rfl)) (wpAny_newObj_type ?_ (by size_fits)))) (by size_fits))
  have g1 := Heap.get?_push_of_some { cls := .type "tuple", data := .seq ([] : List Value).toArray } h1
  refine HotX.raiseNew_hot ⟨hh, o1, vs1, by exact Heap.get?_push_of_some _ g1, d1, c1⟩ (by exact Nat.ne_of_lt (Heap.lt_size g1)) (by exact Heap.get?_push_size _ rfl) rfl (by first | (simp; done) | (simp; omega) | (simp only [Array.size_append]; simp; omega)) ?_
  refine hQ _ _ (fun b o e => ?_) ⟨_, Heap.get?_update_self _ (Heap.get?_push_size _ rfl) rfl, rfl⟩
  have g2 := Heap.get?_push_of_some { cls := .type "tuple", data := .seq ([] : List Value).toArray } e
  rw [Heap.get?_update_other _ _ (by exact Nat.ne_of_gt (Heap.lt_size g2))]
  exact Heap.get?_push_of_some _ g2
theorem hot_upd {it : Addr} {h : Heap} {f : Obj → Obj} (hot : HotX.HotAt A x1 h) (hne : x1 ≠ it) : HotX.HotAt A x1 (h.update it f) := by
  obtain ⟨hh, o1, vs1, h1, d1, c1⟩ := hot
  exact ⟨hh, o1, vs1, by rw [Heap.get?_update_other _ _ (fun z => hne z.symm)]; exact h1, d1, c1⟩
theorem list_end_hot {it l : Addr} {i : Nat} {items : Array Value} {Q : Option Value → Shared → Prop} (hot : HotX.HotAt A x1 s.heap) (hne : x1 ≠ it) (hit : s.heap.IsListIter it l i) (hl : s.heap.IsList l items) (hx : items[i]? = none)
    (hQ : ∀ h', Heap.ExtBut it s.heap h' → Q none { s with heap := h' }) : wpAny (model prog w) A (pyNext (.ref it)) Q E s := by
  obtain ⟨oi, gi, _, di⟩ := id hit
  obtain ⟨_, gl, _, _, dl⟩ := hl
  unfold pyNext
  refine wpAny_bind (wpAny_attempt (wpAny_callSpecial?_slot (name := Str.ofString "__next__") hit.typeIs slot_listiter_next (wpAny_call_entry slot_listiter_next hit.typeIs entry_listiter_next ?_ (args_listiter_next _))))
  change wpAny _ A.in1 (field (.ref it) 0 >>= _) _ _ s
  refine wpAny_bind (wpAny_field gi di (x := .ref l) rfl ?_)
  change wpAny _ A.in1 (if (Value.ref l == Value.none) = true then _ else _) _ _ s
  rw [if_neg (by exact Bool.false_ne_true)]
  change wpAny _ A.in1 (field (.ref it) 1 >>= _) _ _ s
  refine wpAny_bind (wpAny_field gi di (x := .int i 0) rfl ?_)
  change wpAny _ A.in1 (seqItems? (.ref l) >>= _) _ _ s
  refine wpAny_bind (wpAny_seqItems gl dl ?_)
  simp only [Int.toNat_natCast, hx]
  refine wpAny_bind (wpAny_rule (wpAny_bind (wpAny_setField gi di (by simp) ?_)))
  have sb : Heap.SameBut it s.heap (s.heap.update it (Obj.mapFields (·.setIfInBounds 0 .none))) := Heap.SameBut.update ..
  have hot1 : HotX.HotAt A.in1 x1 s.heap := ⟨hot.1, hot.2⟩
  refine stop_made (hot_upd hot1 hne) fun h' a kp ⟨oa, ga, ca⟩ => ?_
  refine wpAny_bind (wpAny_isInstance (T := "StopIteration") (b := true) ⟨oa, ga, ca⟩ isSubtype_stop (wpAny_pure (hQ h' fun b o hb e => kp b o ((sb.2 b hb).trans e))))
theorem tup_end_hot {it t : Addr} {i : Nat} {items : Array Value} {Q : Option Value → Shared → Prop} (hot : HotX.HotAt A x1 s.heap) (hne : x1 ≠ it) (hit : IsTupIter s.heap it t i) (hl : IsTup s.heap t items) (hx : items[i]? = none)
    (hQ : ∀ h', Heap.ExtBut it s.heap h' → Q none { s with heap := h' }) : wpAny (model prog w) A (pyNext (.ref it)) Q E s := by
  obtain ⟨oi, gi, _, di⟩ := id hit
  obtain ⟨_, gl, _, _, dl⟩ := hl
  have hot1 : HotX.HotAt A.in1 x1 s.heap := ⟨hot.1, hot.2⟩
  unfold pyNext
  refine wpAny_bind (wpAny_attempt (wpAny_callSpecial?_slot (name := Str.ofString "__next__") hit.typeIs slot_tupleiter_next (wpAny_call_entry slot_tupleiter_next hit.typeIs entry_tupleiter_next ?_ (args_tupleiter_next _))))
  change wpAny _ A.in1 (field (.ref it) 0 >>= _) _ _ s
  refine wpAny_bind (wpAny_field gi di (x := .ref t) rfl ?_)
  change wpAny _ A.in1 (if (Value.ref t == Value.none) = true then _ else _) _ _ s
  rw [if_neg (by exact Bool.false_ne_true)]
  change wpAny _ A.in1 (field (.ref it) 1 >>= _) _ _ s
  refine wpAny_bind (wpAny_field gi di (x := .int i 0) rfl ?_)
  change wpAny _ A.in1 (seqItems? (.ref t) >>= _) _ _ s
  refine wpAny_bind (wpAny_seqItems gl dl ?_)
  simp only [Int.toNat_natCast, hx]
  refine wpAny_bind (wpAny_rule (wpAny_bind (wpAny_setField gi di (by simp) ?_)))
  have sb : Heap.SameBut it s.heap (s.heap.update it (Obj.mapFields (·.setIfInBounds 0 .none))) := Heap.SameBut.update ..
  refine stop_made (hot_upd hot1 hne) fun h' a kp ⟨oa, ga, ca⟩ => ?_
  refine wpAny_bind (wpAny_isInstance (T := "StopIteration") (b := true) ⟨oa, ga, ca⟩ isSubtype_stop (wpAny_pure (hQ h' fun b o hb e => kp b o ((sb.2 b hb).trans e))))
theorem hot_keep {h h' : Heap} (hot : HotX.HotAt A x1 h) (k : ∀ b o, h.get? b = some o → h'.get? b = some o) : HotX.HotAt A x1 h' := by
  obtain ⟨hh, o1, vs1, h1, d1, c1⟩ := hot
  exact ⟨hh, o1, vs1, k _ _ h1, d1, c1⟩
theorem hot_ne {h : Heap} (hot : HotX.HotAt A x1 h) : x1 < h.objs.size := by
  obtain ⟨_, o1, _, h1, _, _⟩ := hot
  exact Heap.lt_size h1
/-- a tuple's items, all of them -/
theorem unpack_tup_hot {t : Addr} {items : Array Value} {Q : List Value → Shared → Prop} (hot : HotX.HotAt A x1 s.heap) (ht : IsTup s.heap t items)
    (hQ : ∀ h', Heap.ExtBut s.heap.objs.size s.heap h' → Q items.toList { s with heap := h' }) : wpAny (model prog w) A (unpackItems (.ref t) items.size none) Q E s := by
  have tn : t ≠ s.heap.objs.size := by
    obtain ⟨o, ho, _⟩ := ht
    exact Nat.ne_of_lt (Heap.lt_size ho)
  have xn : x1 ≠ s.heap.objs.size := Nat.ne_of_lt (hot_ne hot)
  unfold unpackItems notIterableAtAll
  refine wpAny_bind (wpAny_bind (wpAny_specialOf ht.typeIs slot_tuple_iter.lookup (wpAny_pure ?_)))
  rw [if_neg (by exact Bool.false_ne_true)]
  refine wpAny_bind (wpAny_holding (iter_tuple ht (wpAny_bind (wpAny_holding (draw_tuple tn items.size 0 _ _ ⟨_, Heap.get?_push_size _ rfl, rfl, rfl⟩ (ht.push _) (by omega) fun h1 it1 sb1 => ?_)))))
  have all : (items.toList.drop 0).take items.size = items.toList := by
    rw [List.drop_zero]
    exact List.take_of_length_le (by simp)
  rw [all, if_neg (by simp)]
  have kp1 : ∀ b o, b ≠ s.heap.objs.size → s.heap.get? b = some o → h1.get? b = some o := fun b o hb e => sb1.extBut b o hb (Heap.get?_push_of_some _ e)
  have hot1 : HotX.HotAt A x1 h1 := by
    obtain ⟨hh, o1, vs1, g1, d1, c1⟩ := hot
    exact ⟨hh, o1, vs1, kp1 _ _ xn g1, d1, c1⟩
  refine wpAny_bind (wpAny_holding (tup_end_hot hot1 xn it1 ((ht.push _).extBut sb1.extBut tn) (by simp) fun h2 e2 => ?_))
  simp only [Option.isSome_none, Bool.false_eq_true, if_false]
  exact wpAny_pure (hQ h2 fun b o hb e => e2 b o hb (kp1 b o hb e))
end
end Den
namespace Den
open PySem PySem.Spec PyProof.Rows L2
/-- wherever this context's code stands, the exception that is handled stands with no context of its own -/
def HotI (X : Cx) : Prop := ∀ (pins : List (Addr × Obj)) (s : Shared) (σ : L2.St) (H : Hp), Inv X pins σ H s → ∃ x1, HotX.HotAt X.A x1 s.heap ∧ H x1 = none ∧ x1 ∉ frs X.stack ∧ x1 ∉ X.ex
theorem pg_tupH {X : Cx} {pos : Pos} {es : List Expr} {k : Nat} {t : TGs} {n : Nat} (hc : HotI X) (h : PGs X es t)
    (hn : (assignEach es X.env).length = n) (hst : (assignEach es X.env).findIdx? (·.1) = none) : PG X (.Tuple es k pos) (gTup X.K n t) := by
  refine ⟨fun pins s σ H v u Q I r ⟨a, xs, e1, hq, hl, hw⟩ => ?_⟩
  subst e1
  cases r
  obtain ⟨its, rv, ht, _⟩ := I.tuple hq
  obtain ⟨x1, hot, _⟩ := hc pins s σ H I
  have hsz : (assignEach es X.env).length = its.toArray.size := by simp [hn, ← hl, rv.length]
  rw [PyProof.Rows.assign_Tuple]
  refine wpAny_bind (wpAny_standAt ?_)
  unfold unpack
  rw [hsz, hst]
  refine wpAny_bind (wpAny_holding (unpack_tup_hot hot ht fun h' hx => ?_))
  have I1 : Inv X pins σ H { s with heap := h' } := I.kept (t' := s.toks) fun b o e => hx b o (Nat.ne_of_lt (Heap.lt_size e)) e
  exact h.run pins _ σ H xs _ Q I1 (by simpa using rv) hw
end Den

/-! DenH2: a comprehension over a list while an exception is handled. -/
namespace Den
open PySem PySem.Spec PyProof.Rows L2
/-- an iterator's turns, where an exception is handled -/
structure TurnI (P : Program) (w : World) (K : PySem.W.Frag) (tg : Expr) (J : It) (fp : List Addr) (it : Addr) (tn : Nat → Heap → Prop) : Prop where
  mem : it ∈ fp
  obj : ∀ i h, tn i h → ∀ b ∈ fp, ∃ o, h.get? b = some o ∧ ∀ v, o.data ≠ .cell v
  keep : ∀ i h h', tn i h → (∀ b ∈ fp, ∀ o, h.get? b = some o → h'.get? b = some o) → tn i h'
  item : ∀ (X : Cx), X.prog = P → X.w = w → X.K = K → ∀ (i : Nat) (pins : List (Addr × Obj)) (s : Shared) (σ : L2.St) (H : Hp) (E : Value → Shared → Prop), Inv X pins σ H s → (∀ b ∈ fp, FpOk X pins H b) → tn i s.heap → J.go i H →
    wpAny (model P w) X.A (pyNext (.ref it)) (fun r s1 => ∃ u, r = some u ∧ wpAny (model P w) X.A (letOwnedTupleGo tg (.ref it) u) (fun _ s2 => ∃ x H', Inv X pins σ H' s2 ∧ RelV x u ∧ J.yld i H x H' ∧ tn (i + 1) s2.heap ∧ ∀ b ∈ fp, H' b = none) E s1) E s
  done : ∀ (X : Cx), X.prog = P → X.w = w → X.K = K → ∀ (x1 : Addr) (i : Nat) (pins : List (Addr × Obj)) (s : Shared) (σ : L2.St) (H : Hp) (E : Value → Shared → Prop), HotX.HotAt X.A x1 s.heap → x1 ∉ fp → Inv X pins σ H s → (∀ b ∈ fp, FpOk X pins H b) → tn i s.heap → J.stop i H →
    wpAny (model P w) X.A (pyNext (.ref it)) (fun r s1 => r = none ∧ Inv X pins σ H s1) E s
  self : ∀ (A : Around) (i : Nat) (s : Shared) (Q : Value → Shared → Prop) (E : Value → Shared → Prop), tn i s.heap → Q (.ref it) s → wpAny (model P w) A (pyIter (.ref it)) Q E s
/-- a calm turn's item asks nothing of what is handled: a list's -/
theorem turnI_list {P : Program} {w : World} {K : PySem.W.Frag} {tg : Expr} (a it : Addr) : TurnI P w K tg (Itl K a) [it] it (fun i h => h.IsListIter it a i) where
  mem := List.mem_singleton.mpr rfl
  obj := (turn_list (P := P) (w := w) (K := K) (tg := tg) a it).obj
  keep := (turn_list (P := P) (w := w) (K := K) (tg := tg) a it).keep
  item := by
    intro X hP hw hK i pins s σ H E I hf st ⟨xs, x, hq, hx⟩
    subst hP hw hK
    obtain ⟨its, rv, p, _⟩ := I.list hq
    obtain ⟨u, hu, ru⟩ := rv.get hx
    obtain ⟨f0, f1, _, f3, f4, f5⟩ := hf it (List.mem_singleton.mpr rfl)
    refine wpAny_pyNext_list_item st p.isList (x := u) (by simpa using hu) fun h' st' sb => ⟨u, rfl, ?_⟩
    obtain ⟨o, e, c, d⟩ := id st'
    exact go_of (s := { s with heap := h' }) e c d (by decide) ⟨x, H, I.turned (t' := s.toks) (fun b o hb e => (sb.2 b hb).trans e) f0 f1 f3 f4 f5, ru, ⟨rfl, fun ys hy => by rw [I.list_inj hy hq]; exact hx⟩, st', fun b hb => (hf b hb).1⟩
  done := by
    intro X hP hw hK x1 i pins s σ H E hot hx1 I hf st ⟨xs, hq, hx⟩
    subst hP hw hK
    obtain ⟨its, rv, p, _⟩ := I.list hq
    obtain ⟨f0, f1, _, f3, f4, f5⟩ := hf it (List.mem_singleton.mpr rfl)
    have hl := rv.length
    exact list_end_hot hot (fun z => hx1 (List.mem_singleton.mpr z)) st p.isList (by simp; omega) fun h' eb => ⟨rfl, I.turned (t' := s.toks) (fun b o hb e => eb b o hb e) f0 f1 f3 f4 f5⟩
  self := (turn_list (P := P) (w := w) (K := K) (tg := tg) a it).self
def PIEI (X : Cx) (pins : List (Addr × Obj)) (σ : L2.St) (tg : Expr) (R : It → Hp → Prop) (n0 : Nat) (itv : Value) (s2 : Shared) : Prop :=
  ∃ (it : Addr) (fp : List Addr) (tn : Nat → Heap → Prop) (J : It) (H' : Hp), itv = .ref it ∧ Inv X pins σ H' s2 ∧ TurnI X.prog X.w X.K tg J fp it tn ∧ tn 0 s2.heap ∧ (∀ b ∈ fp, FpOk X pins H' b ∧ n0 ≤ b) ∧ R J H'
structure PII (X : Cx) (tg iter : Expr) (wi : TI) : Prop where
  run : ∀ (pins : List (Addr × Obj)) (s : Shared) (σ : L2.St) (H : Hp) (R : It → Hp → Prop), Inv X pins σ H s → wi σ H R →
    wpAny (model X.prog X.w) X.A (eval iter X.env) (fun v s1 => ∃ H1, Inv X pins σ H1 s1 ∧ wpAny (model X.prog X.w) X.A (pyIter v) (PIEI X pins σ tg R s1.heap.objs.size) X.xe s1) X.xe s
theorem pii_list {X : Cx} {tg l : Expr} {tl : TE} (hl : PE X l tl) : PII X tg l (iList X.K tl) := by
  refine ⟨fun pins s σ H R I hw => thn (hl.run pins s σ H _ I hw) fun v s1 ⟨x, H1, I1, r1, a, ex, ⟨xs, hq⟩, q⟩ => ⟨H1, I1, ?_⟩⟩
  subst ex
  cases r1
  obtain ⟨its, _, p, _⟩ := I1.list hq
  refine wpAny_pyIter_list p.isList ⟨_, [s1.heap.objs.size], _, _, H1, rfl, I1.kept (t' := s1.toks) (fun b o e => Heap.get?_push_of_some _ e), turnI_list a _, ⟨_, Heap.get?_push_size _ rfl, rfl, rfl⟩, fun b hb => ?_, q⟩
  rw [List.mem_singleton] at hb
  rw [hb]
  exact ⟨I1.fpOk (Nat.le_refl _) (I1.hok.fresh (Nat.le_refl _)), Nat.le_refl _⟩
end Den

/-! DenH3: a comprehension over a list while an exception is handled: its block, its loop. -/
namespace Den
open PySem PySem.Spec PyProof.Rows L2
/-- a comprehension's block keeps the exception that is handled -/
theorem hotI_blk {X : Cx} {s : Shared} {H : Hp} {scope : Scope} {ce : PySem.Env} {fp : List Addr} {x1 : Addr} (hot : HotX.HotAt X.A x1 s.heap) (n1 : H x1 = none) (n2 : x1 ∉ frs X.stack) (n3 : x1 ∉ fp) : HotI (X.blk s H scope ce fp) := fun pins s' σ H' I => by
  obtain ⟨hh, o1, vs1, g1, d1, c1⟩ := hot
  exact ⟨x1, ⟨hh, o1, vs1, I.base.keep x1 o1 g1 n1 n2 n3, d1, c1⟩, I.base.free x1 o1 g1 n1 n3, n2, n3⟩
section
variable {X : Cx}
/-- the block's parts, wherever the block is made -/
abbrev BlkG (X : Cx) (scope : Scope) (φ : Cx → Prop) : Prop := ∀ (s : Shared) (H : Hp) (C : Addr) (cl : List (Str × Addr)) (fp : List Addr), HotI (X.blk s H scope (compEnvC scope cl C X.env) fp) → φ (X.blk s H scope (compEnvC scope cl C X.env) fp)
/-- the loop, from the block's entry -/
theorem lc_loopH {pins : List (Addr × Obj)} {σ : L2.St} {elt tg iter : Expr} {ifs : List Expr} {scope : Scope} {own : List (Str × Nat)} {pos : Pos} {g : TG} {tt : TT} {te : TE} {Qd : Hp → Prop} {it D : Addr} {fp : List Addr} {tn : Nat → Heap → Prop} {J : It} {x1 : Addr}
    {s3 s4 : Shared} {H3 : Hp} {ce : PySem.Env} {R : Result → Shared → Prop} {m0 : Nat} {W : Nat → Nat → Hp → Prop} (T : TurnI X.prog X.w X.K tg J fp it tn)
    (hot : HotX.HotAt X.A x1 s3.heap) (n1 : H3 x1 = none) (n2 : x1 ∉ frs X.stack) (n3 : x1 ∉ fp)
    (I4 : Inv (X.blk s3 H3 scope ce fp) [] (wipe σ (own.map (·.2))) H3 s4) (st4 : tn 0 s4.heap) (nfp : ∀ b ∈ fp, H3 b = none) (w0 : W 0 m0 H3)
    (pg : PG (X.blk s3 H3 scope ce fp) tg g) (pt : PTs (X.blk s3 H3 scope ce fp) ifs tt) (pe : PE (X.blk s3 H3 scope ce fp) elt te)
    (turn : ∀ i m H, W i m H → (J.stop i H ∧ Qd H) ∨ (J.go i H ∧ ∃ Nx : Hp → Prop, (∀ H', Nx H' → ∃ m', m' < m ∧ W (i + 1) m' H') ∧ ∀ x H', J.yld i H x H' → g x (wipe σ (own.map (·.2))) H' fun σ2 H2 => wipe σ2 (own.map (·.2)) = wipe σ (own.map (·.2)) ∧ tt σ2 H2 fun b H5 =>
      if b = true then te σ2 H5 fun y H6 => ∃ acc, H6 D = some (.lst acc) ∧ acc.length < sizeLine ∧ Nx (upd H6 D (.lst (acc ++ [y]))) else Nx H5))
    (hend : ∀ (s6 : Shared) (H5 : Hp), Inv (X.blk s3 H3 scope ce fp) [] (wipe σ (own.map (·.2))) H5 s6 → Qd H5 → R (.ok .next) s6) :
    codeAny (model X.prog X.w) X.A (.compLoop (.ListComp elt [⟨tg, iter, ifs, 0⟩] scope pos) 0 (.ref it) (.ref D) ce) R s4 := by
  have sta : ∀ {σ' : L2.St} {H' : Hp} {s' : Shared}, Inv (X.blk s3 H3 scope ce fp) [] σ' H' s' → (∀ b ∈ fp, H' b = none) → ∀ b ∈ fp, FpOk (X.blk s3 H3 scope ce fp) [] H' b := fun {σ' H' s'} I' hn b hb =>
    ⟨hn b hb, (I'.ok.exf b hb).1, I'.ok.exfs b hb, .inl hb, fun x c e => (I'.ok.exf b hb).2 x c e, fun p hp => absurd (show p ∈ ([] : List (Addr × Obj)) from hp) (by simp)⟩
  refine compLoop_any (fun n s' => ∃ i H', Inv (X.blk s3 H3 scope ce fp) [] (wipe σ (own.map (·.2))) H' s' ∧ tn i s'.heap ∧ (∀ b ∈ fp, H' b = none) ∧ W i n H') ?_ m0 ⟨0, H3, I4, st4, nfp, w0⟩
  rintro n s5 ⟨i, H5, I5, st5, n5, w5⟩
  rcases turn i n H5 w5 with ⟨stop, qq⟩ | ⟨go, Nx, hNx, step⟩
  · have hot5 : HotX.HotAt X.A x1 s5.heap := by
      obtain ⟨hh, o1, vs1, g1, d1, c1⟩ := hot
      exact ⟨hh, o1, vs1, I5.base.keep x1 o1 g1 n1 n2 n3, d1, c1⟩
    refine thnF (T.done (X.blk s3 H3 scope ce fp) rfl rfl rfl x1 i [] s5 _ H5 (fun _ _ => False) hot5 n3 I5 (sta I5 n5) st5 stop) fun r s6 ⟨hr, I6⟩ => ?_
    subst hr
    exact hend s6 H5 I6 qq
  · refine thnF (T.item (X.blk s3 H3 scope ce fp) rfl rfl rfl i [] s5 _ H5 (fun _ _ => False) I5 (sta I5 n5) st5 go) fun r s6 ⟨u, hr, h6⟩ => ?_
    subst hr
    refine thnF h6 fun _ s7 ⟨x, H7, I7, r7, y7, st7, n7⟩ => ?_
    refine thnF (pg.run _ s7 _ H7 x u _ (I7.pinned (sta I7 n7) (T.obj _ _ st7)) r7 (step x H7 y7)) fun _ s8 ⟨σ8, H8, I8, hw8, q8⟩ => thnF (pt.run _ s8 σ8 H8 _ I8 q8) fun b s9 ⟨H9, I9, q9⟩ => ?_
    have again : ∀ {s' : Shared} {H' : Hp}, Inv (X.blk s3 H3 scope ce fp) ([] ++ pinsAt fp s7.heap) σ8 H' s' → Nx H' → ∃ m, m < n ∧ ∃ i H', Inv (X.blk s3 H3 scope ce fp) [] (wipe σ (own.map (·.2))) H' s' ∧ tn i s'.heap ∧ (∀ b ∈ fp, H' b = none) ∧ W i m H' := fun {s' H'} I' nx => by
      obtain ⟨m', hm, w'⟩ := hNx H' nx
      have held : ∀ b ∈ fp, ∀ o, s7.heap.get? b = some o → s'.heap.get? b = some o ∧ H' b = none := fun b hb o e => by
        have z := I'.pin (b, o) (List.mem_append_right _ (List.mem_append_right _ (mem_pinsAt hb e)))
        exact ⟨z.1, z.2.1⟩
      have hl : (wipe σ (own.map (·.2))).length = σ8.length := by rw [← hw8, wipe_length]
      refine ⟨m', hm, i + 1, H', (I'.unpinned (pins := [])).weak hl (fun j v e => (wipe_some (by rw [← hw8] at e; exact e)).1), T.keep _ _ _ st7 fun b hb o e => (held b hb o e).1, fun b hb => ?_, w'⟩
      obtain ⟨o, e, _⟩ := T.obj _ _ st7 b hb
      exact (held b hb o e).2
    cases b with
    | false =>
      rw [if_neg Bool.false_ne_true] at q9 ⊢
      exact again I9 q9
    | true =>
      rw [if_pos rfl] at q9 ⊢
      exact thnF (pe.run _ s9 σ8 H9 _ I9 q9) fun z s10 ⟨yv, H10, I10, r10, acc, hD10, hz10, nx⟩ => app_ok (X := X.blk s3 H3 scope ce fp) I10 hD10 hz10 r10 fun s11 I11 => again I11 nx
/-- a comprehension's walk, from its source to what its list is used for -/
theorem lc_coreH {pins : List (Addr × Obj)} {s : Shared} {σ : L2.St} {H : Hp} {Q : VK} {elt tg iter : Expr} {ifs : List Expr} {scope : Scope} {own : List (Str × Nat)} {pos pos' : Pos} {wi : TI} {g : TG} {tt : TT} {te : TE} {use : Option (Value → Sem Unit)} {Qf : Value → Shared → Prop} (hc : HotI X) (hN : X.N.Nodup)
    (I : Inv X pins σ H s) (hi : PII X tg iter wi) (ok : BlkOk X.N X.env.scope scope own) (hg : BlkG X scope fun Y => PG Y tg g) (ht : BlkG X scope fun Y => PTs Y ifs tt) (he : BlkG X scope fun Y => PE Y elt te) (hs : ∀ x, foldedSetIterable iter X.env x = pure x)
    (hw : tLc wi g tt te (own.map (·.2)) σ H Q)
    (fin : ∀ D C s' m H', Inv X pins σ H' s' → Q (.ref D) H' → s'.heap.Ns C m → FpOk X pins H' C → compPost (model X.prog X.w) X.A X.xe use Qf (.ref D) C (.ok .next) s') :
    wpAny (model X.prog X.w) X.A (comprehension (.ListComp elt [⟨tg, iter, ifs, 0⟩] scope pos) scope X.env pos' (newList []) false (eval iter X.env) use) Qf X.xe s := by
  have frees : ∀ y ∈ scope.names, y.2 = .free → ∃ c, X.env.cells.lookup y.1 = some c := fun y hy e => (ok.free y hy e).elim (fun k => I.ok.has _ (.inl k)) fun k => I.ok.has _ (.inr k)
  refine wpAny_comprehension_free (use := use) rfl hs (closure_ok frees) ok.kind (fun y hy e => by rw [ok.uniq y hy, e]) (thn (hi.run pins s σ H _ I hw) fun xv s1 ⟨H1, I1, hx⟩ => thn hx fun itv s2 h2 => ?_)
  obtain ⟨it, fp, tn, J, H2, e, I2, T, st2, f2, q⟩ := h2
  subst e
  -- the exception, not among the iterator's own
  obtain ⟨x1, hotA, z1, z2, z3⟩ := hc pins s1 σ H1 I1
  obtain ⟨x2, hot2, y1, y2, y3⟩ := hc pins s2 σ H2 I2
  have ex : x2 = x1 := by
    have a := hotA.1
    rw [hot2.1] at a
    exact Value.ref.inj (Option.some.inj a)
  subst ex
  have n3 : x2 ∉ fp := fun hm => Nat.lt_irrefl _ (Nat.lt_of_lt_of_le (hot_ne hotA) (f2 x2 hm).2)
  refine wpAny_newObj_type (newEnv_comp ?_) (by exact Nat.zero_le _)
  have hDn : H2 s2.heap.objs.size = none := I2.hok.fresh (Nat.le_refl _)
  obtain ⟨W, ⟨m0, w0⟩, turn⟩ := q s2.heap.objs.size hDn
  generalize hs3 : ({ s2 with heap := s2.heap.push { cls := .type "list", data := .seq ([] : List Value).toArray } } : Shared) = s3
  have h3 : s3.heap = s2.heap.push { cls := .type "list", data := .seq ([] : List Value).toArray } := by rw [← hs3]
  have kp3 : ∀ b o, s2.heap.get? b = some o → s3.heap.get? b = some o := fun b o e => by rw [h3]; exact Heap.get?_push_of_some _ e
  have I3 : Inv X pins σ (upd H2 s2.heap.objs.size (.lst [])) s3 := by
    rw [← hs3]
    exact I2.laid (t' := s2.toks) (fun b o e => Heap.get?_push_of_some _ e) (Nat.le_refl _) ⟨Nat.zero_le _, [], 0, .nil, Heap.get?_push_size _ rfl⟩
  have below : ∀ b ∈ fp, b < s2.heap.objs.size := fun b hb => by
    obtain ⟨o, e, _⟩ := T.obj _ _ st2 b hb
    exact Heap.lt_size e
  have f3 : ∀ b ∈ fp, FpOk X pins (upd H2 s2.heap.objs.size (.lst [])) b ∧ b < s3.heap.objs.size := fun b hb =>
    ⟨⟨by rw [upd_ne (Nat.ne_of_lt (below b hb))]; exact (f2 b hb).1.1, (f2 b hb).1.2⟩, by rw [h3, Heap.size_push]; exact Nat.lt_succ_of_lt (below b hb)⟩
  have I4 := block_start I3 ok hN f3
  have hot3 : HotX.HotAt X.A x2 s3.heap := hot_keep hot2 kp3
  have n1 : upd H2 s2.heap.objs.size (.lst []) x2 = none := by rw [upd_ne (Nat.ne_of_lt (hot_ne hot2))]; exact y1
  have hI := hotI_blk (scope := scope) (ce := compEnvC scope (cellsFrom (s3.heap.objs.size + 1) scope.names (cloFrom X.env.cells scope.names [])) s3.heap.objs.size X.env) hot3 n1 y2 n3
  have nfp : ∀ b ∈ fp, (upd H2 s2.heap.objs.size (.lst [])) b = none := fun b hb => (f3 b hb).1.1
  have st4 : tn 0 (pushCells (s3.heap.push { cls := .type "dict", data := .dict #[] }) scope.names) := T.keep _ _ _ st2 fun b _ o e => pushCells_keeps _ _ _ _ (Heap.get?_push_of_some _ (kp3 b o e))
  have loop := lc_loopH (X := X) (pins := pins) (elt := elt) (iter := iter) (ifs := ifs) (own := own) (pos := pos) (D := s2.heap.objs.size) (Qd := Q (.ref s2.heap.objs.size)) (R := compPost (model X.prog X.w) X.A X.xe use Qf (.ref s2.heap.objs.size) s3.heap.objs.size)
    T hot3 n1 y2 n3 I4 st4 nfp w0 (hg _ _ _ _ _ hI) (ht _ _ _ _ _ hI) (he _ _ _ _ _ hI) turn fun s6 H5 I6 qq => by
      have I7 : Inv X pins σ H5 s6 := I3.call' (ch := fp) I6.os I6.base I6.hok I6.bare fun b hb => ⟨(f3 b hb).1.2.2.2.1, (f3 b hb).1.2.1, (f3 b hb).1.2.2.2.2.1, (f3 b hb).1.2.2.2.2.2⟩
      have nC : H5 s3.heap.objs.size = none := I6.free
      obtain ⟨m, hn, _⟩ := I6.loc
      exact fin _ _ s6 m H5 I7 qq hn (I3.fpOk (Nat.le_refl _) nC)
  exact codeAny_compStart_list loop (T.self X.A 0 _ _ _ st4 loop)
/-- [elt for target in list if ..] -/
theorem pe_lcH {elt tg iter : Expr} {ifs : List Expr} {scope : Scope} {own : List (Str × Nat)} {pos : Pos} {wi : TI} {g : TG} {tt : TT} {te : TE} (hc : HotI X) (hN : X.N.Nodup) (hi : PII X tg iter wi) (ok : BlkOk X.N X.env.scope scope own)
    (hg : BlkG X scope fun Y => PG Y tg g) (ht : BlkG X scope fun Y => PTs Y ifs tt) (he : BlkG X scope fun Y => PE Y elt te) (hs : ∀ x, foldedSetIterable iter X.env x = pure x) :
    PE X (.ListComp elt [⟨tg, iter, ifs, 0⟩] scope pos) (tLc wi g tt te (own.map (·.2))) := by
  refine ⟨fun pins s σ H Q I hw => ?_⟩
  rw [eval_ListComp]
  exact lc_coreH hc hN I hi ok hg ht he hs hw fun D C s' m H' I' q hn ⟨f0, f1, _, f3, f4, f5⟩ => ⟨m, hn, fun h'' sb => ⟨.ref D, H', I'.turned (t' := s'.toks) (fun b o hb e => (sb.2 b hb).trans e) f0 f1 f3 f4 f5, rfl, q⟩⟩
/-- y = [elt for target in list if ..], the list taken over as it is -/
theorem ps_setLcH {i : Nat} {y : Str} {py : Pos} {elt tg iter : Expr} {ifs : List Expr} {scope : Scope} {own : List (Str × Nat)} {pos spos : Pos} {wi : TI} {g : TG} {tt : TT} {te : TE} (hc : HotI X) (hN : X.N.Nodup) (hy : X.N[i]? = some y) (hyl : X.env.scope.names.lookup y = some .local)
    (hsw : swapsWith (.ListComp elt [⟨tg, iter, ifs, 0⟩] scope pos) (some (.Name y py)) spos.line X.env = pure true) (hi : PII X tg iter wi) (ok : BlkOk X.N X.env.scope scope own)
    (hg : BlkG X scope fun Y => PG Y tg g) (ht : BlkG X scope fun Y => PTs Y ifs tt) (he : BlkG X scope fun Y => PE Y elt te) (hs : ∀ x, foldedSetIterable iter X.env x = pure x) :
    PS X (.Assign [.Name y py] (.ListComp elt [⟨tg, iter, ifs, 0⟩] scope pos) spos) (tAsg (tLc wi g tt te (own.map (·.2))) (gName i)) := by
  refine ⟨fun pins s σ H D I hw => ?_⟩
  have hw : tLc wi g tt te (own.map (·.2)) σ H (fun x H1 => gName i x σ H1 D.nx) := hw
  rw [exec_Assign_Name_used _ _ _ _ hsw]
  refine wpAny_bind (wpAny_standAt (wpAny_bind (wpAny_bind (m := comprehension _ _ _ (firstIterPos [⟨tg, iter, ifs, 0⟩] pos) _ _ _ (some (assign (.Name y py) X.env))) (thn (lc_coreH (Qf := fun _ s' => SP X pins D .next s') hc hN I hi ok hg ht he hs hw fun L C s' m H' I' q hn ⟨f0, f1, f2, f3, f4, f5⟩ => ?_) fun _ s' hq => wpAny_pure (wpAny_pure hq)))))
  change wpAny _ _ (assign (.Name y py) X.env (.ref L)) _ _ _
  refine wpAny_assign_Name (store_ok2 (v := V.ref L) I' hN hy (.inl hyl) rfl (fun s2 I2 ⟨a, sb, ha⟩ => ?_) (.inr hyl))
  have ne : C ≠ a := ha.elim (fun z => by rw [z]; exact f1) fun z e => f4 y a z e.symm
  exact ⟨m, hn.sameBut sb ne, fun h3 sb3 => ⟨_, H', I2.turned (t' := s2.toks) (fun b o hb e => (sb3.2 b hb).trans e) f0 f1 f3 f4 f5, q⟩⟩
end
end Den

/-! DenL: a lambda handed to a def that calls it; exceptions whose context is None. -/
namespace Den
open PySem PySem.Spec PyProof.Rows L2
/-- the defs that make lambdas -/
class Lams where
  lams : List Str
  /-- where the exception stands that is handled -/
  exa : Addr := 0
variable [Lams]
/-- their tables of code objects, the name that these bear -/
def lamT (K : PySem.W.Frag) : List (Addr × Str) := Lams.lams.map fun x => ((He.cT K (x, none)).2, x ++ ".<locals>." ++ "<lambda>")
/-- the lambda's body; what it lets out has no context -/
def lamN (X : Cx) (A : Around) (outer : List PySem.Env) (s : Shared) (H : Hp) (E : XK) (scope : Scope) (f c' : Addr) : Cx :=
  { LamX.lamCx X A outer s H E scope f c' with
    xe := fun e s' => wpAny (model X.prog X.w) (A.deeper (LamX.lamEnv X scope s.heap.objs.size f c')) (leaving (LamX.lamEnv X scope s.heap.objs.size f c') e) (fun _ t => L2N.CX X.prog X.w outer H s E e t) (fun e' t => L2N.CX X.prog X.w outer H s E e' t) s' }
section
variable {X : Cx} {pins : List (Addr × Obj)} {σ : L2.St} {H : Hp} {s : Shared}
/-- a() in the def at g that got the lambda at f -/
theorem act_lam {CXg : CXT} {Eg : XK} {Ng : List Str} {qg : Str} {sg : Scope} {g f c' : Addr} {cdg pm ctv : Value} {params : Arguments} {body : Expr} {scope : Scope} {k i : Nat} {a : Str} {pn : List (Addr × Obj)} {xe : Value → Shared → Prop} {W : WX} {E : XK} {tb : TE} {p1 p2 : Pos}
    (I : Inv X pins σ H s) (L : LamX.LamS X.env.scope scope) (hf : s.heap.get? f = some (PySem.W.kla_obj "<lambda>" (X.env.qual ++ "<lambda>") params body scope (cloFrom X.env.cells scope.names []) pm c' ctv)) (hfn : H f = none) (hfr : f ∉ frs X.stack)
    (hbind : bindArgs (PySem.W.kla_fn "<lambda>" (X.env.qual ++ "<lambda>") params body scope (cloFrom X.env.cells scope.names []) pm (.ref c') ctv) ⟨[], []⟩ = pure [])
    (tk : L2N.Takes ((cxOf CXg X.prog X.w X.K X.mg X.base Ng qg sg g cdg X.A X.stack s H Eg).tr pn xe) W) (hW : ∀ cls d σ' H', E cls d H' → W cls d σ' H') (hr : Room (k + 1) (X.A.deeper (envOfC qg sg s.heap.objs.size g cdg)))
    (hbody : ∀ (A : Around) (outer : List PySem.Env) (s : Shared) (H : Hp), Room k (A.deeper (LamX.lamEnv X scope s.heap.objs.size f c')) → PE (lamN X A outer s H E scope f c') body tb)
    (hN : Ng[i]? = some a) (hv : Vis sg a) (hd : (a == ("__debug__" : Str)) = false) (hcd : (a == ("__classdict__" : Str)) = false) :
    PE ((cxOf CXg X.prog X.w X.K X.mg X.base Ng qg sg g cdg X.A X.stack s H Eg).tr pn xe) (.Call (.Name a p1) [] [] p2) (fun τ HZ Q => τ[i]? = some (some (.ref f)) ∧ HZ c' = some (LamX.CodeO c' (X.env.qual ++ "<lambda>")) ∧ tb σ HZ Q) := by
  refine ⟨fun pz sz τ HZ Q IZ ⟨at_, code, rd⟩ => ?_⟩
  refine wpAny_Call_Name_kw (thn ((pe_var (pos := p1) (i := i) hN hv hd hcd).run pz sz τ HZ (fun v H1 => v = .ref f ∧ H1 = HZ) IZ ⟨.ref f, at_, rfl, rfl⟩) fun u s1 ⟨v, H1, I1, r1, ev, eH⟩ => ?_)
  subst ev
  subst eH
  cases r1
  have there := I1.base.keep f _ hf hfn hfr (by intro z; cases z)
  refine PySem.W.callWith_F0 ⟨_, _, _, _, there⟩ ?_
  obtain ⟨⟨oc, vs, t, hoc, hdc, hvc⟩, _, _⟩ := I1.hok c' _ code
  have rc : codeAny (model X.prog X.w) (X.A.deeper (envOfC qg sg s.heap.objs.size g cdg)) (.call (.ref f) ⟨[], []⟩) (CR (L2N.CX X.prog X.w) (envOfC qg sg s.heap.objs.size g cdg :: X.stack) X.prog X.w H1 s1 Q E) s1 := by
    refine PySem.W.kla_callFunE hr.depth there rfl L.co L.gen rfl ⟨c', oc, vs, t, rfl, hoc, hdc, hvc⟩ ?_
    rw [hbind]
    refine wpAny_pure (wpAny_newFunctionEnv (fun y hy => (L.own y hy).2) (fun y hy => absurd hy (by simp)) (fun h₁ hns hsb => ⟨I1.nolimit.fresh _ hsb, ?_⟩) L.kind)
    have kp : ∀ b o, s1.heap.get? b = some o → h₁.get? b = some o := fun b o e => hsb.extBut b o (Nat.ne_of_lt (Heap.lt_size e)) (Heap.get?_push_of_some _ e)
    have J := LamX.lam_start2 (f := f) (c' := c') (E := E) (tk := s1.toks + ([] : List (Str × Value)).length) I L I1.env0 hr.hd I1.base hns kp
    refine PySem.W.kla_codeExpr (wpAny_mono ((hbody _ _ s1 H1 (hr.deeper _)).run [] _ _ H1 Q (J.wish _) rd) (fun v s' ⟨w', H', J', rv, q⟩ => ?_) fun e s' hq => hq)
    exact ⟨w', H', J'.os, J'.bare, J'.base, J'.hok, rv, q⟩
  refine wpAny_call (codeAny_mono rc fun r s' hq => ?_)
  cases r with
  | error e => exact L2N.passes_call tk hW pz τ H1 s1 e s' I1 hq
  | ok fl => cases fl <;> first | exact I1.after hq | exact False.elim hq
end
/-- the def x at g that calls what it got, a: TT is what it makes of the lambda's reading -/
def GivesN (X : Cx) (Ng : List Str) (x : Str) (sg : Scope) (g : Addr) (cdg : Value) (bg : List Stmt) (a : Str) (q : Str) (TT : (XK → Hp → VK → Prop) → Hp → VK → Prop) : Prop :=
  ∀ (f c' : Addr) (s : Shared) (H : Hp) (Q : VK) (tl : XK → Hp → VK → Prop),
    (∀ (W : WX) (pn : List (Addr × Obj)) (xe : Value → Shared → Prop) (E : XK) (p1 p2 : Pos), L2N.Takes ((cxOf C8.CX0 X.prog X.w X.K X.mg X.base Ng x sg g cdg X.A X.stack s H C8.E0).tr pn xe) W → (∀ cls d σ' H', E cls d H' → W cls d σ' H') →
      PE ((cxOf C8.CX0 X.prog X.w X.K X.mg X.base Ng x sg g cdg X.A X.stack s H C8.E0).tr pn xe) (.Call (.Name a p1) [] [] p2) (fun τ HZ Q => τ[0]? = some (some (.ref f)) ∧ HZ c' = some (LamX.CodeO c' q) ∧ tl E HZ Q)) →
    (∀ (E : XK) (H : Hp) (Q Q' : VK), (∀ v H', Q v H' → Q' v H') → tl E H Q → tl E H Q') → H c' = some (LamX.CodeO c' q) → LamX.Tabs (lamT X.K) H → TT tl H Q →
    ∃ t, PSs (cxOf C8.CX0 X.prog X.w X.K X.mg X.base Ng x sg g cdg X.A X.stack s H C8.E0).nox bg t ∧ t { nx := fun _ H' => Q .non H', rt := Q } (L2.start Ng [.ref f]) H
/-- x(lambda: body) -/
theorem call_lam {X : Cx} {T : List (Addr × Str)} {TT : (XK → Hp → VK → Prop) → Hp → VK → Prop} {x a : Str} {g c P : Addr} {k : Nat} {pg : Arguments} {bg : List Stmt} {sg : Scope} {dV kV doc pm cdv ct oc : Value} {an od : Option Addr} {osl : Array (Option Value)} {Ng : List Str}
    {params : Arguments} {body : Expr} {scope : Scope} {t : XK → TE} {p lpos pos : Pos} (hT : T = lamT X.K) (hg : Gl X x) (hm : X.mg x = some (.ref g)) (hk : PySem.W.keepIn X.K (.ref g) = true)
    (lk : X.K.lookup g = some ⟨oc, od, .func (PySem.W.fnOf x x pg bg sg dV kV doc pm an cdv ct), osl⟩) (hcg : PySem.W.codeIn X.K cdv x = true) (hb : L2.Binds X.K (PySem.W.fnOf x x pg bg sg dV kV doc pm an cdv ct) [a] []) (Sg : FnScope Ng [a] sg) (hNg : Ng[0]? = some a) (hva : Vis sg a)
    (hG : GivesN X Ng x sg g cdv bg a (X.env.qual ++ "<lambda>") TT) (TB : LamX.TabB X.base X.mg c P) (hcode : X.env.code = .ref c) (hmT : (P, X.env.qual ++ "<lambda>") ∈ T) (hu : ∀ p ∈ T, p.1 = P → p.2 = X.env.qual ++ "<lambda>") (hr : Room (k + 2) X.A)
    (L : LamX.LamS X.env.scope scope) (hdef : defaultsOf params X.env = ([], [])) (hbind : ∀ (q : Str) (cl : List (Str × Addr)) (pm cv ctv : Value), bindArgs (PySem.W.kla_fn "<lambda>" q params body scope cl pm cv ctv) ⟨[], []⟩ = pure [])
    (hbody : ∀ (A : Around) (outer : List PySem.Env) (s : Shared) (H : Hp) (E : XK) (f c' : Addr), Room k (A.deeper (LamX.lamEnv X scope s.heap.objs.size f c')) → PE (lamN X A outer s H E scope f c') body (t E))
    (mono : ∀ (E : XK) (σ : L2.St) (H : Hp) (Q Q' : VK), (∀ v H', Q v H' → Q' v H') → t E σ H Q → t E σ H Q') (hdb : (x == ("__debug__" : Str)) = false) (hd : (a == ("__debug__" : Str)) = false) (hcd : (a == ("__classdict__" : Str)) = false) :
    PE X (.Call (.Name x p) [.Lambda params body scope lpos] [] pos) (LamX.tLam T TT t) := by
  refine ⟨fun pins s σ H Q I ⟨tabs, rd⟩ => ?_⟩
  refine wpAny_Call_Name_kw (ld_glob I hg hm (PySem.W.callWith_K (h₀ := X.base) I.ok.mod.kin hk ?_ (by rfl) (by rfl)) hdb)
  refine Calls.spliced_cons (LamX.lam_make2 I TB hcode hmT hu tabs hdef (L.has I.ok) fun f c' pm' ctv H1 s' I1 eN T1 hf hfn hfr hco => Calls.spliced_nil ⟨I1.kIn, ?_⟩)
  have rc : codeAny (model X.prog X.w) X.A (.call (.ref g) ⟨[.ref f], []⟩) (CR C8.CX0 X.stack X.prog X.w H1 s' Q C8.E0) s' := by
    refine LamX.run_ofS (N := Ng) (ps := [a]) (us := [.ref f]) (vs := [.ref f]) lk hcg Sg hr I1.env0 (hb s' [.ref f] I1.kIn rfl) (.cons rfl .nil) rfl fun hr' => ?_
    obtain ⟨t', ht', hq'⟩ := hG f c' s' H1 Q (fun E H' Q' => t E σ H' Q') (fun W pn xe E p1 p2 tk hW => act_lam (i := 0) I1 L hf hfn hfr (hbind _ _ _ _ _) tk hW hr' (fun A outer s H hr2 => hbody A outer s H E f c' hr2) hNg hva hd hcd) (fun E H Q Q' => mono E σ H Q Q') hco (by rw [← hT]; exact T1) (rd H1 eN T1)
    exact ⟨t', ht'.nox, hq'⟩
  refine wpAny_call (codeAny_mono rc fun r s2 hq => ?_)
  cases r with
  | error e => exact False.elim hq
  | ok fl => cases fl <;> first | exact I1.after hq | exact False.elim hq
end Den

/-! Den2: how plain data lie in the abstract heap; what is kept; readings. -/
namespace Den
open PySem PySem.Spec PyProof.Rows L2

variable [Lams]
/-- no table of code objects -/
def NT (o : HO) : Prop := ∀ ps, o ≠ .tbl ps
theorem nt_lst {xs : List V} : NT (.lst xs) := fun _ z => nomatch z
theorem nt_tup {xs : List V} : NT (.tup xs) := fun _ z => nomatch z
theorem nt_frz {o : Obj} {u : HO} : NT (.frz o u) := fun _ z => nomatch z
theorem nt_code {c : Addr} {q : Str} : NT (LamX.CodeO c q) := LamX.codeO_ne
/-- the n-th changeable thing stands at a -/
def At (φ : List Addr) (μ : Mem) (a : Addr) : Prop := ∃ (i : Nat) (c : Cell), μ[i]? = some (some c) ∧ φ[i]? = some a
/-- what may still change, or is being made -/
def Live (φ : List Addr) (μ : Mem) (B : Addr → Prop) (a : Addr) : Prop := B a ∨ At φ μ a
mutual
def RdV (K : PySem.W.Frag) (H : Hp) (L : Addr → Prop) (φ : List Addr) : D → V → Prop
  | .non, v => v = .non
  | .bl b, v => v = .bl b
  | .int i, v => v = .int i
  | .str x, v => v = .str x
  | .tup ds, v => ∃ a vs, v = .ref a ∧ SqT K H a vs ∧ RdL K H L φ ds vs
  | .lst ds, v => ∃ a vs, v = .ref a ∧ H a = some (.lst vs) ∧ ¬ L a ∧ RdL K H L φ ds vs
  | .fls ds, v => ∃ a vs, v = .ref a ∧ ((H a = some (.lst vs) ∧ ¬ L a) ∨ (∃ o, H a = some (.frz o (.lst vs))) ∨
      ∃ (o : Obj) (its : Array Value) (n : Nat), K.lookup a = some o ∧ o.cls = .type "list" ∧ o.dict = none ∧ o.data = .seq its n ∧ its.size ≤ sizeLine ∧ Vals vs its.toList) ∧ RdL K H L φ ds vs
  | .glo x, v => v = .ref (He.ga K x)
  | .cel n, v => ∃ a, φ[n]? = some a ∧ v = .ref a
  | .exc, v => v = .ref Lams.exa
def RdL (K : PySem.W.Frag) (H : Hp) (L : Addr → Prop) (φ : List Addr) : List D → List V → Prop
  | [], vs => vs = []
  | d :: ds, vs => ∃ w ws, vs = w :: ws ∧ RdV K H L φ d w ∧ RdL K H L φ ds ws
end
def CellOk (K : PySem.W.Frag) (H : Hp) (L : Addr → Prop) (φ : List Addr) (a : Addr) : Cell → Prop
  | .lst ds => ∃ vs, H a = some (.lst vs) ∧ RdL K H L φ ds vs
structure MemOk (K : PySem.W.Frag) (H : Hp) (φ : List Addr) (μ : Mem) (B : Addr → Prop) : Prop where
  len : φ.length = μ.length
  inj : ∀ (i j : Nat) (a : Addr) (c c' : Cell), μ[i]? = some (some c) → μ[j]? = some (some c') → φ[i]? = some a → φ[j]? = some a → i = j
  cell : ∀ (i : Nat) (c : Cell) (a : Addr), μ[i]? = some (some c) → φ[i]? = some a → CellOk K H (Live φ μ B) φ a c ∧ ¬ B a
  bt : ∀ a, B a → ∃ o, H a = some o ∧ NT o
  tabs : LamX.Tabs (lamT K) H
structure Ext (H : Hp) (φ : List Addr) (μ : Mem) (H' : Hp) (φ' : List Addr) (μ' : Mem) : Prop where
  pre : ∃ l, φ' = φ ++ l
  dead : ∀ i : Nat, i < φ.length → μ[i]? = some none → μ'[i]? = some none
  fresh : ∀ (i : Nat) (a : Addr) (o : HO), φ.length ≤ i → φ'[i]? = some a → H a = some o → ¬ NT o
  keep : ∀ a o, H a = some o → NT o → ¬ At φ μ a → H' a = some o
  there : ∀ a o, H a = some o → NT o → ∃ o', H' a = some o' ∧ NT o'
  tup : ∀ a xs, H a = some (.tup xs) → H' a = some (.tup xs)
  frz : ∀ a o u, H a = some (.frz o u) → H' a = some (.frz o u)
section
variable {K : PySem.W.Frag} {H H1 H2 H' : Hp} {φ φ1 φ2 φ' : List Addr} {μ μ1 μ2 μ' : Mem} {B B' : Addr → Prop} {d : D} {v : V} {ds : List D} {vs : List V}
theorem Ext.refl : Ext H φ μ H φ μ := ⟨⟨[], by simp⟩, fun _ _ h => h, fun i a o h1 h2 => (by rw [List.getElem?_eq_none h1] at h2; cases h2), fun _ _ h _ _ => h, fun _ o h n => ⟨o, h, n⟩, fun _ _ h => h, fun _ _ _ h => h⟩
/-- a thing of the later heap that may change, and stood before, could change before -/
theorem Ext.back (e : Ext H φ μ H' φ' μ') (hl : φ.length = μ.length) {a : Addr} {o : HO} (h : H a = some o) (nt : NT o) (l : At φ' μ' a) : At φ μ a := by
  obtain ⟨i, c, h1, h2⟩ := l
  by_cases hi : i < φ.length
  · obtain ⟨l, hp⟩ := e.pre
    have q : φ[i]? = some a := by rw [hp, List.getElem?_append_left hi] at h2; exact h2
    have hm : i < μ.length := by omega
    cases z : μ[i]? with
    | none => rw [List.getElem?_eq_none_iff] at z; omega
    | some y =>
      cases y with
      | none => rw [e.dead i hi z] at h1; cases h1
      | some c' => exact ⟨i, c', z, q⟩
  · exact absurd nt (e.fresh i a o (by omega) h2 h)
theorem Ext.nlive (e : Ext H φ μ H' φ' μ') (hl : φ.length = μ.length) (hB : ∀ a, B' a → B a ∨ H a = none) {a : Addr} {o : HO} (h : H a = some o) (nt : NT o) (n : ¬ Live φ μ B a) : ¬ Live φ' μ' B' a := fun l =>
  n (l.elim (fun l => .inl ((hB a l).elim id fun z => by rw [h] at z; cases z)) fun l => .inr (e.back hl h nt l))
theorem Ext.trans (e : Ext H φ μ H1 φ1 μ1) (hl : φ.length = μ.length) (f : Ext H1 φ1 μ1 H2 φ2 μ2) : Ext H φ μ H2 φ2 μ2 := by
  obtain ⟨l1, p1⟩ := e.pre
  obtain ⟨l2, p2⟩ := f.pre
  have le : φ.length ≤ φ1.length := by rw [p1, List.length_append]; omega
  refine ⟨⟨l1 ++ l2, by rw [p2, p1, List.append_assoc]⟩, fun i hi h => f.dead i (by omega) (e.dead i hi h), fun i a o hi h ho nt => ?_, fun a o h nt n => ?_, fun a o h nt => ?_, fun a xs h => f.tup a xs (e.tup a xs h), fun a o u h => f.frz a o u (e.frz a o u h)⟩
  · by_cases h1 : i < φ1.length
    · rw [p2, List.getElem?_append_left h1] at h
      exact e.fresh i a o hi h ho nt
    · obtain ⟨o', q, nt'⟩ := e.there a o ho nt
      exact f.fresh i a o' (by omega) h q nt'
  · exact f.keep a o (e.keep a o h nt n) nt fun l => n (e.back hl h nt l)
  · obtain ⟨o', q, nt'⟩ := e.there a o h nt
    exact f.there a o' q nt'
mutual
theorem RdV.monoB (e : Ext H φ μ H' φ' μ') (hl : φ.length = μ.length) (hB : ∀ a, B' a → B a ∨ H a = none) : ∀ {d : D} {v : V}, RdV K H (Live φ μ B) φ d v → RdV K H' (Live φ' μ' B') φ' d v
  | .non, _, h => h
  | .bl _, _, h => h
  | .int _, _, h => h
  | .str _, _, h => h
  | .tup ds, v, h => by
    simp only [RdV] at h ⊢
    obtain ⟨a, vs, e1, h1, h2⟩ := h
    refine ⟨a, vs, e1, ?_, RdL.monoB e hl hB h2⟩
    rcases h1 with (h1 | ⟨o, h1⟩) | h1
    · exact .inl (.inl (e.tup a vs h1))
    · exact .inl (.inr ⟨o, e.frz a o _ h1⟩)
    · exact .inr h1
  | .lst ds, v, h => by
    simp only [RdV] at h ⊢
    obtain ⟨a, vs, e1, h1, h2, h3⟩ := h
    exact ⟨a, vs, e1, e.keep a _ h1 nt_lst fun l => h2 (.inr l), e.nlive hl hB h1 nt_lst h2, RdL.monoB e hl hB h3⟩
  | .fls ds, v, h => by
    simp only [RdV] at h ⊢
    obtain ⟨a, vs, e1, h1, h3⟩ := h
    refine ⟨a, vs, e1, ?_, RdL.monoB e hl hB h3⟩
    rcases h1 with ⟨h1, h2⟩ | ⟨o, h1⟩ | h1
    · exact .inl ⟨e.keep a _ h1 nt_lst fun l => h2 (.inr l), e.nlive hl hB h1 nt_lst h2⟩
    · exact .inr (.inl ⟨o, e.frz a o _ h1⟩)
    · exact .inr (.inr h1)
  | .glo _, _, h => h
  | .exc, _, h => h
  | .cel n, v, h => by
    simp only [RdV] at h ⊢
    obtain ⟨a, h1, h2⟩ := h
    obtain ⟨l, p⟩ := e.pre
    exact ⟨a, by rw [p, List.getElem?_append_left (by have := (List.getElem?_eq_some_iff.mp h1).1; exact this)]; exact h1, h2⟩
theorem RdL.monoB (e : Ext H φ μ H' φ' μ') (hl : φ.length = μ.length) (hB : ∀ a, B' a → B a ∨ H a = none) : ∀ {ds : List D} {vs : List V}, RdL K H (Live φ μ B) φ ds vs → RdL K H' (Live φ' μ' B') φ' ds vs
  | [], _, h => h
  | d :: ds, vs, h => by
    simp only [RdL] at h ⊢
    obtain ⟨w, ws, e1, h1, h2⟩ := h
    exact ⟨w, ws, e1, RdV.monoB e hl hB h1, RdL.monoB e hl hB h2⟩
end
theorem RdV.mono (e : Ext H φ μ H' φ' μ') (hl : φ.length = μ.length) {d : D} {v : V} (h : RdV K H (Live φ μ B) φ d v) : RdV K H' (Live φ' μ' B) φ' d v := RdV.monoB e hl (fun _ h => .inl h) h
theorem RdL.mono (e : Ext H φ μ H' φ' μ') (hl : φ.length = μ.length) {ds : List D} {vs : List V} (h : RdL K H (Live φ μ B) φ ds vs) : RdL K H' (Live φ' μ' B) φ' ds vs := RdL.monoB e hl (fun _ h => .inl h) h
theorem CellOk.mono (e : Ext H φ μ H' φ' μ') (hl : φ.length = μ.length) {a : Addr} {c : Cell} (n : ¬ At φ μ a) (h : CellOk K H (Live φ μ B) φ a c) : CellOk K H' (Live φ' μ' B) φ' a c := by
  cases c with
  | lst ds =>
    obtain ⟨vs, h1, h2⟩ := h
    exact ⟨vs, e.keep a _ h1 nt_lst n, RdL.mono e hl h2⟩
theorem RdL.length : ∀ {ds : List D} {vs : List V} {L : Addr → Prop}, RdL K H L φ ds vs → ds.length = vs.length
  | [], _, _, h => by simp only [RdL] at h; subst h; rfl
  | d :: ds, _, _, h => by
    simp only [RdL] at h
    obtain ⟨w, ws, rfl, _, h2⟩ := h
    rw [List.length_cons, List.length_cons, RdL.length h2]
theorem RdL.get : ∀ {ds : List D} {vs : List V} {L : Addr → Prop} {i : Nat} {d : D}, RdL K H L φ ds vs → ds[i]? = some d → ∃ v, vs[i]? = some v ∧ RdV K H L φ d v
  | [], _, _, _, _, _, e => by simp at e
  | x :: xs, _, _, i, d, h, e => by
    simp only [RdL] at h
    obtain ⟨w, ws, rfl, h1, h2⟩ := h
    cases i with
    | zero => simp at e; subst e; exact ⟨w, rfl, h1⟩
    | succ i =>
      obtain ⟨v, h3, h4⟩ := RdL.get h2 (by simpa using e)
      exact ⟨v, by simpa using h3, h4⟩
theorem RdL.append : ∀ {ds es : List D} {vs ws : List V} {L : Addr → Prop}, RdL K H L φ ds vs → RdL K H L φ es ws → RdL K H L φ (ds ++ es) (vs ++ ws)
  | [], _, _, _, _, h, q => by simp only [RdL] at h; subst h; exact q
  | d :: ds, _, _, _, _, h, q => by
    simp only [RdL] at h
    obtain ⟨w, ws, rfl, h1, h2⟩ := h
    rw [List.cons_append, List.cons_append]
    simp only [RdL]
    exact ⟨_, _, rfl, h1, RdL.append h2 q⟩
theorem RdL.take : ∀ {ds : List D} {vs : List V} {L : Addr → Prop} (n : Nat), RdL K H L φ ds vs → RdL K H L φ (ds.take n) (vs.take n)
  | [], _, _, _, h => by simp only [RdL] at h; subst h; simp [RdL]
  | d :: ds, _, _, 0, h => by simp [RdL]
  | d :: ds, _, _, n + 1, h => by
    simp only [RdL] at h
    obtain ⟨w, ws, rfl, h1, h2⟩ := h
    rw [List.take_succ_cons, List.take_succ_cons]
    simp only [RdL]
    exact ⟨_, _, rfl, h1, RdL.take n h2⟩
theorem RdL.drop : ∀ {ds : List D} {vs : List V} {L : Addr → Prop} (n : Nat), RdL K H L φ ds vs → RdL K H L φ (ds.drop n) (vs.drop n)
  | [], _, _, _, h => by simp only [RdL] at h; subst h; simp [RdL]
  | d :: ds, _, _, 0, h => by simpa using h
  | d :: ds, _, _, n + 1, h => by
    simp only [RdL] at h
    obtain ⟨w, ws, rfl, h1, h2⟩ := h
    rw [List.drop_succ_cons, List.drop_succ_cons]
    exact RdL.drop n h2
theorem RdL.set : ∀ {ds : List D} {vs : List V} {L : Addr → Prop} (n : Nat), RdL K H L φ ds vs → RdV K H L φ d v → RdL K H L φ (ds.set n d) (vs.set n v)
  | [], _, _, _, h, _ => by simp only [RdL] at h; subst h; simp [RdL]
  | x :: ds, _, _, 0, h, q => by
    simp only [RdL] at h
    obtain ⟨w, ws, rfl, h1, h2⟩ := h
    rw [List.set_cons_zero, List.set_cons_zero]
    simp only [RdL]
    exact ⟨_, _, rfl, q, h2⟩
  | x :: ds, _, _, n + 1, h, q => by
    simp only [RdL] at h
    obtain ⟨w, ws, rfl, h1, h2⟩ := h
    rw [List.set_cons_succ, List.set_cons_succ]
    simp only [RdL]
    exact ⟨_, _, rfl, h1, RdL.set n h2 q⟩
theorem RdL.rep {L : Addr → Prop} (h : RdL K H L φ ds vs) : ∀ k : Nat, RdL K H L φ (List.replicate k ds).flatten (List.replicate k vs).flatten
  | 0 => by simp [RdL]
  | k + 1 => by
    rw [List.replicate_succ, List.replicate_succ, List.flatten_cons, List.flatten_cons]
    exact h.append (RdL.rep h k)
theorem RdL.cons {L : Addr → Prop} (h : RdV K H L φ d v) (q : RdL K H L φ ds vs) : RdL K H L φ (d :: ds) (v :: vs) := by
  simp only [RdL]
  exact ⟨_, _, rfl, h, q⟩
theorem RdL.nil {L : Addr → Prop} : RdL K H L φ [] [] := by simp only [RdL]
/-- nothing but new things: all that is tracked stands -/
theorem Ext.grow (h : ∀ a o, H a = some o → H' a = some o) : Ext H φ μ H' φ μ :=
  ⟨⟨[], by simp⟩, fun _ _ h => h, fun i a o h1 h2 => (by rw [List.getElem?_eq_none h1] at h2; cases h2), fun a o q _ _ => h a o q, fun a o q nt => ⟨o, h a o q, nt⟩, fun a xs q => h a _ q, fun a o u q => h a _ q⟩
/-- nothing but new things, tables of code objects grown -/
theorem Ext.growN (h : LamX.ExtN H H') : Ext H φ μ H' φ μ :=
  ⟨⟨[], by simp⟩, fun _ _ h => h, fun i a o h1 h2 => (by rw [List.getElem?_eq_none h1] at h2; cases h2), fun a o q n _ => h a o q n, fun a o q nt => ⟨o, h a o q nt, nt⟩, fun a xs q => h a _ q nt_tup, fun a o u q => h a _ q nt_frz⟩
theorem MemOk.growN (m : MemOk K H φ μ B) (h : LamX.ExtN H H') (t : LamX.Tabs (lamT K) H') : MemOk K H' φ μ B := by
  have e : Ext H φ μ H' φ μ := Ext.growN h
  refine ⟨m.len, m.inj, fun i c a h1 h2 => ?_, fun a q => ?_, t⟩
  · obtain ⟨q, n⟩ := m.cell i c a h1 h2
    refine ⟨?_, n⟩
    cases c with
    | lst ds =>
      obtain ⟨vs, q1, q2⟩ := q
      exact ⟨vs, h a _ q1 nt_lst, RdL.mono e m.len q2⟩
  · obtain ⟨o, q1, q2⟩ := m.bt a q
    exact ⟨o, h a o q1 q2, q2⟩
theorem MemOk.grow (m : MemOk K H φ μ B) (h : ∀ a o, H a = some o → H' a = some o) : MemOk K H' φ μ B := m.growN (fun a o q _ => h a o q) (m.tabs.ext h)
/-- a list is changed: the tables stay -/
theorem tabs_upd {T : List (Addr × Str)} {a : Addr} {o : HO} {xs : List V} (hH : H a = some (.lst xs)) (t : LamX.Tabs T H) : LamX.Tabs T (upd H a o) := fun p hp => by
  obtain ⟨ps, h1, h2, h3⟩ := t p hp
  refine ⟨ps, by rw [upd_ne (fun z => by rw [z, hH] at h1; cases h1)]; exact h1, h2, fun pos cv hc => ?_⟩
  obtain ⟨c, e1, e2⟩ := h3 pos cv hc
  refine ⟨c, e1, ?_⟩
  rw [upd_ne (fun z => by rw [z, hH] at e2; unfold LamX.CodeO at e2; cases e2)]
  exact e2
theorem upd_keep {p : Addr} {o : HO} (hp : H p = none) : ∀ a u, H a = some u → upd H p o a = some u := fun a u h => by
  rw [upd_ne (ne_of_none h hp)]; exact h
end

/-! ### the names' values -/
structure Abs (K : PySem.W.Frag) (H : Hp) (σ : L2.St) (φ : List Addr) (ρ : DEnv) (μ : Mem) (B : Addr → Prop) : Prop where
  mem : MemOk K H φ μ B
  len : ρ.length = σ.length
  env : ∀ (i : Nat) (d : D), ρ[i]? = some (some d) → ∃ v, σ[i]? = some (some v) ∧ RdV K H (Live φ μ B) φ d v
/-- what lies of an exception -/
def ExnV (K : PySem.W.Frag) (x : Exn) (cls : Value) (dx : Option Addr) (H : Hp) : Prop := cls = .ref (He.ga K x.cls) ∧ (x.flds = [] → dx = none)
section
variable (K : PySem.W.Frag) (W : XK) (B : Addr → Prop)
def DenV (H : Hp) (φ : List Addr) (μ : Mem) (r : R D) (Q : VK) : Prop := match r with
  | .ok d μ' => ∀ v H' φ', Ext H φ μ H' φ' μ' → MemOk K H' φ' μ' B → RdV K H' (Live φ' μ' B) φ' d v → Q v H'
  | .er x μ' => ∀ H' φ', Ext H φ μ H' φ' μ' → MemOk K H' φ' μ' B → ∀ cls dx, ExnV K x cls dx H' → W cls dx H'
  | .no => False
def DenB (H : Hp) (φ : List Addr) (μ : Mem) (r : R Bool) (Q : Bool → Hp → Prop) : Prop := match r with
  | .ok b μ' => ∀ H' φ', Ext H φ μ H' φ' μ' → MemOk K H' φ' μ' B → Q b H'
  | .er x μ' => ∀ H' φ', Ext H φ μ H' φ' μ' → MemOk K H' φ' μ' B → ∀ cls dx, ExnV K x cls dx H' → W cls dx H'
  | .no => False
def DenU (H : Hp) (φ : List Addr) (μ : Mem) (r : R Unit) (Q : Hp → Prop) : Prop := match r with
  | .ok _ μ' => ∀ H' φ', Ext H φ μ H' φ' μ' → MemOk K H' φ' μ' B → Q H'
  | .er x μ' => ∀ H' φ', Ext H φ μ H' φ' μ' → MemOk K H' φ' μ' B → ∀ cls dx, ExnV K x cls dx H' → W cls dx H'
  | .no => False
def DenF (H : Hp) (φ : List Addr) (μ : Mem) (r : R Fl) (Dn : Ends) : Prop := match r with
  | .ok (.nx ρ) μ' => ∀ σ' H' φ', Ext H φ μ H' φ' μ' → Abs K H' σ' φ' ρ μ' B → Dn.nx σ' H'
  | .ok (.bk ρ) μ' => ∀ σ' H' φ', Ext H φ μ H' φ' μ' → Abs K H' σ' φ' ρ μ' B → Dn.bk σ' H'
  | .ok (.ct ρ) μ' => ∀ σ' H' φ', Ext H φ μ H' φ' μ' → Abs K H' σ' φ' ρ μ' B → Dn.ct σ' H'
  | .ok (.rt d) μ' => ∀ v H' φ', Ext H φ μ H' φ' μ' → MemOk K H' φ' μ' B → RdV K H' (Live φ' μ' B) φ' d v → Dn.rt v H'
  | .er x μ' => ∀ H' φ', Ext H φ μ H' φ' μ' → MemOk K H' φ' μ' B → ∀ cls dx, ExnV K x cls dx H' → W cls dx H'
  | .no => False
end
section
variable {K : PySem.W.Frag} {W : XK} {B : Addr → Prop} {H H1 H' : Hp} {φ φ1 φ' : List Addr} {μ μ1 μ' : Mem} {σ : L2.St} {ρ : DEnv}
theorem Abs.ext (a : Abs K H σ φ ρ μ B) (e : Ext H φ μ H' φ' μ') (m : MemOk K H' φ' μ' B) : Abs K H' σ φ' ρ μ' B :=
  ⟨m, a.len, fun i d h => let ⟨v, h1, h2⟩ := a.env i d h; ⟨v, h1, RdV.mono e a.mem.len h2⟩⟩
theorem Abs.set (a : Abs K H σ φ ρ μ B) {i : Nat} {d : D} {v : V} (r : RdV K H (Live φ μ B) φ d v) : Abs K H (σ.set i (some v)) φ (ρ.set i (some d)) μ B := by
  refine ⟨a.mem, by simpa using a.len, fun j e h => ?_⟩
  by_cases hj : i = j
  · subst hj
    have hl : i < ρ.length := by
      have q := (List.getElem?_eq_some_iff.mp h).1
      simpa using q
    rw [List.getElem?_set_self hl] at h
    cases h
    exact ⟨v, by rw [List.getElem?_set_self (by rw [← a.len]; exact hl)], r⟩
  · rw [List.getElem?_set_ne hj] at h
    obtain ⟨w, h1, h2⟩ := a.env j e h
    exact ⟨w, by rw [List.getElem?_set_ne hj]; exact h1, h2⟩
theorem wipeD_length (ρ : DEnv) : ∀ vs : List Nat, (wipeD ρ vs).length = ρ.length
  | [] => rfl
  | v :: vs => by unfold wipeD; rw [List.length_set, wipeD_length ρ vs]
theorem wipe_both {ρ : DEnv} {σ : L2.St} : ∀ {vs : List Nat} {i : Nat} {d : D}, (wipeD ρ vs)[i]? = some (some d) → ρ[i]? = some (some d) ∧ ∀ v, σ[i]? = some (some v) → (L2.wipe σ vs)[i]? = some (some v)
  | [], _, _, h => ⟨h, fun _ q => q⟩
  | v :: vs, i, d, h => by
    unfold wipeD at h
    by_cases hi : v = i
    · subst hi
      by_cases hv : v < (wipeD ρ vs).length
      · rw [List.getElem?_set_self hv] at h; cases h
      · rw [List.getElem?_eq_none (by simpa using hv)] at h; cases h
    · rw [List.getElem?_set_ne hi] at h
      obtain ⟨h1, h2⟩ := wipe_both (σ := σ) h
      refine ⟨h1, fun w q => ?_⟩
      unfold L2.wipe
      rw [List.getElem?_set_ne hi]
      exact h2 w q
theorem Abs.wiped (a : Abs K H σ φ ρ μ B) (vs : List Nat) : Abs K H (L2.wipe σ vs) φ (wipeD ρ vs) μ B :=
  ⟨a.mem, by rw [wipeD_length, L2.wipe_length]; exact a.len, fun i d h => by
    obtain ⟨h1, h2⟩ := wipe_both (σ := σ) h
    obtain ⟨v, q1, q2⟩ := a.env i d h1
    exact ⟨v, h2 v q1, q2⟩⟩
theorem DenV.shift (e : Ext H φ μ H1 φ1 μ1) (hl : φ.length = μ.length) {r : R D} {Q : VK} (h : DenV K W B H φ μ r Q) : DenV K W B H1 φ1 μ1 r Q := by
  cases r with
  | ok d m => exact fun v H' φ' f m' rd => h v H' φ' (e.trans hl f) m' rd
  | er x m => exact fun H' φ' f m' cls dx q => h H' φ' (e.trans hl f) m' cls dx q
  | no => exact h
theorem DenB.shift (e : Ext H φ μ H1 φ1 μ1) (hl : φ.length = μ.length) {r : R Bool} {Q : Bool → Hp → Prop} (h : DenB K W B H φ μ r Q) : DenB K W B H1 φ1 μ1 r Q := by
  cases r with
  | ok d m => exact fun H' φ' f m' => h H' φ' (e.trans hl f) m'
  | er x m => exact fun H' φ' f m' cls dx q => h H' φ' (e.trans hl f) m' cls dx q
  | no => exact h
theorem DenU.shift (e : Ext H φ μ H1 φ1 μ1) (hl : φ.length = μ.length) {r : R Unit} {Q : Hp → Prop} (h : DenU K W B H φ μ r Q) : DenU K W B H1 φ1 μ1 r Q := by
  cases r with
  | ok d m => exact fun H' φ' f m' => h H' φ' (e.trans hl f) m'
  | er x m => exact fun H' φ' f m' cls dx q => h H' φ' (e.trans hl f) m' cls dx q
  | no => exact h
theorem DenF.shift (e : Ext H φ μ H1 φ1 μ1) (hl : φ.length = μ.length) {r : R Fl} {Dn : Ends} (h : DenF K W B H φ μ r Dn) : DenF K W B H1 φ1 μ1 r Dn := by
  cases r with
  | ok f m =>
    cases f with
    | nx ρ => exact fun σ' H' φ' f a => h σ' H' φ' (e.trans hl f) a
    | bk ρ => exact fun σ' H' φ' f a => h σ' H' φ' (e.trans hl f) a
    | ct ρ => exact fun σ' H' φ' f a => h σ' H' φ' (e.trans hl f) a
    | rt d => exact fun v H' φ' f m' rd => h v H' φ' (e.trans hl f) m' rd
  | er x m => exact fun H' φ' f m' cls dx q => h H' φ' (e.trans hl f) m' cls dx q
  | no => exact h
/-- behind a value: what goes on, at the later state -/
theorem DenV.imp {r : R D} {Q Q' : VK} (h : DenV K W B H φ μ r Q) (f : ∀ v H1, Q v H1 → Q' v H1) : DenV K W B H φ μ r Q' := by
  cases r with
  | ok d m => exact fun v H' φ' e m' rd => f _ _ (h v H' φ' e m' rd)
  | er x m => exact h
  | no => exact h
theorem DenV.bindV (hl : φ.length = μ.length) {r : R D} {f : D → Mem → R D} {Q : VK} (h : DenV K W B H φ μ (r.bind f) Q) :
    DenV K W B H φ μ r (fun v H1 => ∃ φ1 μ1 d, Ext H φ μ H1 φ1 μ1 ∧ MemOk K H1 φ1 μ1 B ∧ RdV K H1 (Live φ1 μ1 B) φ1 d v ∧ DenV K W B H1 φ1 μ1 (f d μ1) Q) := by
  cases r with
  | ok d m => exact fun v H' φ' e m' rd => ⟨φ', m, d, e, m', rd, DenV.shift e hl h⟩
  | er x m => exact h
  | no => exact h
theorem DenB.bindV (hl : φ.length = μ.length) {r : R D} {f : D → Mem → R Bool} {Q : Bool → Hp → Prop} (h : DenB K W B H φ μ (r.bind f) Q) :
    DenV K W B H φ μ r (fun v H1 => ∃ φ1 μ1 d, Ext H φ μ H1 φ1 μ1 ∧ MemOk K H1 φ1 μ1 B ∧ RdV K H1 (Live φ1 μ1 B) φ1 d v ∧ DenB K W B H1 φ1 μ1 (f d μ1) Q) := by
  cases r with
  | ok d m => exact fun v H' φ' e m' rd => ⟨φ', m, d, e, m', rd, DenB.shift e hl h⟩
  | er x m => exact h
  | no => exact h
theorem DenU.bindV (hl : φ.length = μ.length) {r : R D} {f : D → Mem → R Unit} {Q : Hp → Prop} (h : DenU K W B H φ μ (r.bind f) Q) :
    DenV K W B H φ μ r (fun v H1 => ∃ φ1 μ1 d, Ext H φ μ H1 φ1 μ1 ∧ MemOk K H1 φ1 μ1 B ∧ RdV K H1 (Live φ1 μ1 B) φ1 d v ∧ DenU K W B H1 φ1 μ1 (f d μ1) Q) := by
  cases r with
  | ok d m => exact fun v H' φ' e m' rd => ⟨φ', m, d, e, m', rd, DenU.shift e hl h⟩
  | er x m => exact h
  | no => exact h
theorem DenF.bindV (hl : φ.length = μ.length) {r : R D} {f : D → Mem → R Fl} {Dn : Ends} (h : DenF K W B H φ μ (r.bind f) Dn) :
    DenV K W B H φ μ r (fun v H1 => ∃ φ1 μ1 d, Ext H φ μ H1 φ1 μ1 ∧ MemOk K H1 φ1 μ1 B ∧ RdV K H1 (Live φ1 μ1 B) φ1 d v ∧ DenF K W B H1 φ1 μ1 (f d μ1) Dn) := by
  cases r with
  | ok d m => exact fun v H' φ' e m' rd => ⟨φ', m, d, e, m', rd, DenF.shift e hl h⟩
  | er x m => exact h
  | no => exact h
theorem DenV.bindB (hl : φ.length = μ.length) {r : R Bool} {f : Bool → Mem → R D} {Q : VK} (h : DenV K W B H φ μ (r.bind f) Q) :
    DenB K W B H φ μ r (fun b H1 => ∃ φ1 μ1, Ext H φ μ H1 φ1 μ1 ∧ MemOk K H1 φ1 μ1 B ∧ DenV K W B H1 φ1 μ1 (f b μ1) Q) := by
  cases r with
  | ok d m => exact fun H' φ' e m' => ⟨φ', m, e, m', DenV.shift e hl h⟩
  | er x m => exact h
  | no => exact h
theorem DenB.bindB (hl : φ.length = μ.length) {r : R Bool} {f : Bool → Mem → R Bool} {Q : Bool → Hp → Prop} (h : DenB K W B H φ μ (r.bind f) Q) :
    DenB K W B H φ μ r (fun b H1 => ∃ φ1 μ1, Ext H φ μ H1 φ1 μ1 ∧ MemOk K H1 φ1 μ1 B ∧ DenB K W B H1 φ1 μ1 (f b μ1) Q) := by
  cases r with
  | ok d m => exact fun H' φ' e m' => ⟨φ', m, e, m', DenB.shift e hl h⟩
  | er x m => exact h
  | no => exact h
theorem DenF.bindB (hl : φ.length = μ.length) {r : R Bool} {f : Bool → Mem → R Fl} {Dn : Ends} (h : DenF K W B H φ μ (r.bind f) Dn) :
    DenB K W B H φ μ r (fun b H1 => ∃ φ1 μ1, Ext H φ μ H1 φ1 μ1 ∧ MemOk K H1 φ1 μ1 B ∧ DenF K W B H1 φ1 μ1 (f b μ1) Dn) := by
  cases r with
  | ok d m => exact fun H' φ' e m' => ⟨φ', m, e, m', DenF.shift e hl h⟩
  | er x m => exact h
  | no => exact h
theorem DenF.bindU (hl : φ.length = μ.length) {r : R Unit} {f : Unit → Mem → R Fl} {Dn : Ends} (h : DenF K W B H φ μ (r.bind f) Dn) :
    DenU K W B H φ μ r (fun H1 => ∃ φ1 μ1, Ext H φ μ H1 φ1 μ1 ∧ MemOk K H1 φ1 μ1 B ∧ DenF K W B H1 φ1 μ1 (f () μ1) Dn) := by
  cases r with
  | ok d m => exact fun H' φ' e m' => ⟨φ', m, e, m', DenF.shift e hl h⟩
  | er x m => exact h
  | no => exact h
theorem DenB.imp {r : R Bool} {Q Q' : Bool → Hp → Prop} (h : DenB K W B H φ μ r Q) (f : ∀ v H1, Q v H1 → Q' v H1) : DenB K W B H φ μ r Q' := by
  cases r with
  | ok d m => exact fun H' φ' e m' => f _ _ (h H' φ' e m')
  | er x m => exact h
  | no => exact h
/-- it is there: nothing changed -/
theorem DenV.here (m : MemOk K H φ μ B) {d : D} {v : V} {Q : VK} (h : DenV K W B H φ μ (.ok d μ) Q) (r : RdV K H (Live φ μ B) φ d v) : Q v H := h v H φ .refl m r
/-- something new has been laid -/
theorem DenV.new (m : MemOk K H φ μ B) {d : D} {v : V} {Q : VK} (h : DenV K W B H φ μ (.ok d μ) Q) {p : Addr} {o : HO} (hp : H p = none) (r : RdV K (upd H p o) (Live φ μ B) φ d v) : Q v (upd H p o) :=
  h v _ φ (.grow (upd_keep hp)) (m.grow (upd_keep hp)) r
theorem MemOk.nlive (m : MemOk K H φ μ B) {p : Addr} (hp : H p = none) : ¬ Live φ μ B p := fun l => by
  rcases l with l | ⟨i, c, h1, h2⟩
  · obtain ⟨o, q, _⟩ := m.bt p l
    rw [hp] at q; cases q
  · obtain ⟨q, _⟩ := m.cell i c p h1 h2
    cases c with
    | lst ds =>
      obtain ⟨vs, e, _⟩ := q
      rw [hp] at e; cases e
end
end Den

/-! Den3: each operation of the interpreter stands over the hand layer's rule. -/
namespace Den
open PySem PySem.Spec PyProof.Rows L2
variable [Lams]

theorem fits_iff {n : Nat} : fits n = true ↔ n ≤ sizeLine := by unfold fits; rw [sizeLine_eq]; simp
section
variable {K : PySem.W.Frag} {W : XK} {B : Addr → Prop} {H H1 H' : Hp} {φ φ1 φ' : List Addr} {μ μ1 μ' : Mem} {L : Addr → Prop} {d e : D} {v w : V} {ds es : List D} {vs ws : List V}
theorem rdV_int {i : Int} (h : RdV K H L φ (.int i) v) : v = .int i := by simpa only [RdV] using h
theorem rdV_str {i : Str} (h : RdV K H L φ (.str i) v) : v = .str i := by simpa only [RdV] using h
theorem rdV_bl {i : Bool} (h : RdV K H L φ (.bl i) v) : v = .bl i := by simpa only [RdV] using h
theorem rdV_non (h : RdV K H L φ .non v) : v = .non := by simpa only [RdV] using h
theorem rdV_tup (h : RdV K H L φ (.tup ds) v) : ∃ a vs, v = .ref a ∧ SqT K H a vs ∧ RdL K H L φ ds vs := by simpa only [RdV] using h
theorem rdV_lst (h : RdV K H L φ (.lst ds) v) : ∃ a vs, v = .ref a ∧ H a = some (.lst vs) ∧ ¬ L a ∧ RdL K H L φ ds vs := by simpa only [RdV] using h
theorem rd_int {i : Int} : RdV K H L φ (.int i) (.int i) := by simp only [RdV]
theorem rd_bl {i : Bool} : RdV K H L φ (.bl i) (.bl i) := by simp only [RdV]
theorem rd_str {i : Str} : RdV K H L φ (.str i) (.str i) := by simp only [RdV]
theorem rd_non : RdV K H L φ .non .non := by simp only [RdV]
/-- a list to be read -/
theorem asLst_rd (m : MemOk K H φ μ B) (h : RdV K H (Live φ μ B) φ d v) (q : asLst μ d = some ds) : ∃ a vs, v = .ref a ∧ H a = some (.lst vs) ∧ RdL K H (Live φ μ B) φ ds vs := by
  cases d with
  | lst xs =>
    simp only [asLst, Option.some.injEq] at q
    subst q
    obtain ⟨a, vs, e, h1, _, h2⟩ := rdV_lst h
    exact ⟨a, vs, e, h1, h2⟩
  | cel n =>
    simp only [RdV] at h
    obtain ⟨a, h1, rfl⟩ := h
    simp only [asLst] at q
    split at q
    · rename_i xs hx
      cases q
      obtain ⟨⟨vs, e1, e2⟩, _⟩ := m.cell n _ a hx h1
      exact ⟨a, vs, rfl, e1, e2⟩
    · cases q
  | _ => simp [asLst] at q
theorem asSeq_rd (m : MemOk K H φ μ B) (h : RdV K H (Live φ μ B) φ d v) (q : asSeq μ d = some ds) : ∃ a vs, v = .ref a ∧ (SqL K H a vs ∨ SqT K H a vs) ∧ RdL K H (Live φ μ B) φ ds vs := by
  cases d with
  | tup xs =>
    simp only [asSeq, Option.some.injEq] at q
    subst q
    obtain ⟨a, vs, e, h1, h2⟩ := rdV_tup h
    exact ⟨a, vs, e, .inr h1, h2⟩
  | _ =>
    obtain ⟨a, vs, e, h1, h2⟩ := asLst_rd m h (by simpa only [asSeq] using q)
    exact ⟨a, vs, e, .inl (.of h1), h2⟩
/-- a new list, a new tuple -/
theorem rd_newL (m : MemOk K H φ μ B) {p : Addr} (hp : H p = none) (h : RdL K H (Live φ μ B) φ ds vs) : RdV K (upd H p (.lst vs)) (Live φ μ B) φ (.lst ds) (.ref p) := by
  simp only [RdV]
  exact ⟨p, vs, rfl, upd_same, m.nlive hp, RdL.mono (.grow (upd_keep hp)) m.len h⟩
theorem rd_newT (m : MemOk K H φ μ B) {p : Addr} (hp : H p = none) (h : RdL K H (Live φ μ B) φ ds vs) : RdV K (upd H p (.tup vs)) (Live φ μ B) φ (.tup ds) (.ref p) := by
  simp only [RdV]
  exact ⟨p, vs, rfl, .of upd_same, RdL.mono (.grow (upd_keep hp)) m.len h⟩
theorem intsOf_rd : ∀ {ds : List D} {vs : List V} {ns : List Int}, RdL K H L φ ds vs → intsOf ds = some ns → vs = ns.map V.int
  | [], vs, ns, h, q => by simp only [RdL] at h; simp only [intsOf, Option.some.injEq] at q; subst h; subst q; rfl
  | .int i :: ds, vs, ns, h, q => by
    simp only [RdL] at h
    obtain ⟨w, ws, rfl, h1, h2⟩ := h
    simp only [intsOf, Option.map_eq_some_iff] at q
    obtain ⟨r, q1, rfl⟩ := q
    rw [rdV_int h1, intsOf_rd h2 q1, List.map_cons]
  | .non :: _, _, _, _, q | .bl _ :: _, _, _, _, q | .str _ :: _, _, _, _, q | .tup _ :: _, _, _, _, q | .lst _ :: _, _, _, _, q | .fls _ :: _, _, _, _, q | .glo _ :: _, _, _, _, q | .cel _ :: _, _, _, _, q => by simp [intsOf] at q
theorem blsOf_rd : ∀ {ds : List D} {vs : List V} {ns : List Bool}, RdL K H L φ ds vs → blsOf ds = some ns → vs = ns.map V.bl
  | [], vs, ns, h, q => by simp only [RdL] at h; simp only [blsOf, Option.some.injEq] at q; subst h; subst q; rfl
  | .bl i :: ds, vs, ns, h, q => by
    simp only [RdL] at h
    obtain ⟨w, ws, rfl, h1, h2⟩ := h
    simp only [blsOf, Option.map_eq_some_iff] at q
    obtain ⟨r, q1, rfl⟩ := q
    rw [rdV_bl h1, blsOf_rd h2 q1, List.map_cons]
  | .non :: _, _, _, _, q | .int _ :: _, _, _, _, q | .str _ :: _, _, _, _, q | .tup _ :: _, _, _, _, q | .lst _ :: _, _, _, _, q | .fls _ :: _, _, _, _, q | .glo _ :: _, _, _, _, q | .cel _ :: _, _, _, _, q => by simp [blsOf] at q
mutual
theorem py_rd : ∀ {d : D} {v : V} {p : PyData}, RdV K H L φ d v → d.py = some p → Dp K H v p
  | .non, v, p, h, q => by simp only [D.py, Option.some.injEq] at q; subst q; rw [rdV_non h]; exact .non
  | .bl b, v, p, h, q => by simp only [D.py, Option.some.injEq] at q; subst q; rw [rdV_bl h]; exact .bl b
  | .int i, v, p, h, q => by simp only [D.py, Option.some.injEq] at q; subst q; rw [rdV_int h]; exact .int i
  | .str x, v, p, h, q => by simp only [D.py, Option.some.injEq] at q; subst q; rw [rdV_str h]; exact .str x
  | .tup ds, v, p, h, q => by
    simp only [D.py, Option.map_eq_some_iff] at q
    obtain ⟨ps, q1, rfl⟩ := q
    obtain ⟨a, vs, rfl, h1, h2⟩ := rdV_tup h
    exact .tup h1 (pys_rd h2 q1)
  | .lst ds, v, p, h, q => by
    simp only [D.py, Option.map_eq_some_iff] at q
    obtain ⟨ps, q1, rfl⟩ := q
    obtain ⟨a, vs, rfl, h1, _, h2⟩ := rdV_lst h
    exact .lst (.of h1) (pys_rd h2 q1)
  | .fls _, _, _, _, q => by simp [D.py] at q
  | .glo _, _, _, _, q => by simp [D.py] at q
  | .cel _, _, _, _, q => by simp [D.py] at q
theorem pys_rd : ∀ {ds : List D} {vs : List V} {ps : List PyData}, RdL K H L φ ds vs → pys ds = some ps → DpAll K H vs ps
  | [], vs, ps, h, q => by simp only [RdL] at h; simp only [pys, Option.some.injEq] at q; subst h; subst q; exact .nil
  | d :: ds, vs, ps, h, q => by
    simp only [RdL] at h
    obtain ⟨w, ws, rfl, h1, h2⟩ := h
    simp only [pys] at q
    cases e1 : d.py with
    | none => simp [e1] at q
    | some a =>
      cases e2 : pys ds with
      | none => simp [e1, e2] at q
      | some b =>
        simp only [e1, e2, Option.some.injEq] at q
        subst q
        exact .cons (py_rd h1 e1) (pys_rd h2 e2)
end
theorem pyM_rd (m : MemOk K H φ μ B) {p : PyData} (h : RdV K H (Live φ μ B) φ d v) (q : pyM μ d = some p) : Dp K H v p := by
  cases d with
  | cel n =>
    have q' : (asLst μ (.cel n)).bind (fun xs => (pys xs).map .list) = some p := by
      simp only [pyM] at q
      simp only [asLst]
      split at q
      · rename_i xs hx
        simp only [hx, Option.bind_some]
        exact q
      · cases q
    cases e : asLst μ (.cel n) with
    | none => rw [e] at q'; cases q'
    | some xs =>
      rw [e] at q'
      simp only [Option.bind_some, Option.map_eq_some_iff] at q'
      obtain ⟨ps, q1, rfl⟩ := q'
      obtain ⟨a, vs, rfl, h1, h2⟩ := asLst_rd m h e
      exact .lst (.of h1) (pys_rd h2 q1)
  | _ => exact py_rd h (by simpa only [pyM] using q)
/-! flat values -/
def toV : D → V
  | .non => .non
  | .bl b => .bl b
  | .int i => .int i
  | .str x => .str x
  | _ => .non
theorem flat_rd (f : flat d = true) (h : RdV K H L φ d v) : v = toV d ∧ flatV (toV d) = true := by
  cases d with
  | non => exact ⟨rdV_non h, rfl⟩
  | bl b => exact ⟨rdV_bl h, rfl⟩
  | int i => exact ⟨rdV_int h, rfl⟩
  | str x => exact ⟨rdV_str h, rfl⟩
  | _ => simp [flat] at f
theorem eqF_toV (f : flat d = true) (g : flat e = true) : eqV (toV d) (toV e) = eqF d e := by
  cases d <;> cases e <;> first | rfl | (exfalso; simp [flat] at f; done) | (exfalso; simp [flat] at g; done)
theorem flats_rd : ∀ {ds : List D} {vs : List V}, ds.all flat = true → RdL K H L φ ds vs → vs = ds.map toV ∧ vs.all flatV = true
  | [], vs, _, h => by simp only [RdL] at h; subst h; exact ⟨rfl, rfl⟩
  | d :: ds, vs, f, h => by
    simp only [RdL] at h
    obtain ⟨w, ws, rfl, h1, h2⟩ := h
    rw [List.all_cons, Bool.and_eq_true] at f
    obtain ⟨e1, e2⟩ := flat_rd f.1 h1
    obtain ⟨e3, e4⟩ := flats_rd f.2 h2
    subst e1; subst e3
    exact ⟨rfl, by rw [List.all_cons, e2, e4]; rfl⟩
theorem inV_toV (f : flat e = true) : ∀ {ds : List D}, ds.all flat = true → inV (toV e) (ds.map toV) = ds.any fun z => eqF z e
  | [], _ => rfl
  | d :: ds, g => by
    rw [List.all_cons, Bool.and_eq_true] at g
    have ih := inV_toV f g.2
    unfold inV at ih ⊢
    rw [List.map_cons, List.any_cons, List.any_cons, eqF_toV g.1 f, ih]
end

/-! ### readings by plain functions -/
def rD2 (K : PySem.W.Frag) (W : XK) (f : D → D → Mem → R D) : R2 := fun x y H Q => ∃ B φ μ d e, MemOk K H φ μ B ∧ RdV K H (Live φ μ B) φ d x ∧ RdV K H (Live φ μ B) φ e y ∧ DenV K W B H φ μ (f d e μ) Q
def rDL (K : PySem.W.Frag) (W : XK) (f : List D → Mem → R D) : List V → Hp → VK → Prop := fun xs H Q => ∃ B φ μ ds, MemOk K H φ μ B ∧ RdL K H (Live φ μ B) φ ds xs ∧ DenV K W B H φ μ (f ds μ) Q
def rD1 (K : PySem.W.Frag) (W : XK) (f : D → Mem → R D) : V → Hp → VK → Prop := fun x H Q => ∃ B φ μ d, MemOk K H φ μ B ∧ RdV K H (Live φ μ B) φ d x ∧ DenV K W B H φ μ (f d μ) Q
section
variable {X : Cx} {W : XK}
theorem op_fdivA : OpR X (binaryOp .FloorDiv) (rI (fun _ j => j ≠ 0 ∧ j.natAbs.log2 < 9000) fun i j => .int (i.fdiv j)) := opI fun _ _ _ _ _ _ _ hc q => floordiv_int hc.1 q (.inl (PyProof.noPylong_of_log2 hc.2))
theorem CMulOk.ok {i j : Int} (h : mulOk i j = true) : IntMulOk i j := by
  unfold mulOk at h
  simp only [Bool.or_eq_true, Bool.and_eq_true, decide_eq_true_eq] at h
  rcases h with (h | h) | h
  · exact CMulW.ok h
  · exact CMul.ok (.inl h)
  · exact CMul.ok (.inr h)
theorem op_mulA : OpR X (binaryOp .Mult) (rI (fun i j => mulOk i j = true) fun i j => .int (i * j)) := opI fun _ _ _ _ _ _ _ hc q => mul_int q (CMulOk.ok hc)
theorem add_bin : OpR X (binaryOp .Add) (rD2 X.K W (binD .Add)) := by
  intro pins s σ H x y v u Q I rx ry h
  obtain ⟨B, φ, μ, d, e, m, h1, h2, h⟩ := h
  have lists : ∀ {ds es}, asLst μ d = some ds → asLst μ e = some es → DenV X.K W B H φ μ (if fits (ds.length + es.length) then .ok (.lst (ds ++ es)) μ else .no) Q → wpAny (model X.prog X.w) X.A (binaryOp .Add v u) (EP X pins σ Q) X.xe s := fun {ds es} q1 q2 h => by
    obtain ⟨a, vs, rfl, e1, r1⟩ := asLst_rd m h1 q1
    obtain ⟨b, ws, rfl, e2, r2⟩ := asLst_rd m h2 q2
    split at h
    · rename_i hz
      rw [fits_iff, r1.length, r2.length] at hz
      exact op_cat pins s σ H _ _ v u Q I rx ry ⟨a, b, vs, ws, rfl, rfl, e1, e2, hz, fun p hp => DenV.new m h hp (rd_newL m hp (r1.append r2))⟩
    · exact h.elim
  have gen : DenV X.K W B H φ μ (match asLst μ d, asLst μ e with | some xs, some ys => if fits (xs.length + ys.length) then .ok (.lst (xs ++ ys)) μ else .no | _, _ => .no) Q → wpAny (model X.prog X.w) X.A (binaryOp .Add v u) (EP X pins σ Q) X.xe s := fun h => by
    cases q1 : asLst μ d with
    | none => simp only [q1] at h; exact h.elim
    | some ds =>
      cases q2 : asLst μ e with
      | none => simp only [q1, q2] at h; exact h.elim
      | some es => simp only [q1, q2] at h; exact lists q1 q2 h
  cases d with
  | int i =>
    cases e with
    | int j =>
      rw [rdV_int h1] at rx; rw [rdV_int h2] at ry
      exact op_add pins s σ H _ _ v u Q I rx ry ⟨i, j, rfl, rfl, DenV.here m h rd_int⟩
    | _ => exact gen h
  | str a =>
    cases e with
    | str b =>
      rw [rdV_str h1] at rx; rw [rdV_str h2] at ry
      simp only [binD] at h
      split at h
      · rename_i hz
        exact op_add_str pins s σ H _ _ v u Q I rx ry ⟨a, b, rfl, rfl, fits_iff.mp hz, DenV.here m h rd_str⟩
      · exact h.elim
    | _ => exact gen h
  | tup ds =>
    cases e with
    | tup es =>
      obtain ⟨a, vs, rfl, e1, r1⟩ := rdV_tup h1
      obtain ⟨b, ws, rfl, e2, r2⟩ := rdV_tup h2
      simp only [binD] at h
      split at h
      · rename_i hz
        rw [fits_iff, r1.length, r2.length] at hz
        refine op_catA pins s σ H _ _ v u Q I rx ry ⟨a, b, vs, ws, rfl, rfl, e1, e2, hz, fun hn => ?_, fun _ hn => ?_, fun _ _ p hp => DenV.new m h hp (rd_newT m hp (r1.append r2))⟩
        · subst hn
          have hd : ds = [] := List.length_eq_zero_iff.mp r1.length
          subst hd
          exact DenV.here m h h2
        · subst hn
          have hd : es = [] := List.length_eq_zero_iff.mp r2.length
          subst hd
          rw [List.append_nil] at h
          exact DenV.here m h h1
      · exact h.elim
    | _ => exact gen h
  | _ => exact gen h
theorem op_bin (op : Operator) : OpR X (binaryOp op) (rD2 X.K W (binD op)) := by
  intro pins s σ H x y v u Q I rx ry h
  cases op with
  | Add => exact add_bin pins s σ H x y v u Q I rx ry h
  | Sub =>
    obtain ⟨B, φ, μ, d, e, m, h1, h2, h⟩ := h
    cases d with
    | int i =>
      cases e with
      | int j =>
        rw [rdV_int h1] at rx; rw [rdV_int h2] at ry
        exact op_sub pins s σ H _ _ v u Q I rx ry ⟨i, j, rfl, rfl, DenV.here m h rd_int⟩
      | _ => exact h.elim
    | _ => exact h.elim
  | Mult =>
    obtain ⟨B, φ, μ, d, e, m, h1, h2, h⟩ := h
    have gen : ∀ {k : Int}, e = .int k → DenV X.K W B H φ μ (match asLst μ d with | some xs => if decide (-(2 ^ 63) ≤ k) && decide (k < 2 ^ 63) && fits (xs.length * k.toNat) then .ok (.lst (List.replicate k.toNat xs).flatten) μ else .no | none => .no) Q →
        wpAny (model X.prog X.w) X.A (binaryOp .Mult v u) (EP X pins σ Q) X.xe s := fun {k} ek g => by
      subst ek
      clear h
      rw [rdV_int h2] at ry
      cases q1 : asLst μ d with
      | none => simp only [q1] at g; exact g.elim
      | some ds =>
        simp only [q1] at g
        obtain ⟨a, vs, rfl, e1, r1⟩ := asLst_rd m h1 q1
        split at g
        · rename_i hz
          simp only [Bool.and_eq_true, decide_eq_true_eq, fits_iff, r1.length] at hz
          exact op_rep pins s σ H _ _ v u Q I rx ry ⟨a, k, vs, rfl, rfl, e1, hz.1.1, hz.1.2, hz.2, fun p hp => DenV.new m g hp (rd_newL m hp (r1.rep _))⟩
        · exact g.elim
    cases e with
    | int j =>
      cases d with
      | int i =>
        rw [rdV_int h1] at rx; rw [rdV_int h2] at ry
        simp only [binD] at h
        split at h
        · rename_i hz
          exact op_mulA pins s σ H _ _ v u Q I rx ry ⟨i, j, rfl, rfl, hz, DenV.here m h rd_int⟩
        · exact h.elim
      | _ => exact gen rfl h
    | _ => cases d <;> exact h.elim
  | FloorDiv =>
    obtain ⟨B, φ, μ, d, e, m, h1, h2, h⟩ := h
    cases d with
    | int i =>
      cases e with
      | int j =>
        rw [rdV_int h1] at rx; rw [rdV_int h2] at ry
        simp only [binD] at h
        split at h
        · rename_i hz
          simp only [Bool.and_eq_true, decide_eq_true_eq] at hz
          exact op_fdivA pins s σ H _ _ v u Q I rx ry ⟨i, j, rfl, rfl, hz, DenV.here m h rd_int⟩
        · exact h.elim
      | _ => exact h.elim
    | _ => exact h.elim
  | Mod =>
    obtain ⟨B, φ, μ, d, e, m, h1, h2, h⟩ := h
    cases d with
    | int i =>
      cases e with
      | int j =>
        rw [rdV_int h1] at rx; rw [rdV_int h2] at ry
        simp only [binD] at h
        split at h
        · rename_i hz
          exact op_modN pins s σ H _ _ v u Q I rx ry ⟨i, j, rfl, rfl, hz, DenV.here m h rd_int⟩
        · exact h.elim
      | _ => exact h.elim
    | _ => exact h.elim
  | Pow =>
    obtain ⟨B, φ, μ, d, e, m, h1, h2, h⟩ := h
    cases d with
    | int i =>
      cases e with
      | int j =>
        rw [rdV_int h1] at rx; rw [rdV_int h2] at ry
        simp only [binD] at h
        split at h
        · rename_i hz
          simp only [Bool.and_eq_true, decide_eq_true_eq] at hz
          exact op_pow pins s σ H _ _ v u Q I rx ry ⟨i, j, rfl, rfl, ⟨hz.1.1, hz.1.2, hz.2⟩, DenV.here m h rd_int⟩
        · exact h.elim
      | _ => exact h.elim
    | _ => exact h.elim
  | _ =>
    obtain ⟨B, φ, μ, d, e, m, h1, h2, h⟩ := h
    cases d <;> exact h.elim
end
end Den

/-! Den4: comparisons, truth, built-ins, items, slices. -/
namespace Den
open PySem PySem.Spec PyProof.Rows L2
variable [Lams]

def isNonB : D → Bool
  | .non => true
  | _ => false
def cmpV (op : CmpOp) (x y : D) (μ : Mem) : R D := (cmpD op x y μ).bind fun t μ => .ok (.bl t) μ
section
variable {X : Cx} {W : XK} {K : PySem.W.Frag} {B : Addr → Prop} {H : Hp} {φ : List Addr} {μ : Mem}
theorem cmpV_out (m : MemOk K H φ μ B) {op : CmpOp} {d e : D} {Q : VK} (h : DenV K W B H φ μ (cmpV op d e μ) Q) : ∃ b, cmpB op d e μ = some b ∧ Q (.bl b) H := by
  unfold cmpV cmpD at h
  cases q : cmpB op d e μ with
  | none => simp only [q] at h; exact h.elim
  | some b => simp only [q] at h; exact ⟨b, rfl, DenV.here m h rd_bl⟩
theorem ok_none_iff {K : PySem.W.Frag} {L : Addr → Prop} {d : D} {v : V} (h : RdV K H L φ d v) : decide (v = .non) = isNonB d := by
  cases d with
  | non => rw [rdV_non h]; simp [isNonB]
  | bl b => rw [rdV_bl h]; simp [isNonB]
  | int b => rw [rdV_int h]; simp [isNonB]
  | str b => rw [rdV_str h]; simp [isNonB]
  | tup ds => obtain ⟨a, vs, rfl, _⟩ := rdV_tup h; simp [isNonB]
  | lst ds => obtain ⟨a, vs, rfl, _⟩ := rdV_lst h; simp [isNonB]
  | fls ds => simp only [RdV] at h; obtain ⟨a, vs, rfl, _⟩ := h; simp [isNonB]
  | glo x => simp only [RdV] at h; subst h; simp [isNonB]
  | exc => simp only [RdV] at h; subst h; simp [isNonB]
  | cel n => simp only [RdV] at h; obtain ⟨a, _, rfl⟩ := h; simp [isNonB]
theorem isD_non {d : D} : isD d .non = some (isNonB d) := by cases d <;> rfl
theorem op_cmp (op : CmpOp) (hu : X.A.units + 64 < cLine) : OpR X (compareOp op) (rD2 X.K W (cmpV op)) := by
  intro pins s σ H x y v u Q I rx ry h
  obtain ⟨B, φ, μ, d, e, m, h1, h2, h⟩ := h
  obtain ⟨b, hb, q⟩ := cmpV_out m h
  cases op with
  | Eq =>
    simp only [cmpB, eqD] at hb
    cases q1 : pyM μ d with
    | none => simp [q1] at hb
    | some p1 =>
      cases q2 : pyM μ e with
      | none => simp [q1, q2] at hb
      | some p2 =>
        simp only [q1, q2] at hb
        split at hb
        · rename_i hs
          rw [Bool.and_eq_true] at hs
          cases hb
          exact op_eqD hu pins s σ H _ _ v u Q I rx ry ⟨p1, p2, pyM_rd m h1 q1, pyM_rd m h2 q2, hs.1, hs.2, q⟩
        · cases hb
  | NotEq =>
    simp only [cmpB, eqD] at hb
    cases q1 : pyM μ d with
    | none => simp [q1] at hb
    | some p1 =>
      cases q2 : pyM μ e with
      | none => simp [q1, q2] at hb
      | some p2 =>
        simp only [q1, q2] at hb
        split at hb
        · rename_i hs
          rw [Bool.and_eq_true] at hs
          simp only [Option.map_some, Option.some.injEq] at hb
          subst hb
          exact op_neD hu pins s σ H _ _ v u Q I rx ry ⟨p1, p2, pyM_rd m h1 q1, pyM_rd m h2 q2, hs.1, hs.2, q⟩
        · cases hb
  | In =>
    simp only [cmpB] at hb
    have seq : ∀ {ys}, asSeq μ e = some ys → (if flat d && ys.all flat then some (ys.any fun z => eqF z d) else none) = some b → wpAny (model X.prog X.w) X.A (compareOp .In v u) (EP X pins σ Q) X.xe s := fun {ys} q1 q2 => by
      split at q2
      · rename_i hs
        rw [Bool.and_eq_true] at hs
        cases q2
        obtain ⟨a, ws, rfl, r1, r2⟩ := asSeq_rd m h2 q1
        obtain ⟨e1, e2⟩ := flat_rd hs.1 h1
        obtain ⟨e3, e4⟩ := flats_rd hs.2 r2
        subst e1
        refine op_in_seq pins s σ H _ _ v u Q I rx ry ⟨a, ws, rfl, r1, e2, e4, ?_⟩
        rw [e3, inV_toV hs.1 hs.2]
        exact q
      · cases q2
    cases e with
    | str z =>
      cases d with
      | str a =>
        rw [rdV_str h1] at rx; rw [rdV_str h2] at ry
        simp only [inD, Option.some.injEq] at hb
        subst hb
        exact op_in_str pins s σ H _ _ v u Q I rx ry ⟨a, z, rfl, rfl, q⟩
      | _ => simp [inD] at hb
    | _ =>
      simp only [inD] at hb
      split at hb
      · rename_i ys q1
        exact seq q1 hb
      · cases hb
  | NotIn =>
    simp only [cmpB] at hb
    have seq : ∀ {ys}, asSeq μ e = some ys → (if flat d && ys.all flat then some (ys.any fun z => eqF z d) else none).map (!·) = some b → wpAny (model X.prog X.w) X.A (compareOp .NotIn v u) (EP X pins σ Q) X.xe s := fun {ys} q1 q2 => by
      split at q2
      · rename_i hs
        rw [Bool.and_eq_true] at hs
        simp only [Option.map_some, Option.some.injEq] at q2
        subst q2
        obtain ⟨a, ws, rfl, r1, r2⟩ := asSeq_rd m h2 q1
        obtain ⟨e1, e2⟩ := flat_rd hs.1 h1
        obtain ⟨e3, e4⟩ := flats_rd hs.2 r2
        subst e1
        refine op_notIn_seq pins s σ H _ _ v u Q I rx ry ⟨a, ws, rfl, r1, e2, e4, ?_⟩
        rw [e3, inV_toV hs.1 hs.2]
        exact q
      · cases q2
    cases e with
    | str z =>
      cases d with
      | str a =>
        rw [rdV_str h1] at rx; rw [rdV_str h2] at ry
        simp only [inD, Option.map_some, Option.some.injEq] at hb
        subst hb
        exact op_notIn_str pins s σ H _ _ v u Q I rx ry ⟨a, z, rfl, rfl, q⟩
      | _ => simp [inD] at hb
    | _ =>
      simp only [inD] at hb
      split at hb
      · rename_i ys q1
        exact seq q1 hb
      · cases hb
  | Is =>
    simp only [cmpB] at hb
    cases e with
    | non =>
      rw [isD_non] at hb
      cases hb
      rw [← ok_none_iff h1] at q
      rw [rdV_non h2] at ry
      exact op_isN pins s σ H _ _ v u Q I rx ry ⟨rfl, q⟩
    | bl c =>
      cases d with
      | bl a =>
        rw [rdV_bl h1] at rx; rw [rdV_bl h2] at ry
        simp only [isD, Option.some.injEq] at hb
        subst hb
        exact op_isBl pins s σ H _ _ v u Q I rx ry ⟨a, c, rfl, rfl, q⟩
      | _ => simp [isD] at hb
    | _ => simp [isD] at hb
  | IsNot =>
    simp only [cmpB] at hb
    cases e with
    | non =>
      rw [isD_non] at hb
      simp only [Option.map_some, Option.some.injEq] at hb
      subst hb
      rw [← ok_none_iff h1] at q
      rw [rdV_non h2] at ry
      exact op_notN pins s σ H _ _ v u Q I rx ry ⟨rfl, q⟩
    | bl c =>
      cases d with
      | bl a =>
        rw [rdV_bl h1] at rx; rw [rdV_bl h2] at ry
        simp only [isD, Option.map_some, Option.some.injEq] at hb
        subst hb
        exact op_notBl pins s σ H _ _ v u Q I rx ry ⟨a, c, rfl, rfl, q⟩
      | _ => simp [isD] at hb
    | _ => simp [isD] at hb
  | Lt =>
    cases d with
    | int i =>
      cases e with
      | int j =>
        rw [rdV_int h1] at rx; rw [rdV_int h2] at ry
        simp only [cmpB, Option.some.injEq] at hb
        subst hb
        exact op_lt pins s σ H _ _ v u Q I rx ry ⟨i, j, rfl, rfl, q⟩
      | _ => simp [cmpB] at hb
    | tup ds =>
      cases e with
      | tup es =>
        obtain ⟨a, vs, rfl, e1, r1⟩ := rdV_tup h1
        obtain ⟨c, ws, rfl, e2, r2⟩ := rdV_tup h2
        simp only [cmpB] at hb
        cases q1 : intsOf ds with
        | none => simp [q1] at hb
        | some ns =>
          cases q2 : intsOf es with
          | none => simp [q1, q2] at hb
          | some ms =>
            simp only [q1, q2, Option.some.injEq] at hb
            subst hb
            have t1 := intsOf_rd r1 q1
            have t2 := intsOf_rd r2 q2
            subst t1 t2
            exact op_ltT (by omega) pins s σ H _ _ v u Q I rx ry ⟨a, c, ns, ms, rfl, rfl, e1, e2, q⟩
      | _ => simp [cmpB] at hb
    | _ => simp [cmpB] at hb
  | LtE =>
    cases d with
    | int i =>
      cases e with
      | int j =>
        rw [rdV_int h1] at rx; rw [rdV_int h2] at ry
        simp only [cmpB, Option.some.injEq] at hb
        subst hb
        exact op_le pins s σ H _ _ v u Q I rx ry ⟨i, j, rfl, rfl, q⟩
      | _ => simp [cmpB] at hb
    | _ => simp [cmpB] at hb
  | Gt =>
    cases d with
    | int i =>
      cases e with
      | int j =>
        rw [rdV_int h1] at rx; rw [rdV_int h2] at ry
        simp only [cmpB, Option.some.injEq] at hb
        subst hb
        exact op_gt pins s σ H _ _ v u Q I rx ry ⟨i, j, rfl, rfl, q⟩
      | _ => simp [cmpB] at hb
    | _ => simp [cmpB] at hb
  | GtE =>
    cases d with
    | int i =>
      cases e with
      | int j =>
        rw [rdV_int h1] at rx; rw [rdV_int h2] at ry
        simp only [cmpB, Option.some.injEq] at hb
        subst hb
        exact op_ge pins s σ H _ _ v u Q I rx ry ⟨i, j, rfl, rfl, q⟩
      | _ => simp [cmpB] at hb
    | _ => simp [cmpB] at hb
/-- truth -/
theorem tru_rd (m : MemOk K H φ μ B) {d : D} {v : V} {b : Bool} (h : RdV K H (Live φ μ B) φ d v) (q : truB μ d = some b) : TruV K v H b := by
  cases d with
  | non => rw [rdV_non h]; simp only [truB, Option.some.injEq] at q; subst q; rfl
  | bl c => rw [rdV_bl h]; simp only [truB, Option.some.injEq] at q; subst q; rfl
  | int i => rw [rdV_int h]; simp only [truB, Option.some.injEq] at q; subst q; rfl
  | str x =>
    rw [rdV_str h]
    simp only [truB] at q
    split at q
    · rename_i hz
      cases q
      exact ⟨fits_iff.mp hz, rfl⟩
    · cases q
  | tup ds =>
    obtain ⟨a, vs, rfl, h1, h2⟩ := rdV_tup h
    simp only [truB, Option.some.injEq] at q
    subst q
    refine .inr (.inl ⟨vs, h1, ?_⟩)
    have e := h2.length
    cases ds <;> cases vs <;> simp_all
  | lst ds =>
    obtain ⟨a, vs, rfl, h1, _, h2⟩ := rdV_lst h
    simp only [truB, Option.some.injEq] at q
    subst q
    refine .inl ⟨vs, .of h1, ?_⟩
    have e := h2.length
    cases ds <;> cases vs <;> simp_all
  | cel n =>
    simp only [truB] at q
    split at q
    · rename_i xs hx
      cases q
      obtain ⟨a, vs, rfl, h1, h2⟩ := asLst_rd m h (show asLst μ (.cel n) = some xs by simp only [asLst, hx])
      refine .inl ⟨vs, .of h1, ?_⟩
      have e := h2.length
      cases xs <;> cases vs <;> simp_all
    · cases q
  | fls _ => simp [truB] at q
  | glo _ => simp [truB] at q
  | exc => simp [truB] at q
/-- isinstance with a built-in class -/
theorem kit_tys : ∀ a b : Ty, kitB a.name b.name = some (decide (a = b) || (decide (a = .bool) && decide (b = .int))) := by
  intro a b
  cases a <;> cases b <;> decide +kernel
theorem kit_non : ∀ b : Ty, kitB "NoneType" b.name = some false := by
  intro b
  cases b <;> decide +kernel
theorem isTy_rd {L : Addr → Prop} {d : D} {v : V} {t : Ty} {b : Bool} (h : RdV K H L φ d v) (q : isTy t d = some b) : ∃ c, TyX K H v c ∧ PySem.W.kitOne K c (.type t.name) = some b := by
  have own : ∀ {s : Ty}, TyX K H v (.type s.name) → b = (decide (s = t) || (decide (s = .bool) && decide (t = .int))) → ∃ c, TyX K H v c ∧ PySem.W.kitOne K c (.type t.name) = some b := fun {s} x e => ⟨_, x, by rw [e]; exact kit_ty (kit_tys s t)⟩
  cases d with
  | non =>
    rw [rdV_non h]
    simp only [isTy, Option.some.injEq] at q
    subst q
    exact ⟨_, .base .non, kit_ty (kit_non t)⟩
  | bl c =>
    simp only [isTy, Option.some.injEq] at q
    refine own (s := .bool) (by rw [rdV_bl h]; exact .base (.bl c)) ?_
    subst q
    cases t <;> rfl
  | int i =>
    simp only [isTy, Option.some.injEq] at q
    refine own (s := .int) (by rw [rdV_int h]; exact .base (.int i)) ?_
    subst q
    cases t <;> rfl
  | str i =>
    simp only [isTy, Option.some.injEq] at q
    refine own (s := .str) (by rw [rdV_str h]; exact .base (.str i)) ?_
    subst q
    cases t <;> rfl
  | tup ds =>
    obtain ⟨a, vs, rfl, h1, _⟩ := rdV_tup h
    simp only [isTy, Option.some.injEq] at q
    refine own (s := .tuple) ?_ (by subst q; cases t <;> rfl)
    rcases h1 with (h1 | ⟨o, h1⟩) | ⟨o, its, n, h1, h2, _⟩
    · exact .base (.tup h1)
    · exact .fTuple h1
    · exact .kTuple h1 h2
  | lst ds =>
    obtain ⟨a, vs, rfl, h1, _⟩ := rdV_lst h
    simp only [isTy, Option.some.injEq] at q
    exact own (s := .list) (.base (.lst h1)) (by subst q; cases t <;> rfl)
  | fls ds =>
    simp only [RdV] at h
    obtain ⟨a, vs, rfl, h1, _⟩ := h
    simp only [isTy, Option.some.injEq] at q
    refine own (s := .list) ?_ (by subst q; cases t <;> rfl)
    rcases h1 with ⟨h1, _⟩ | ⟨o, h1⟩ | ⟨o, its, n, h1, h2, _⟩
    · exact .base (.lst h1)
    · exact .base (.frz h1)
    · exact .kList h1 h2
  | glo _ => simp [isTy] at q
  | exc => simp [isTy] at q
  | cel _ => simp [isTy] at q
/-! built-ins -/
theorem rdL_one {L : Addr → Prop} {d : D} {xs : List V} (h : RdL K H L φ [d] xs) : ∃ v, xs = [v] ∧ RdV K H L φ d v := by
  simp only [RdL] at h
  obtain ⟨v, ws, rfl, h1, rfl⟩ := h
  exact ⟨v, rfl, h1⟩
theorem rdL_two {L : Addr → Prop} {d e : D} {xs : List V} (h : RdL K H L φ [d, e] xs) : ∃ v w, xs = [v, w] ∧ RdV K H L φ d v ∧ RdV K H L φ e w := by
  simp only [RdL] at h
  obtain ⟨v, ws, rfl, h1, w, ws', rfl, h2, rfl⟩ := h
  exact ⟨v, w, rfl, h1, h2⟩
/-- a built-in of one argument -/
theorem call1 {f : Value} {g : D → Mem → R D} {fl : List D → Mem → R D} (hf : ∀ d μ, fl [d] μ = g d μ) (hn : ∀ ds μ, (∀ d, ds ≠ [d]) → fl ds μ = .no)
    (h : ∀ (pins : List (Addr × Obj)) (s : Shared) (σ : L2.St) (H : Hp) (B : Addr → Prop) (φ : List Addr) (μ : Mem) (d : D) (v : V) (us : List Value) (Q : VK), Inv X pins σ H s → Vals [v] us → MemOk X.K H φ μ B → RdV X.K H (Live φ μ B) φ d v → DenV X.K W B H φ μ (g d μ) Q →
      wpAny (model X.prog X.w) X.A (call f us) (EP X pins σ Q) X.xe s) : CallR X f (rDL X.K W fl) := by
  intro pins s σ H xs us Q I r q
  obtain ⟨B, φ, μ, ds, m, h1, h2⟩ := q
  match ds, h1, h2 with
  | [], _, h2 => rw [hn [] μ (by simp)] at h2; exact h2.elim
  | [d], h1, h2 =>
    obtain ⟨v, rfl, h3⟩ := rdL_one h1
    rw [hf] at h2
    exact h pins s σ H B φ μ d v us Q I r m h3 h2
  | d :: e :: ds, _, h2 => rw [hn _ μ (by simp)] at h2; exact h2.elim
end
end Den

/-! Den5: built-ins by name, items, slices. -/
namespace Den
open PySem PySem.Spec PyProof.Rows L2
variable [Lams]

def Bf.val : Bf → Value
  | .len => .builtin "len" | .abs => .builtin "abs" | .int => .type "int" | .list => .type "list" | .tuple => .type "tuple"
  | .sum => .builtin "sum" | .all => .builtin "all" | .any => .builtin "any" | .gcd => .builtin "math.gcd" | .max2 => .builtin "max" | .min2 => .builtin "min"
def Bf.name : Bf → Str
  | .len => "len" | .abs => "abs" | .int => "int" | .list => "list" | .tuple => "tuple"
  | .sum => "sum" | .all => "all" | .any => "any" | .gcd => "gcd" | .max2 => "max" | .min2 => "min"
/-- a name that the module's own top binds -/
def Bf.own : Bf → Bool
  | .gcd => true
  | _ => false
theorem Bf.boot : ∀ b : Bf, b.own = false → bootBuiltins b.name = some b.val := by
  intro b
  cases b <;> first | (intro h; cases h; done) | (intro _; decide +kernel)
section
variable {X : Cx} {W : XK} {K : PySem.W.Frag} {B : Addr → Prop} {H : Hp} {φ : List Addr} {μ : Mem}
theorem no1 {f : Bf} (hf : f ≠ .gcd ∧ f ≠ .max2 ∧ f ≠ .min2) : ∀ (ds : List D) (μ : Mem), (∀ d, ds ≠ [d]) → bifD f ds μ = .no := by
  intro ds μ h
  obtain ⟨h1, h2, h3⟩ := hf
  match ds, h with
  | [], _ => cases f <;> rfl
  | [d], h => exact absurd rfl (h d)
  | d :: e :: ds, _ => cases f <;> first | rfl | (cases ds <;> cases d <;> cases e <;> first | rfl | exact absurd rfl h1 | exact absurd rfl h2 | exact absurd rfl h3)
theorem bif_len : CallR X (.builtin "len") (rDL X.K W (bifD .len)) := by
  refine call1 (g := fun d μ => bifD .len [d] μ) (fun _ _ => rfl) (no1 (by decide)) fun pins s σ H B φ μ d v us Q I r m h1 h2 => ?_
  have seq : ∀ {xs}, asSeq μ d = some xs → DenV X.K W B H φ μ (.ok (.int xs.length) μ) Q → wpAny (model X.prog X.w) X.A (call (.builtin "len") us) (EP X pins σ Q) X.xe s := fun {xs} q1 q2 => by
    obtain ⟨a, vs, rfl, e1, e2⟩ := asSeq_rd m h1 q1
    exact call_len_seq pins s σ H _ us Q I r ⟨a, vs, rfl, e1, by rw [← e2.length]; exact DenV.here m q2 rd_int⟩
  cases d with
  | str x =>
    rw [rdV_str h1] at r
    simp only [bifD] at h2
    split at h2
    · rename_i hz
      exact call_len_str pins s σ H _ us Q I r ⟨x, rfl, fits_iff.mp hz, DenV.here m h2 rd_int⟩
    · exact h2.elim
  | _ =>
    simp only [bifD] at h2
    split at h2
    · rename_i xs q1
      exact seq q1 h2
    · exact h2.elim
theorem bif_abs : CallR X (.builtin "abs") (rDL X.K W (bifD .abs)) := by
  refine call1 (g := fun d μ => bifD .abs [d] μ) (fun _ _ => rfl) (no1 (by decide)) fun pins s σ H B φ μ d v us Q I r m h1 h2 => ?_
  cases d with
  | int x =>
    rw [rdV_int h1] at r
    exact call_abs pins s σ H _ us Q I r ⟨x, rfl, DenV.here m h2 rd_int⟩
  | _ => exact h2.elim
theorem bif_int : CallR X (.type "int") (rDL X.K W (bifD .int)) := by
  refine call1 (g := fun d μ => bifD .int [d] μ) (fun _ _ => rfl) (no1 (by decide)) fun pins s σ H B φ μ d v us Q I r m h1 h2 => ?_
  cases d with
  | int x =>
    rw [rdV_int h1] at r
    exact call_int1 pins s σ H _ us Q I r (.inl ⟨x, rfl, DenV.here m h2 rd_int⟩)
  | bl x =>
    rw [rdV_bl h1] at r
    exact call_int1 pins s σ H _ us Q I r (.inr ⟨x, rfl, DenV.here m h2 rd_int⟩)
  | _ => exact h2.elim
theorem bif_list : CallR X (.type "list") (rDL X.K W (bifD .list)) := by
  refine call1 (g := fun d μ => bifD .list [d] μ) (fun _ _ => rfl) (no1 (by decide)) fun pins s σ H B φ μ d v us Q I r m h1 h2 => ?_
  have seq : ∀ {xs}, asSeq μ d = some xs → DenV X.K W B H φ μ (.ok (.lst xs) μ) Q → wpAny (model X.prog X.w) X.A (call (.type "list") us) (EP X pins σ Q) X.xe s := fun {xs} q1 q2 => by
    obtain ⟨a, vs, rfl, e1, e2⟩ := asSeq_rd m h1 q1
    exact call_list_of pins s σ H _ us Q I r ⟨a, vs, rfl, e1, fun p hp => DenV.new m q2 hp (rd_newL m hp e2)⟩
  cases d with
  | fls xs =>
    simp only [RdV] at h1
    obtain ⟨a, vs, rfl, e1, e2⟩ := h1
    refine call_list_of pins s σ H _ us Q I r ⟨a, vs, rfl, .inl ?_, fun p hp => DenV.new m h2 hp (rd_newL m hp e2)⟩
    rcases e1 with ⟨e1, _⟩ | ⟨o, e1⟩ | e1
    · exact .inl (.inl e1)
    · exact .inl (.inr ⟨o, e1⟩)
    · exact .inr e1
  | _ =>
    simp only [bifD] at h2
    split at h2
    · rename_i xs q1
      exact seq q1 h2
    · exact h2.elim
theorem bif_tuple : CallR X (.type "tuple") (rDL X.K W (bifD .tuple)) := by
  refine call1 (g := fun d μ => bifD .tuple [d] μ) (fun _ _ => rfl) (no1 (by decide)) fun pins s σ H B φ μ d v us Q I r m h1 h2 => ?_
  cases d with
  | tup xs =>
    obtain ⟨a, vs, e, e1, e2⟩ := rdV_tup h1
    subst e
    exact call_tuple_of pins s σ H _ us Q I r ⟨a, vs, rfl, .inr ⟨e1, DenV.here m h2 h1⟩⟩
  | lst xs =>
    obtain ⟨a, vs, rfl, e1, e2⟩ := asLst_rd m h1 (ds := xs) rfl
    exact call_tuple_of pins s σ H _ us Q I r ⟨a, vs, rfl, .inl ⟨.of e1, fun p hp => DenV.new m h2 hp (rd_newT m hp e2)⟩⟩
  | cel n =>
    simp only [bifD, asSeq] at h2
    split at h2
    · rename_i xs q1
      obtain ⟨a, vs, rfl, e1, e2⟩ := asLst_rd m h1 q1
      exact call_tuple_of pins s σ H _ us Q I r ⟨a, vs, rfl, .inl ⟨.of e1, fun p hp => DenV.new m h2 hp (rd_newT m hp e2)⟩⟩
    · exact h2.elim
  | _ => exact h2.elim
theorem bif_sum (hc : X.calm = true) : CallR X (.builtin "sum") (rDL X.K W (bifD .sum)) := by
  refine call1 (g := fun d μ => bifD .sum [d] μ) (fun _ _ => rfl) (no1 (by decide)) fun pins s σ H B φ μ d v us Q I r m h1 h2 => ?_
  simp only [bifD] at h2
  split at h2
  · rename_i xs q1
    split at h2
    · rename_i ns q2
      obtain ⟨a, vs, rfl, e1, e2⟩ := asLst_rd m h1 q1
      have e3 := intsOf_rd e2 q2
      subst e3
      exact cr_sum hc pins s σ H _ us Q I r ⟨a, ns, rfl, .of e1, DenV.here m h2 rd_int⟩
    · exact h2.elim
  · exact h2.elim
theorem bif_all (hc : X.calm = true) : CallR X (.builtin "all") (rDL X.K W (bifD .all)) := by
  refine call1 (g := fun d μ => bifD .all [d] μ) (fun _ _ => rfl) (no1 (by decide)) fun pins s σ H B φ μ d v us Q I r m h1 h2 => ?_
  simp only [bifD] at h2
  split at h2
  · rename_i xs q1
    split at h2
    · rename_i ns q2
      obtain ⟨a, vs, rfl, e1, e2⟩ := asLst_rd m h1 q1
      have e3 := blsOf_rd e2 q2
      subst e3
      exact cr_all hc pins s σ H _ us Q I r ⟨a, ns, rfl, .of e1, DenV.here m h2 rd_bl⟩
    · exact h2.elim
  · exact h2.elim
theorem bif_any (hc : X.calm = true) : CallR X (.builtin "any") (rDL X.K W (bifD .any)) := by
  refine call1 (g := fun d μ => bifD .any [d] μ) (fun _ _ => rfl) (no1 (by decide)) fun pins s σ H B φ μ d v us Q I r m h1 h2 => ?_
  simp only [bifD] at h2
  split at h2
  · rename_i xs q1
    split at h2
    · rename_i ns q2
      obtain ⟨a, vs, rfl, e1, e2⟩ := asLst_rd m h1 q1
      have e3 := blsOf_rd e2 q2
      subst e3
      exact cr_any hc pins s σ H _ us Q I r ⟨a, ns, rfl, .of e1, DenV.here m h2 rd_bl⟩
    · exact h2.elim
  · exact h2.elim
theorem call2I {f : Value} {b : Bf} {g : Int → Int → Int} (hb : ∀ ds μ, bifD b ds μ = (match ds with | [.int i, .int j] => .ok (.int (g i j)) μ | _ => .no))
    (h : CallR X f (fun xs H Q => ∃ i j, xs = [.int i, .int j] ∧ Q (.int (g i j)) H)) : CallR X f (rDL X.K W (bifD b)) := by
  intro pins s σ H xs us Q I r q
  obtain ⟨B, φ, μ, ds, m, h1, h2⟩ := q
  rw [hb] at h2
  split at h2
  · rename_i i j
    obtain ⟨v, w, rfl, e1, e2⟩ := rdL_two h1
    rw [rdV_int e1, rdV_int e2] at r
    exact h pins s σ H _ us Q I r ⟨i, j, rfl, DenV.here m h2 rd_int⟩
  · exact h2.elim
theorem bifD2 {b : Bf} (h : b = .gcd ∨ b = .max2 ∨ b = .min2) : ∀ ds μ, (∀ i j, ds ≠ [D.int i, D.int j]) → bifD b ds μ = .no := by
  intro ds μ hd
  match ds, hd with
  | [], _ => rcases h with rfl | rfl | rfl <;> rfl
  | [d], _ => rcases h with rfl | rfl | rfl <;> cases d <;> rfl
  | [d, e], hd => cases d <;> cases e <;> first | exact absurd rfl (hd _ _) | (rcases h with rfl | rfl | rfl <;> rfl)
  | d :: e :: f :: ds, _ => rcases h with rfl | rfl | rfl <;> cases d <;> cases e <;> rfl
theorem bif_gcd : CallR X (.builtin "math.gcd") (rDL X.K W (bifD .gcd)) := by
  refine call2I (b := .gcd) (g := fun i j => ((Nat.gcd i.natAbs j.natAbs : Nat) : Int)) (fun ds μ => ?_) cr_gcd
  split
  · rfl
  · rename_i h
    exact bifD2 (.inl rfl) ds μ fun i j e => h i j e
theorem bif_max2 (hc : X.calm = true) : CallR X (.builtin "max") (rDL X.K W (bifD .max2)) := by
  refine call2I (b := .max2) (g := fun i j => if j > i then j else i) (fun ds μ => ?_) (call_max2 hc)
  split
  · rfl
  · rename_i h
    exact bifD2 (.inr (.inl rfl)) ds μ fun i j e => h i j e
theorem bif_min2 (hc : X.calm = true) : CallR X (.builtin "min") (rDL X.K W (bifD .min2)) := by
  refine call2I (b := .min2) (g := fun i j => if j < i then j else i) (fun ds μ => ?_) (call_min2 hc)
  split
  · rfl
  · rename_i h
    exact bifD2 (.inr (.inr rfl)) ds μ fun i j e => h i j e
theorem bif_all_of (hc : X.calm = true) (b : Bf) : CallR X b.val (rDL X.K W (bifD b)) := by
  cases b with
  | len => exact bif_len
  | abs => exact bif_abs
  | int => exact bif_int
  | list => exact bif_list
  | tuple => exact bif_tuple
  | sum => exact bif_sum hc
  | all => exact bif_all hc
  | any => exact bif_any hc
  | gcd => exact bif_gcd
  | max2 => exact bif_max2 hc
  | min2 => exact bif_min2 hc
/-! items -/
theorem bif_cool_of {b : Bf} (h : (match b with | .len => true | .abs => true | .int => true | .list => true | .tuple => true | .gcd => true | _ => false) = true) : CallR X b.val (rDL X.K W (bifD b)) := by
  cases b <;> first | (cases h; done) | exact bif_len | exact bif_abs | exact bif_int | exact bif_list | exact bif_tuple | exact bif_gcd
theorem atI_rd {L : Addr → Prop} {ds : List D} {vs : List V} {i : Int} {d : D} (h : RdL K H L φ ds vs) (q : atI ds i = some d) : ∃ v, atI vs i = some v ∧ RdV K H L φ d v := by
  unfold atI at q ⊢
  rw [← h.length]
  cases e : ixN ds.length i with
  | none => rw [e] at q; cases q
  | some j =>
    rw [e] at q
    exact h.get q
theorem ix_all : IxR X (rD2 X.K W idxD) := by
  intro value slice pins s σ H x y v u Q I rx ry h hs
  obtain ⟨B, φ, μ, d, e, m, h1, h2, h⟩ := h
  have seq : ∀ {i : Int} {xs : List D}, e = .int i → asSeq μ d = some xs → DenV X.K W B H φ μ (match atI xs i with | some v => .ok v μ | none => .no) Q → wpAny (model X.prog X.w) X.A (subscriptTail value slice v u) (EP X pins σ Q) X.xe s := fun {i xs} ee q1 q2 => by
    subst ee
    rw [rdV_int h2] at ry
    obtain ⟨a, vs, rfl, e1, e2⟩ := asSeq_rd m h1 q1
    cases q3 : atI xs i with
    | none => simp only [q3] at q2; exact q2.elim
    | some z =>
      simp only [q3] at q2
      obtain ⟨w, e3, e4⟩ := atI_rd e2 q3
      rcases e1 with e1 | e1
      · exact ix_list value slice pins s σ H _ _ v u Q I rx ry ⟨a, vs, i, w, rfl, rfl, e1, e3, DenV.here m q2 e4⟩ hs
      · exact ix_tup value slice pins s σ H _ _ v u Q I rx ry ⟨a, vs, i, w, rfl, rfl, e1, e3, DenV.here m q2 e4⟩ hs
  cases e with
  | int i =>
    cases d with
    | str z =>
      rw [rdV_int h2] at ry; rw [rdV_str h1] at rx
      simp only [idxD] at h
      split at h
      · rename_i hz
        cases q3 : atI z.cps.toList i with
        | none => simp only [q3] at h; exact h.elim
        | some c =>
          simp only [q3] at h
          exact ix_str value slice pins s σ H _ _ v u Q I rx ry ⟨z, i, c, rfl, rfl, fits_iff.mp hz, q3, DenV.here m h rd_str⟩ hs
      · exact h.elim
    | _ =>
      simp only [idxD] at h
      split at h
      · rename_i xs q1
        exact seq rfl q1 h
      · exact h.elim
  | _ => cases d <;> exact h.elim
theorem cut_rd {L : Addr → Prop} {ds : List D} {vs : List V} {lo hi : Option Int} (h : RdL K H L φ ds vs) : RdL K H L φ (cutD ds lo hi) (cutV vs lo hi) := by
  unfold cutD cutV
  rw [← h.length]
  exact (h.drop _).take _
theorem sl_all : SlR X (fun x lo hi H Q => ∃ B φ μ d, MemOk X.K H φ μ B ∧ RdV X.K H (Live φ μ B) φ d x ∧ DenV X.K W B H φ μ (sliD d lo hi μ) Q) := by
  intro pins s σ H x v vl vu lo hi sl Q I rx hs pl pu h
  obtain ⟨B, φ, μ, d, m, h1, h⟩ := h
  have lst : ∀ {xs : List D}, asLst μ d = some xs → DenV X.K W B H φ μ (.ok (.lst (cutD xs lo hi)) μ) Q → (∃ T id, typeLookup (.type T) "__getitem__" = pure (some (.builtin id)) ∧ s.TypeIs v T ∧ wpAny (model X.prog X.w) X.A (getItem v (.ref sl)) (EP X pins σ Q) X.xe s) := fun {xs} q1 q2 => by
    obtain ⟨a, vs, rfl, e1, e2⟩ := asLst_rd m h1 q1
    exact sl_list pins s σ H _ v vl vu lo hi sl Q I rx hs pl pu ⟨a, vs, rfl, .of e1, fun p hp => DenV.new m q2 hp (rd_newL m hp (cut_rd e2))⟩
  cases d with
  | tup xs =>
    obtain ⟨a, vs, e, e1, e2⟩ := rdV_tup h1
    subst e
    refine sl_tupA pins s σ H _ v vl vu lo hi sl Q I rx hs pl pu ⟨a, vs, rfl, e1, fun hw => ?_, fun _ p hp => DenV.new m h hp (rd_newT m hp (cut_rd e2))⟩
    have e3 : cutD xs lo hi = xs := by
      unfold cutD
      rw [e2.length, hw.1, hw.2, List.drop_zero, Nat.sub_zero, ← e2.length, List.take_length]
    have h' : DenV X.K W B H φ μ (.ok (.tup (cutD xs lo hi)) μ) Q := h
    rw [e3] at h'
    exact DenV.here m h' h1
  | str z =>
    rw [rdV_str h1] at rx
    simp only [sliD] at h
    split at h
    · rename_i hz
      exact sl_str pins s σ H _ v vl vu lo hi sl Q I rx hs pl pu ⟨z, rfl, fits_iff.mp hz, DenV.here m h rd_str⟩
    · exact h.elim
  | _ =>
    simp only [sliD] at h
    split at h
    · rename_i xs q1
      exact lst q1 h
    · exact h.elim
end
end Den

/-! Den6: the checker of expressions: does plain code tell a tree of the text? -/
namespace Den
open PySem PySem.Spec PyProof.Rows L2
variable [Lams]

def Ty.nm (t : Ty) : Str := match t with
  | .int => "int" | .bool => "bool" | .str => "str" | .tuple => "tuple" | .list => "list"
theorem Ty.boot : ∀ t : Ty, bootBuiltins t.nm = some (.type t.name) := by
  intro t
  cases t <;> decide +kernel
def nmOk (x : Str) : Bool := !(x == ("__debug__" : Str)) && !(x == ("__classdict__" : Str)) && !decide (x = "__name__")
def visB (sc : Scope) (x : Str) : Bool := match sc.names.lookup x with
  | some .local => true
  | some .cell => true
  | some .free => true
  | _ => false
def locB (sc : Scope) (x : Str) : Bool := match sc.names.lookup x with
  | some .local => true
  | some .cell => true
  | _ => false
def glB (sc : Scope) (x : Str) : Bool := match sc.names.lookup x with
  | some .globalImplicit => true
  | _ => false
/-- what the checker knows of the module: its defs' names, its constants' names, its built-ins by import -/
structure Nm where
  fns : List Str
  con : List Str
  bfn : List Str
  free : List Str
  exs : List Str
  /-- defs that call what they get, and tell the end -/
  hnd : List Str
  /-- lambdas may be made here -/
  lam : Bool
  /-- classes of exceptions that are asked for -/
  cls : List Str := []
  /-- an exception is handled; it may be asked for its class -/
  hot : Bool := false
  isx : Bool := false
def Nm.low (Γ : Nm) : Nm := { Γ with lam := false }
def Nm.inn (Γ : Nm) : Nm := { Γ with isx := false }
/-- built-ins that end no iterator -/
def Bf.cool : Bf → Bool
  | .len => true | .abs => true | .int => true | .list => true | .tuple => true | .gcd => true
  | _ => false
def noPar : Arguments → Bool
  | ⟨[], [], none, [], [], none, []⟩ => true
  | _ => false
/-- a built-in's name as it is written here -/
def blt (Γ : Nm) (sc : Scope) (x : Str) : Bool := glB sc x && nmOk x && Γ.free.contains x
def T.slots : T → List Nat
  | .nm i => [i]
  | .nil => []
  | .cons a r => a.slots ++ r.slots
/-! st: which names may be stored here -/
def notCall0 : Expr → Bool
  | .Call _ [] _ _ => false
  | _ => true
theorem base_eq {o : Expr} (h : notCall0 o = true) (a : Str) (env : PySem.Env) (w : Sem Value) : attributeBase o a env w = w := by
  cases o <;> first | rfl | (rename_i f as ks p; cases as <;> first | (simp [notCall0] at h; done) | (cases f <;> rfl))
mutual
def mT (N : List Str) (sc : Scope) (st : Str → Bool) : T → Expr → Bool
  | .nm i, e => match e with
    | .Name x _ => decide (N[i]? = some x) && locB sc x && st x
    | _ => false
  | .cons a r, e => match e with
    | .Tuple es _ _ => match es with
      | x :: xs => mT N sc st a x && mTs N sc st r xs
      | [] => false
    | _ => false
  | .nil, e => match e with
    | .Tuple es _ _ => es.isEmpty
    | _ => false
def mTs (N : List Str) (sc : Scope) (st : Str → Bool) : T → List Expr → Bool
  | .nm _, _ => false
  | .cons a r, es => match es with
    | x :: xs => mT N sc st a x && mTs N sc st r xs
    | [] => false
  | .nil, es => es.isEmpty
end
def isSlice : Expr → Bool
  | .Slice .. => true
  | _ => false
/-- storable names of a comprehension's block -/
def stBlk (scope : Scope) (own : List (Str × Nat)) (x : Str) : Bool := (match scope.names.lookup x with
  | some .local => true
  | some .cell => true
  | _ => false)
def isNop : C → Bool
  | .nop => true
  | _ => false
mutual
def mE : Nm → List Str → Scope → C → Expr → Bool
  | Γ, N, sc, .var i, e => match e with
    | .Name x _ => decide (N[i]? = some x) && visB sc x && nmOk x
    | _ => false
  | Γ, N, _, .num i, e => match e with
    | .Constant (.int j) _ _ => decide (i = j)
    | _ => false
  | Γ, N, _, .txt i, e => match e with
    | .Constant (.str j) _ _ => decide (i = j)
    | _ => false
  | Γ, N, _, .bl i, e => match e with
    | .Constant (.bool j) _ _ => decide (i = j)
    | _ => false
  | Γ, N, _, .non, e => match e with
    | .Constant .none _ _ => true
    | _ => false
  | Γ, N, sc, .glo x, e => match e with
    | .Name y _ => decide (x = y) && glB sc y && nmOk y && Γ.fns.contains y
    | _ => false
  | Γ, N, sc, .con x, e => match e with
    | .Name y _ => decide (x = y) && glB sc y && nmOk y && Γ.con.contains y
    | _ => false
  | Γ, N, sc, .bin op a b, e => match e with
    | .BinOp x o y _ => decide (op = o) && mE Γ N sc a x && mE Γ N sc b y
    | _ => false
  | Γ, N, sc, .neg a, e => match e with
    | .UnaryOp .USub x _ => mE Γ N sc a x
    | _ => false
  | Γ, N, sc, .not a, e => match e with
    | .UnaryOp .Not x _ => mE Γ N sc a x
    | _ => false
  | Γ, N, sc, .one a, e => match e with
    | .BoolOp _ [x] _ => mE Γ N sc a x
    | _ => false
  | Γ, N, sc, .and a b, e => match e with
    | .BoolOp .And (x :: y :: r) p => mE Γ N sc a x && mE Γ N sc b (.BoolOp .And (y :: r) p)
    | _ => false
  | Γ, N, sc, .or a b, e => match e with
    | .BoolOp .Or (x :: y :: r) p => mE Γ N sc a x && mE Γ N sc b (.BoolOp .Or (y :: r) p)
    | _ => false
  | Γ, N, sc, .cmp op a b, e => match e with
    | .Compare x [o] [y] _ => decide (op = o) && mE Γ N sc a x && mE Γ N sc b y
    | _ => false
  | Γ, N, sc, .chn op op' a b c, e => match e with
    | .Compare x [o, o'] [y, z] _ => decide (op = o) && decide (op' = o') && mE Γ N sc a x && mE Γ N sc b y && mE Γ N sc c z
    | _ => false
  | Γ, N, sc, .ite t a b, e => match e with
    | .IfExp x y z _ => mE Γ N sc t x && mE Γ N sc a y && mE Γ N sc b z
    | _ => false
  | Γ, N, sc, .cal f as, e => match e with
    | .Call (.Name y _) (x :: xs) [] _ => !Γ.hot && decide (f = y) && glB sc y && nmOk y && Γ.fns.contains y && mEs Γ N sc as (x :: xs)
    | _ => false
  | Γ, N, sc, .cav i fs as, e => match e with
    | .Call (.Name y _) (x :: xs) [] _ => !Γ.hot && decide (N[i]? = some y) && visB sc y && nmOk y && (fs.all fun f => Γ.fns.contains f) && mEs Γ N sc as (x :: xs)
    | _ => false
  | Γ, N, sc, .bif b as, e => match e with
    | .Call (.Name y _) (x :: xs) [] _ => (!Γ.hot || b.cool) && decide (b.name = y) && (match b.own with
      | true => glB sc y && nmOk y && Γ.bfn.contains y
      | false => blt Γ sc y) && mEs Γ N sc as (x :: xs)
    | _ => false
  | Γ, N, sc, .isi a t, e => match e with
    | .Call (.Name y _) [x, .Name z _] [] _ => decide (y = "isinstance") && blt Γ sc y && decide (z = t.nm) && blt Γ sc z && mE Γ N sc a x
    | _ => false
  | Γ, N, sc, .tup as, e => match e with
    | .Tuple es _ _ => mEs Γ N sc as es
    | _ => false
  | Γ, N, sc, .lst as, e => match e with
    | .List es _ => mEs Γ N sc as es
    | _ => false
  | Γ, N, sc, .cel as, e => match e with
    | .List es _ => mEs Γ N sc as es
    | _ => false
  | Γ, N, _, .nil, e => false
  | Γ, N, _, .cons _ _, e => false
  | Γ, N, sc, .idx a b, e => match e with
    | .Subscript x y _ => !isSlice y && mE Γ N sc a x && mE Γ N sc b y
    | _ => false
  | Γ, N, sc, .sli a lo hi, e => match e with
    | .Subscript x (.Slice l h none _) _ => mE Γ N sc a x && (match l with
      | none => isNop lo
      | some l => mE Γ N sc lo l) && (match h with
      | none => isNop hi
      | some h => mE Γ N sc hi h)
    | _ => false
  | Γ, N, _, .nop, e => false
  | Γ, N, sc, .cmpn own tg it cnd elt, e => match e with
    | .ListComp el [⟨t, i, ifs, 0⟩] scope _ => !Γ.hot && blkC N sc scope own && (T.slots tg).all (fun i => (own.map (·.2)).contains i) && mT N (relS scope sc) (stBlk scope own) tg t && mI Γ N sc it t i && (match ifs with
      | [] => isNop cnd
      | [x] => mE Γ.inn N (relS scope sc) cnd x
      | _ => false) && mE Γ.inn N (relS scope sc) elt el
    | _ => false
  | Γ, N, sc, .cmpl own tg a cnd elt, e => match e with
    | .ListComp el [⟨t, i, ifs, 0⟩] scope _ => Γ.hot && blkC N sc scope own && (T.slots tg).all (fun i => (own.map (·.2)).contains i) && mT N (relS scope sc) (stBlk scope own) tg t && mE Γ N sc a i && (match ifs with
      | [] => isNop cnd
      | [x] => mE Γ.inn N (relS scope sc) cnd x
      | _ => false) && mE Γ.inn N (relS scope sc) elt el
    | _ => false
  | Γ, N, sc, .err f b, e => match e with
    | .Call (.Name y _) [.Lambda params body scope _] [] _ => !Γ.hot && !Γ.isx && decide (f = y) && glB sc y && nmOk y && Γ.hnd.contains y && Γ.lam && noPar params && LamX.lamSB sc scope && mE Γ.low N scope b body
    | _ => false
  | Γ, N, sc, .isx i x, e => match e with
    | .Call (.Name y _) [.Name z _, .Name c _] [] _ => Γ.isx && decide (y = "isinstance") && blt Γ sc y && decide (N[i]? = some z) && visB sc z && nmOk z && decide (x = c) && glB sc c && nmOk c && Γ.cls.contains c
    | _ => false
  | Γ, N, sc, .joi a b, e => match e with
    | .Call (.Attribute v n ap) [x] [] cp => decide (n = "join") && notCall0 v && (ap.endLine == cp.line) && mE Γ N sc a v && mE Γ N sc b x
    | _ => false
  | Γ, N, _, .rng1 _, e => false
  | Γ, N, _, .rng2 _ _, e => false
  | Γ, N, _, .itr _, e => false
  | Γ, N, _, .itl _, e => false
  | Γ, N, _, .zip _ _, e => false
  | Γ, N, _, .enm _, e => false
/-- lists of expressions -/
def mEs : Nm → List Str → Scope → C → List Expr → Bool
  | Γ, N, _, .nil, es => es.isEmpty
  | Γ, N, sc, .cons a as, es => match es with
    | x :: xs => mE Γ N sc a x && mEs Γ N sc as xs
    | [] => false
  | Γ, N, _, _, _ => false
/-- what a loop walks -/
def mI : Nm → List Str → Scope → C → Expr → Expr → Bool
  | Γ, N, sc, .rng1 a, t, e => match e with
    | .Call (.Name y _) [x] [] _ => decide (y = "range") && blt Γ sc y && mE Γ N sc a x
    | _ => false
  | Γ, N, sc, .rng2 a b, t, e => match e with
    | .Call (.Name y _) [x, z] [] _ => decide (y = "range") && blt Γ sc y && mE Γ N sc a x && mE Γ N sc b z
    | _ => false
  | Γ, N, sc, .itr a, t, e => mE Γ N sc a e
  | Γ, N, sc, .itl a, t, e => mE Γ N sc a e
  | Γ, N, sc, .zip a b, t, e => match t with
    | .Tuple .. => match e with
      | .Call (.Name y _) [x, z] [] _ => decide (y = "zip") && blt Γ sc y && mE Γ N sc a x && mE Γ N sc b z
      | _ => false
    | _ => false
  | Γ, N, sc, .enm a, t, e => match t with
    | .Tuple .. => match e with
      | .Call (.Name y _) [x] [] _ => decide (y = "enumerate") && blt Γ sc y && mE Γ N sc a x
      | _ => false
    | _ => false
  | Γ, N, _, _, _, _ => false
end
end Den

/-! Den7: expressions: the checker's word is enough. -/
namespace Den
open PySem PySem.Spec PyProof.Rows L2
variable [Lams]

/-- what a def promises: it gives what the interpreter gives -/
def spOf (K : PySem.W.Frag) (g : G) (f : Str) : Sp := fun vs H Q E => ∃ B φ μ ds, MemOk K H φ μ B ∧ RdL K H (Live φ μ B) φ ds vs ∧ DenV K E B H φ μ (g.cal f ds μ) Q
/-- what a def makes of a lambda's reading: told of each end -/
def TTof (K : PySem.W.Frag) (h : Option Exn → Option D) : (XK → Hp → VK → Prop) → Hp → VK → Prop := fun tl H Q =>
  tl (fun cls dx H' => LamX.Tabs (lamT K) H' ∧ ∃ x d, ExnV K x cls dx H' ∧ h (some x) = some d ∧ flat d = true ∧ ∀ H'', LamX.ExtN H' H'' → LamX.Tabs (lamT K) H'' → Q (toV d) H'')
    H (fun _ H' => LamX.Tabs (lamT K) H' ∧ ∃ d, h none = some d ∧ flat d = true ∧ ∀ H'', LamX.ExtN H' H'' → LamX.Tabs (lamT K) H'' → Q (toV d) H'')
/-- a def that calls what it gets -/
def HndOk (P : Program) (w : World) (K : PySem.W.Frag) (mg : Str → Option Value) (base : Heap) (f : Str) (h : Option Exn → Option D) : Prop :=
  mg f = some (.ref (He.ga K f)) ∧ PySem.W.keepIn K (.ref (He.ga K f)) = true ∧
  ∃ (pg : Arguments) (bg : List Stmt) (sg : Scope) (dV kV doc pm cdv ct oc : Value) (an od : Option Addr) (osl : Array (Option Value)) (Ng : List Str) (a : Str),
    K.lookup (He.ga K f) = some ⟨oc, od, .func (PySem.W.fnOf f f pg bg sg dV kV doc pm an cdv ct), osl⟩ ∧ PySem.W.codeIn K cdv f = true ∧ Binds K (PySem.W.fnOf f f pg bg sg dV kV doc pm an cdv ct) [a] [] ∧ FnScope Ng [a] sg ∧ Ng[0]? = some a ∧ Vis sg a ∧ nmOk a = true ∧
    ∀ (X : Cx) (q : Str), X.prog = P → X.w = w → X.K = K → X.mg = mg → X.base = base → Room 2 X.A → GivesN X Ng f sg (He.ga K f) cdv bg a q (TTof K h)
/-- the context in which code runs -/
structure Cxd (Γ : Nm) (g : G) (k : Nat) (N : List Str) (sc : Scope) (st : Str → Bool) (W : XK) (X : Cx) : Prop where
  nd : X.N.Nodup
  nm : X.N = N
  scp : X.env.scope = sc
  calm : Γ.hot = false → X.calm = true
  hoti : Γ.hot = true → HotI X
  sto : ∀ x, st x = true → X.fn x = true ∨ X.env.scope.names.lookup x = some .local
  room : Γ.hot = false → Room k X.A
  un : X.A.units + 64 < cLine
  takes : L2N.Takes X (fun cls d _ H => W cls d H)
  isx : Γ.isx = true → ∃ x, g.exn = some x ∧ CallR X (.builtin "isinstance") (rIsE X.K (He.ga X.K x.cls) Lams.exa) ∧ ∀ C b, Γ.cls.contains C = true → g.sub x.cls C = some b → PySem.W.kitOne X.K (.ref (He.ga X.K x.cls)) (.ref (He.ga X.K C)) = some b
  cls : ∀ C, Γ.cls.contains C = true → X.mg C = some (.ref (He.ga X.K C))
  own : PassesOwn (model X.prog X.w) X.A X.env X.xe
  glo : ∀ x, Γ.fns.contains x = true → X.mg x = some (.ref (He.ga X.K x)) ∧ PySem.W.keepIn X.K (.ref (He.ga X.K x)) = true
  con : ∀ x d, Γ.con.contains x = true → g.con x = some d → ∃ v u, X.mg x = some u ∧ RelV v u ∧ ∀ H L φ, RdV X.K H L φ d v
  free : ∀ x, Γ.free.contains x = true → X.mg x = none
  bfn : ∀ b : Bf, b.own = true → Γ.bfn.contains b.name = true → X.mg b.name = some b.val
  exs : ∀ x, Γ.exs.contains x = true → ∃ B newId initId bmB, ExcBaseFacts B newId initId bmB ∧ PySem.W.excIn X.K (He.ga X.K x) bmB newId = true ∧ X.mg x = some (.ref (He.ga X.K x)) ∧ PySem.W.keepIn X.K (.ref (He.ga X.K x)) = true ∧ Raises X (.ref (He.ga X.K x))
  low : g.dp = true → ∃ k2, k = k2 + 2 ∧ ∀ f, Γ.fns.contains f = true → ∃ fd ps, FnOk X.prog X.w X.K X.mg X.base (L2N.CX X.prog X.w) k2 (He.ga X.K f) fd ps (spOf X.K g.low f) ∧ Binds X.K fd ps []
  hnd : ∀ f, Γ.hnd.contains f = true → HndOk X.prog X.w X.K X.mg X.base f (g.hnd f)
  lam : Γ.lam = true → ∃ (me : Str) (c : Addr), me ∈ Lams.lams ∧ X.env.code = .ref c ∧ X.env.qual = me ++ ".<locals>." ∧ LamX.TabB X.base X.mg c (He.cT X.K (me, none)).2 ∧ ∀ p ∈ lamT X.K, p.1 = (He.cT X.K (me, none)).2 → p.2 = me ++ ".<locals>." ++ "<lambda>"
  fns : ∀ f, Γ.fns.contains f = true → ∃ fd ps, FnOk X.prog X.w X.K X.mg X.base (L2N.CX X.prog X.w) k (He.ga X.K f) fd ps (spOf X.K g f) ∧ Binds X.K fd ps []
section
variable (K : PySem.W.Frag) (W : XK) (g : G)
def tC (c : C) : TE := fun σ H Q => ∃ B φ ρ μ, Abs K H σ φ ρ μ B ∧ DenV K W B H φ μ (evE g c ρ μ) Q
def tT (c : C) : TT := fun σ H Q => ∃ B φ ρ μ, Abs K H σ φ ρ μ B ∧ DenB K W B H φ μ (evT g c ρ μ) Q
def DenL (B : Addr → Prop) (H : Hp) (φ : List Addr) (μ : Mem) (r : R D) (Q : List V → Hp → Prop) : Prop := match r with
  | .ok (.tup ds) μ' => ∀ vs H' φ', Ext H φ μ H' φ' μ' → MemOk K H' φ' μ' B → RdL K H' (Live φ' μ' B) φ' ds vs → Q vs H'
  | .ok _ _ => False
  | .er x μ' => ∀ H' φ', Ext H φ μ H' φ' μ' → MemOk K H' φ' μ' B → ∀ cls dx, ExnV K x cls dx H' → W cls dx H'
  | .no => False
def tA (c : C) : TA := fun σ H Q => ∃ B φ ρ μ, Abs K H σ φ ρ μ B ∧ DenL K W B H φ μ (evE g c ρ μ) Q
end
theorem passAtN {X : Cx} {W : WX} (tk : L2N.Takes X W) (σ : L2.St) : PassesAt (L2N.CX X.prog X.w) X σ (WE W σ) := fun _ _ _ e s' I c => tk e s' (L2N.XE.of_call I (fun _ _ _ h => h) c)
theorem PE.weak {X : Cx} {e : Expr} {t t' : TE} (h : PE X e t) (f : ∀ σ H Q, t' σ H Q → t σ H Q) : PE X e t' := ⟨fun pins s σ H Q I hw => h.run pins s σ H Q I (f σ H Q hw)⟩
theorem PT.weak {X : Cx} {e : Expr} {t t' : TT} (h : PT X e t) (f : ∀ σ H Q, t' σ H Q → t σ H Q) : PT X e t' := ⟨fun pins s σ H Q I hw => h.run pins s σ H Q I (f σ H Q hw)⟩
theorem PW.weak {X : Cx} {e : Expr} {t t' : TT} (h : PW X e t) (f : ∀ σ H Q, t' σ H Q → t σ H Q) : PW X e t' := ⟨fun wh pins s σ H Q I hw => h.run wh pins s σ H Q I (f σ H Q hw)⟩
theorem PA.weak {X : Cx} {e : List Expr} {t t' : TA} (h : PA X e t) (f : ∀ σ H Q, t' σ H Q → t σ H Q) : PA X e t' := ⟨fun pos pins s σ H Q I hw => h.run pos pins s σ H Q I (f σ H Q hw)⟩
theorem PI.weak {X : Cx} {tg e : Expr} {t t' : TI} (h : PI X tg e t) (f : ∀ σ H Q, t' σ H Q → t σ H Q) : PI X tg e t' := ⟨fun pins s σ H Q I hw => h.run pins s σ H Q I (f σ H Q hw)⟩
section
variable {K : PySem.W.Frag} {W : XK} {B : Addr → Prop} {H : Hp} {φ : List Addr} {μ : Mem} {g : G} {ρ : DEnv}
theorem DenL.bindV (hl : φ.length = μ.length) {r : R D} {f : D → Mem → R D} {Q : List V → Hp → Prop} (h : DenL K W B H φ μ (r.bind f) Q) :
    DenV K W B H φ μ r (fun v H1 => ∃ φ1 μ1 d, Ext H φ μ H1 φ1 μ1 ∧ MemOk K H1 φ1 μ1 B ∧ RdV K H1 (Live φ1 μ1 B) φ1 d v ∧ DenL K W B H1 φ1 μ1 (f d μ1) Q) := by
  cases r with
  | ok d m =>
    refine fun v H' φ' e m' rd => ⟨φ', m, d, e, m', rd, ?_⟩
    have h' : DenL K W B H φ μ (f d m) Q := h
    cases q : f d m with
    | ok x m2 =>
      rw [q] at h'
      cases x with
      | tup ds => exact fun vs H2 φ2 e2 m2 rd2 => h' vs H2 φ2 (e.trans hl e2) m2 rd2
      | _ => exact h'.elim
    | er x m2 => rw [q] at h'; exact fun H2 φ2 e2 m2 cls dx z => h' H2 φ2 (e.trans hl e2) m2 cls dx z
    | no => rw [q] at h'; exact h'
  | er x m => exact h
  | no => exact h
theorem DenV.bindL (hl : φ.length = μ.length) {r : R D} {f : List D → Mem → R D} {Q : VK} (h : DenV K W B H φ μ (r.bind fun x μ1 => match x with | .tup ds => f ds μ1 | _ => .no) Q) :
    DenL K W B H φ μ r (fun vs H1 => ∃ φ1 μ1 ds, Ext H φ μ H1 φ1 μ1 ∧ MemOk K H1 φ1 μ1 B ∧ RdL K H1 (Live φ1 μ1 B) φ1 ds vs ∧ DenV K W B H1 φ1 μ1 (f ds μ1) Q) := by
  cases r with
  | ok d m =>
    cases d with
    | tup ds => exact fun vs H' φ' e m' rd => ⟨φ', m, ds, e, m', rd, DenV.shift e hl h⟩
    | _ => exact False.elim h
  | er x m => exact h
  | no => exact h
theorem DenL.bindL (hl : φ.length = μ.length) {r : R D} {x : D} {Q : List V → Hp → Prop} (h : DenL K W B H φ μ (r.bind fun y μ2 => match y with | .tup ds => .ok (.tup (x :: ds)) μ2 | _ => .no) Q) :
    DenL K W B H φ μ r (fun vs H1 => ∃ φ1 μ1 ds, Ext H φ μ H1 φ1 μ1 ∧ MemOk K H1 φ1 μ1 B ∧ RdL K H1 (Live φ1 μ1 B) φ1 ds vs ∧ ∀ v, RdV K H1 (Live φ1 μ1 B) φ1 x v → Q (v :: vs) H1) := by
  cases r with
  | ok d m =>
    cases d with
    | tup ds => exact fun vs H' φ' e m' rd => ⟨φ', m, ds, e, m', rd, fun v rv => h _ H' φ' e m' (rd.cons rv)⟩
    | _ => exact False.elim h
  | er x m => exact h
  | no => exact h
theorem DenL.imp {r : R D} {Q Q' : List V → Hp → Prop} (h : DenL K W B H φ μ r Q) (f : ∀ v H1, Q v H1 → Q' v H1) : DenL K W B H φ μ r Q' := by
  cases r with
  | ok d m =>
    cases d with
    | tup ds => exact fun vs H' φ' e m' rd => f _ _ (h vs H' φ' e m' rd)
    | _ => exact False.elim h
  | er x m => exact h
  | no => exact h
theorem tru_V {d : D} {f : Bool → Mem → R D} {Q : VK} (h : DenV K W B H φ μ ((tru d μ).bind f) Q) : ∃ b, truB μ d = some b ∧ DenV K W B H φ μ (f b μ) Q := by
  unfold tru at h
  cases q : truB μ d with
  | none => simp only [q] at h; exact h.elim
  | some b => simp only [q] at h; exact ⟨b, rfl, h⟩
theorem tru_B {d : D} {Q : Bool → Hp → Prop} (m : MemOk K H φ μ B) (h : DenB K W B H φ μ (tru d μ) Q) : ∃ b, truB μ d = some b ∧ Q b H := by
  unfold tru at h
  cases q : truB μ d with
  | none => simp only [q] at h; exact h.elim
  | some b => simp only [q] at h; exact ⟨b, rfl, h H φ .refl m⟩
/-! tests of the forms that the machine tests apart -/
theorem evT_not (a : C) : evT g (.not a) ρ μ = (evT g a ρ μ).bind fun b μ => .ok (!b) μ := by
  simp only [evT, evE]
  cases evE g a ρ μ with
  | ok d m =>
    simp only [R.bind, tru]
    cases truB m d with
    | none => rfl
    | some b => rfl
  | _ => rfl
theorem evT_one (a : C) : evT g (.one a) ρ μ = evT g a ρ μ := rfl
theorem evT_and (a b : C) : evT g (.and a b) ρ μ = (evT g a ρ μ).bind fun t μ => if t then evT g b ρ μ else .ok false μ := by
  simp only [evT, evE]
  cases evE g a ρ μ with
  | ok d m =>
    simp only [R.bind, tru]
    cases q : truB m d with
    | none => rfl
    | some t =>
      cases t with
      | true => rfl
      | false => simp [q]
  | _ => rfl
theorem evT_or (a b : C) : evT g (.or a b) ρ μ = (evT g a ρ μ).bind fun t μ => if t then .ok true μ else evT g b ρ μ := by
  simp only [evT, evE]
  cases evE g a ρ μ with
  | ok d m =>
    simp only [R.bind, tru]
    cases q : truB m d with
    | none => rfl
    | some t =>
      cases t with
      | true => simp [q]
      | false => rfl
  | _ => rfl
theorem evT_ite (t a b : C) : evT g (.ite t a b) ρ μ = (evT g t ρ μ).bind fun c μ => if c then evT g a ρ μ else evT g b ρ μ := by
  simp only [evT, evE]
  cases evE g t ρ μ with
  | ok d m =>
    simp only [R.bind, tru]
    cases q : truB m d with
    | none => rfl
    | some t => cases t <;> rfl
  | _ => rfl
/-- a value that is True or False, tested -/
theorem tru_bl {b : Bool} : tru (.bl b) μ = .ok b μ := rfl
theorem DenB.ofV {r : R D} {Q : Bool → Hp → Prop} (hr : ∀ d m, r = .ok d m → ∃ b, d = .bl b) (h : DenB K W B H φ μ (r.bind fun x μ1 => tru x μ1) Q) : DenV K W B H φ μ r (fun v H1 => ∃ k, v = .bl k ∧ Q k H1) := by
  cases r with
  | ok d m =>
    obtain ⟨b, rfl⟩ := hr d m rfl
    exact fun v H' φ' e m' rd => ⟨b, rdV_bl rd, h H' φ' e m'⟩
  | er x m => exact h
  | no => exact h
theorem bl_cmp (op : CmpOp) (a b : C) : ∀ d m, evE g (.cmp op a b) ρ μ = .ok d m → ∃ t, d = .bl t := by
  intro d m h
  simp only [evE] at h
  cases q1 : evE g a ρ μ with
  | ok x m1 =>
    simp only [q1, R.bind] at h
    cases q2 : evE g b ρ m1 with
    | ok y m2 =>
      simp only [q2, R.bind] at h
      cases q3 : cmpD op x y m2 with
      | ok t m3 => simp only [q3, R.bind] at h; cases h; exact ⟨t, rfl⟩
      | er => simp [q3, R.bind] at h
      | no => simp [q3, R.bind] at h
    | er => simp [q2, R.bind] at h
    | no => simp [q2, R.bind] at h
  | er => simp [q1, R.bind] at h
  | no => simp [q1, R.bind] at h
theorem bl_chn (op op' : CmpOp) (a b c : C) : ∀ d m, evE g (.chn op op' a b c) ρ μ = .ok d m → ∃ t, d = .bl t := by
  intro d m h
  simp only [evE] at h
  cases q1 : evE g a ρ μ with
  | ok x m1 =>
    simp only [q1, R.bind] at h
    cases q2 : evE g b ρ m1 with
    | ok y m2 =>
      simp only [q2, R.bind] at h
      cases q3 : cmpD op x y m2 with
      | ok t m3 =>
        cases t with
        | false => simp only [q3, R.bind] at h; cases h; exact ⟨_, rfl⟩
        | true =>
          simp only [q3, R.bind, if_true] at h
          cases q4 : evE g c ρ m3 with
          | ok z m4 =>
            simp only [q4, R.bind] at h
            cases q5 : cmpD op' y z m4 with
            | ok t m5 => simp only [q5, R.bind] at h; cases h; exact ⟨_, rfl⟩
            | er => simp [q5, R.bind] at h
            | no => simp [q5, R.bind] at h
          | er => simp [q4, R.bind] at h
          | no => simp [q4, R.bind] at h
      | er => simp [q3, R.bind] at h
      | no => simp [q3, R.bind] at h
    | er => simp [q2, R.bind] at h
    | no => simp [q2, R.bind] at h
  | er => simp [q1, R.bind] at h
  | no => simp [q1, R.bind] at h
end

/-! ### syntax that needs no rule of its own -/
def notStar : Expr → Bool
  | .Starred .. => false
  | _ => true
theorem star_eq {e : Expr} (h : notStar e = true) (es : List Expr) (env : PySem.Env) : starEach (e :: es) env = (false, eval e env) :: starEach es env := by
  cases e <;> first | rfl | (simp [notStar] at h)
theorem backTo_any {es : List Expr} (h : es.all notStar = true) (pos : Pos) (env : PySem.Env) : (backTo pos (starEach es env)).any (·.1) = false := by
  induction es with
  | nil => rfl
  | cons e es ih =>
    rw [List.all_cons, Bool.and_eq_true] at h
    rw [star_eq h.1]
    show (false || (backTo pos (starEach es env)).any (·.1)) = false
    rw [ih h.2]; rfl
def notSet : Expr → Bool
  | .Set .. => false
  | _ => true
theorem folded_eq {e : Expr} (h : notSet e = true) (env : PySem.Env) : ∀ x, foldedSetIterable e env x = pure x := by
  intro x
  cases e <;> first | rfl | (simp [notSet] at h)
theorem behind_eq {e : Expr} (h : notSet e = true) (op : CmpOp) : behindInMarks op e = false := by
  cases e <;> first | rfl | (simp [notSet] at h)
theorem plainIx_eq {e : Expr} (h : isSlice e = false) : PlainIx e := by
  intro o i
  cases e <;> first | rfl | (simp [isSlice] at h)
def plainTest : Expr → Bool
  | .UnaryOp .Not _ _ => false
  | .BoolOp .. => false
  | .IfExp .. => false
  | .Compare .. => false
  | _ => true
theorem plainTest_eq {e : Expr} (h : plainTest e = true) (env : PySem.Env) : ∀ whole, isTrue e env whole = (do let v ← whole; standAt e.pos; holding [v] (truthy v)) := by
  intro w
  cases e <;> first | rfl | (simp [plainTest] at h; done) | (rename_i op _ _; cases op <;> first | rfl | (simp [plainTest] at h; done))
/-- what the checker lets through is none of the odd forms -/
theorem mE_forms {Γ : Nm} {N : List Str} {sc : Scope} : ∀ {c : C} {e : Expr}, mE Γ N sc c e = true → notStar e = true ∧ notSet e = true := by
  intro c e h
  cases e <;> first | exact ⟨rfl, rfl⟩ | (exfalso; cases c <;> simp [mE] at h)
theorem mEs_forms {Γ : Nm} {N : List Str} {sc : Scope} : ∀ {c : C} {es : List Expr}, mEs Γ N sc c es = true → es.all notStar = true := by
  intro c es
  induction es generalizing c with
  | nil => intro _; rfl
  | cons e es ih =>
    intro h
    cases c with
    | cons a as =>
      simp only [mEs, Bool.and_eq_true] at h
      rw [List.all_cons, (mE_forms h.1).1, ih h.2]
      rfl
    | _ => simp [mEs] at h
theorem str_not {x y : Str} (h : (!(x == y)) = true) : (x == y) = false := by simpa using h
theorem nmOk_out {x : Str} (h : nmOk x = true) : (x == ("__debug__" : Str)) = false ∧ (x == ("__classdict__" : Str)) = false ∧ x ≠ "__name__" := by
  unfold nmOk at h
  simp only [Bool.and_eq_true] at h
  exact ⟨str_not h.1.1, str_not h.1.2, by simpa using h.2⟩
theorem visB_out {sc : Scope} {x : Str} (h : visB sc x = true) : Vis sc x := by
  unfold visB at h
  split at h
  · rename_i q; exact .inl q
  · rename_i q; exact .inr (.inl q)
  · rename_i q; exact .inr (.inr q)
  · cases h
theorem locB_out {sc : Scope} {x : Str} (h : locB sc x = true) : Loc sc x := by
  unfold locB at h
  split at h
  · rename_i q; exact .inl q
  · rename_i q; exact .inr q
  · cases h
theorem glB_out {X : Cx} {x : Str} (h : glB X.env.scope x = true) : Gl X x := by
  unfold glB at h
  split at h
  · rename_i q; exact q
  · cases h
section
variable {Γ : Nm} {g : G} {k : Nat} {N : List Str} {sc : Scope} {st : Str → Bool} {W : XK} {X : Cx}
theorem Cxd.blt (cx : Cxd Γ g k N sc st W X) {x : Str} (h : blt Γ sc x = true) : Gl X x ∧ X.mg x = none ∧ (x == ("__debug__" : Str)) = false ∧ x ≠ "__name__" := by
  unfold Den.blt at h
  simp only [Bool.and_eq_true] at h
  have q := nmOk_out h.1.2
  exact ⟨glB_out (by rw [cx.scp]; exact h.1.1), cx.free x h.2, q.1, q.2.2⟩
end
end Den

/-! Den8: targets, what is walked, comprehensions. -/
namespace Den
open PySem PySem.Spec PyProof.Rows L2
variable [Lams]

/-! ### targets -/
theorem pg_tupA {X : Cx} {pos : Pos} {es : List Expr} {k : Nat} {t : TGs} {n : Nat} (hc : X.calm = true ∨ HotI X) (h : PGs X es t) (hn : (assignEach es X.env).length = n) (hst : (assignEach es X.env).findIdx? (·.1) = none) : PG X (.Tuple es k pos) (gTup X.K n t) :=
  hc.elim (fun c => pg_tup c h hn hst) fun c => pg_tupH c h hn hst
section
variable (K : PySem.W.Frag)
def gT (t : T) : TG := fun v σ H Q => ∃ B φ ρ μ d ρ', Abs K H σ φ ρ μ B ∧ RdV K H (Live φ μ B) φ d v ∧ asg t d ρ = some ρ' ∧
  ∀ σ', Abs K H σ' φ ρ' μ B → (∀ vs : List Nat, (∀ i ∈ t.slots, i ∈ vs) → L2.wipe σ' vs = L2.wipe σ vs) → Q σ' H
def gTs (t : T) : TGs := fun ws σ H Q => ∃ B φ ρ μ ds ρ', Abs K H σ φ ρ μ B ∧ RdL K H (Live φ μ B) φ ds ws ∧ asg t (.tup ds) ρ = some ρ' ∧
  ∀ σ', Abs K H σ' φ ρ' μ B → (∀ vs : List Nat, (∀ i ∈ t.slots, i ∈ vs) → L2.wipe σ' vs = L2.wipe σ vs) → Q σ' H
end
theorem wipe_set {σ : L2.St} {i : Nat} {v : Option V} : ∀ {vs : List Nat}, i ∈ vs → L2.wipe (σ.set i v) vs = L2.wipe σ vs
  | w :: vs, h => by
    unfold L2.wipe
    by_cases hi : w = i
    · subst hi
      by_cases hm : w ∈ vs
      · rw [wipe_set hm]
      · -- the slot is emptied here
        have e : ∀ (us : List Nat), w ∉ us → L2.wipe (σ.set w v) us = (L2.wipe σ us).set w v := fun us hu => by
          induction us with
          | nil => rfl
          | cons u us ih =>
            rw [List.mem_cons, not_or] at hu
            unfold L2.wipe
            rw [ih hu.2, List.set_comm _ _ hu.1]
        rw [e vs hm, List.set_set]
    · rw [List.mem_cons] at h
      rw [wipe_set (h.resolve_left fun e => hi e.symm)]
theorem assignEach_len {env : PySem.Env} : ∀ es : List Expr, (assignEach es env).length = es.length
  | [] => rfl
  | e :: es => by
    have ih := assignEach_len (env := env) es
    cases e <;> (show (assignEach es env).length + 1 = es.length + 1; rw [ih])
theorem mT_star {N : List Str} {sc : Scope} {st : Str → Bool} {t : T} {e : Expr} (h : mT N sc st t e = true) : notStar e = true := by
  cases e <;> first | rfl | (exfalso; cases t <;> simp [mT] at h)
theorem assignEach_eq {env : PySem.Env} {e : Expr} (h : notStar e = true) (es : List Expr) : assignEach (e :: es) env = (false, assign e env) :: assignEach es env := by
  cases e <;> first | rfl | (simp [notStar] at h)
theorem mTs_find {N : List Str} {sc : Scope} {st : Str → Bool} {env : PySem.Env} : ∀ {t : T} {es : List Expr}, mTs N sc st t es = true → (assignEach es env).findIdx? (·.1) = none
  | .nm _, _, h => by simp [mTs] at h
  | .nil, es, h => by
    simp only [mTs, List.isEmpty_iff] at h
    subst h; rfl
  | .cons a r, [], h => by simp [mTs] at h
  | .cons a r, x :: xs, h => by
    simp only [mTs, Bool.and_eq_true] at h
    have ih := mTs_find (env := env) h.2
    rw [assignEach_eq (mT_star h.1), List.findIdx?_cons]
    simp [ih]
theorem asg_len : ∀ {t : T} {es : List Expr} {N : List Str} {sc : Scope} {st : Str → Bool} {ds : List D} {ρ ρ' : DEnv}, mTs N sc st t es = true → asg t (.tup ds) ρ = some ρ' → ds.length = es.length
  | .nm _, _, _, _, _, _, _, _, h, _ => by simp [mTs] at h
  | .nil, es, _, _, _, ds, _, _, h, q => by
    simp only [mTs, List.isEmpty_iff] at h
    subst h
    cases ds with
    | nil => rfl
    | cons d ds => simp [asg] at q
  | .cons a r, [], _, _, _, _, _, _, h, _ => by simp [mTs] at h
  | .cons a r, x :: xs, N, sc, st, ds, ρ, ρ', h, q => by
    simp only [mTs, Bool.and_eq_true] at h
    cases ds with
    | nil => simp [asg] at q
    | cons d ds =>
      simp only [asg] at q
      cases e : asg a d ρ with
      | none => rw [e] at q; cases q
      | some ρ1 =>
        rw [e] at q
        rw [List.length_cons, List.length_cons, asg_len h.2 q]
section
variable {X : Cx} {N : List Str} {sc : Scope} {st : Str → Bool}
mutual
theorem s_tgt (hN : X.N = N) (nd : X.N.Nodup) (hsc : X.env.scope = sc) (hc : X.calm = true ∨ HotI X) (hst : ∀ x, st x = true → X.fn x = true ∨ X.env.scope.names.lookup x = some .local) : ∀ {t : T} {e : Expr}, mT N sc st t e = true → PG X e (gT X.K t)
  | .nm i, e, h => by
    simp only [mT] at h
    split at h
    · rename_i x pos
      simp only [Bool.and_eq_true, decide_eq_true_eq] at h
      have p : PG X (.Name x pos) (gName i) := pg_name nd (by rw [hN]; exact h.1.1) (by rw [hsc]; exact locB_out h.1.2) (hst x h.2)
      refine ⟨fun pins s σ H v u Q I r hw => p.run pins s σ H v u Q I r ?_⟩
      obtain ⟨B, φ, ρ, μ, d, ρ', ab, rd, q, hQ⟩ := hw
      simp only [asg, Option.some.injEq] at q
      subst q
      exact hQ _ (ab.set rd) fun vs hv => wipe_set (hv i (by simp [T.slots]))
    · cases h
  | .nil, e, h => by
    simp only [mT] at h
    split at h
    · rename_i es k pos
      rw [List.isEmpty_iff] at h
      subst h
      have p : PG X (.Tuple [] k pos) (gTup X.K 0 gNil) := pg_tupA hc pgs_nil rfl rfl
      refine ⟨fun pins s σ H v u Q I r hw => p.run pins s σ H v u Q I r ?_⟩
      obtain ⟨B, φ, ρ, μ, d, ρ', ab, rd, q, hQ⟩ := hw
      cases d with
      | tup ds =>
        cases ds with
        | nil =>
          simp only [asg, Option.some.injEq] at q
          subst q
          obtain ⟨a, vs, rfl, h1, h2⟩ := rdV_tup rd
          simp only [RdL] at h2
          subst h2
          exact ⟨a, [], rfl, h1, rfl, rfl, hQ σ ab fun _ _ => rfl⟩
        | cons d ds => simp [asg] at q
      | _ => simp [asg] at q
    · cases h
  | .cons a r, e, h => by
    simp only [mT] at h
    split at h
    · rename_i es k pos
      split at h
      · rename_i x xs
        have h' : mTs N sc st (.cons a r) (x :: xs) = true := by simpa only [mTs] using h
        have p : PG X (.Tuple (x :: xs) k pos) (gTup X.K (x :: xs).length (gTs X.K (.cons a r))) := pg_tupA hc (s_tgts hN nd hsc hc hst h') (assignEach_len _) (mTs_find h')
        refine ⟨fun pins s σ H v u Q I r hw => p.run pins s σ H v u Q I r ?_⟩
        obtain ⟨B, φ, ρ, μ, d, ρ', ab, rd, q, hQ⟩ := hw
        cases d with
        | tup ds =>
          obtain ⟨b, vs, rfl, h1, h2⟩ := rdV_tup rd
          exact ⟨b, vs, rfl, h1, by rw [← h2.length]; exact asg_len h' q, B, φ, ρ, μ, ds, ρ', ab, h2, q, hQ⟩
        | _ => simp [asg] at q
      · cases h
    · cases h
theorem s_tgts (hN : X.N = N) (nd : X.N.Nodup) (hsc : X.env.scope = sc) (hc : X.calm = true ∨ HotI X) (hst : ∀ x, st x = true → X.fn x = true ∨ X.env.scope.names.lookup x = some .local) : ∀ {t : T} {es : List Expr}, mTs N sc st t es = true → PGs X es (gTs X.K t)
  | .nm _, _, h => by simp [mTs] at h
  | .nil, es, h => by
    simp only [mTs, List.isEmpty_iff] at h
    subst h
    refine ⟨fun pins s σ H vs us Q I r hw => pgs_nil.run pins s σ H vs us Q I r ?_⟩
    obtain ⟨B, φ, ρ, μ, ds, ρ', ab, rd, q, hQ⟩ := hw
    cases ds with
    | nil =>
      simp only [asg, Option.some.injEq] at q
      subst q
      simp only [RdL] at rd
      exact ⟨rd, hQ σ ab fun _ _ => rfl⟩
    | cons d ds => simp [asg] at q
  | .cons a r, [], h => by simp [mTs] at h
  | .cons a r, x :: xs, h => by
    simp only [mTs, Bool.and_eq_true] at h
    have p : PGs X (x :: xs) (gCons (gT X.K a) (gTs X.K r)) := pgs_cons (s_tgt hN nd hsc hc hst h.1) (s_tgts hN nd hsc hc hst h.2) (by rw [assignEach_eq (mT_star h.1)]; rfl)
    refine ⟨fun pins s σ H vs us Q I r hw => p.run pins s σ H vs us Q I r ?_⟩
    obtain ⟨B, φ, ρ, μ, ds, ρ', ab, rd, q, hQ⟩ := hw
    cases ds with
    | nil => simp [asg] at q
    | cons d ds =>
      simp only [asg] at q
      cases e : asg a d ρ with
      | none => rw [e] at q; cases q
      | some ρ1 =>
        rw [e] at q
        simp only [RdL] at rd
        obtain ⟨w, ws, rfl, r1, r2⟩ := rd
        refine ⟨w, ws, rfl, B, φ, ρ, μ, d, ρ1, ab, r1, e, fun σ1 ab1 w1 => ⟨B, φ, ρ1, μ, ds, ρ', ab1, r2, q, fun σ2 ab2 w2 => hQ σ2 ab2 fun vs hv => ?_⟩⟩
        rw [w2 vs fun i hi => hv i (by simp [T.slots, hi]), w1 vs fun i hi => hv i (by simp [T.slots, hi])]
end
end

/-! ### what is walked -/
/-- it gives the items, while nothing but changeable things changes -/
def ItOk (K : PySem.W.Frag) (H : Hp) (φ : List Addr) (μ : Mem) (B : Addr → Prop) (J : It) (items : List D) : Prop :=
  Walk J items.length (fun H1 => ∃ φ1 μ1, Ext H φ μ H1 φ1 μ1)
    (fun i H1 x H2 => (∀ a o, H1 a = some o → H2 a = some o) ∧ ∀ (B' : Addr → Prop) φ1 μ1 d, (∀ a, B' a → B a ∨ H a = none) → φ1.length = μ1.length → Ext H φ μ H1 φ1 μ1 → items[i]? = some d → RdV K H2 (Live φ1 μ1 B') φ1 d x)
section
variable (K : PySem.W.Frag) (W : XK) (g : G)
def DenI (B : Addr → Prop) (H : Hp) (φ : List Addr) (μ : Mem) (r : R D) (Q : It → Hp → Prop) : Prop := match r with
  | .ok (.tup ds) μ' => ∀ J H' φ', Ext H φ μ H' φ' μ' → MemOk K H' φ' μ' B → ItOk K H' φ' μ' B J ds → Q J H'
  | .ok _ _ => False
  | .er x μ' => ∀ H' φ', Ext H φ μ H' φ' μ' → MemOk K H' φ' μ' B → ∀ cls dx, ExnV K x cls dx H' → W cls dx H'
  | .no => False
def tI (c : C) : TI := fun σ H Q => ∃ B φ ρ μ, Abs K H σ φ ρ μ B ∧ DenI K W B H φ μ (evE g c ρ μ) Q
end
section
variable {K : PySem.W.Frag} {W : XK} {B : Addr → Prop} {H H1 : Hp} {φ φ1 : List Addr} {μ μ1 : Mem} {g : G} {ρ : DEnv}
theorem DenI.bindV (hl : φ.length = μ.length) {r : R D} {f : D → Mem → R D} {Q : It → Hp → Prop} (h : DenI K W B H φ μ (r.bind f) Q) :
    DenV K W B H φ μ r (fun v H1 => ∃ φ1 μ1 d, Ext H φ μ H1 φ1 μ1 ∧ MemOk K H1 φ1 μ1 B ∧ RdV K H1 (Live φ1 μ1 B) φ1 d v ∧ DenI K W B H1 φ1 μ1 (f d μ1) Q) := by
  cases r with
  | ok d m =>
    refine fun v H' φ' e m' rd => ⟨φ', m, d, e, m', rd, ?_⟩
    have h' : DenI K W B H φ μ (f d m) Q := h
    cases q : f d m with
    | ok x m2 =>
      rw [q] at h'
      cases x with
      | tup ds => exact fun vs H2 φ2 e2 m2 rd2 => h' vs H2 φ2 (e.trans hl e2) m2 rd2
      | _ => exact h'.elim
    | er x m2 => rw [q] at h'; exact fun H2 φ2 e2 m2 cls dx z => h' H2 φ2 (e.trans hl e2) m2 cls dx z
    | no => rw [q] at h'; exact h'
  | er x m => exact h
  | no => exact h
theorem DenI.here (m : MemOk K H φ μ B) {ds : List D} {Q : It → Hp → Prop} (h : DenI K W B H φ μ (.ok (.tup ds) μ) Q) {J : It} (i : ItOk K H φ μ B J ds) : Q J H := h J H φ .refl m i
theorem DenI.imp {r : R D} {Q Q' : It → Hp → Prop} (h : DenI K W B H φ μ r Q) (f : ∀ v H1, Q v H1 → Q' v H1) : DenI K W B H φ μ r Q' := by
  cases r with
  | ok d m =>
    cases d with
    | tup ds => exact fun vs H' φ' e m' rd => f _ _ (h vs H' φ' e m' rd)
    | _ => exact False.elim h
  | er x m => exact h
  | no => exact h
theorem DenV.bindI (hl : φ.length = μ.length) {r : R D} {f : List D → Mem → R D} {Q : VK} (h : DenV K W B H φ μ (r.bind fun x μ1 => match x with | .tup ds => f ds μ1 | _ => .no) Q) :
    DenI K W B H φ μ r (fun J H1 => ∃ φ1 μ1 ds, Ext H φ μ H1 φ1 μ1 ∧ MemOk K H1 φ1 μ1 B ∧ ItOk K H1 φ1 μ1 B J ds ∧ DenV K W B H1 φ1 μ1 (f ds μ1) Q) := by
  cases r with
  | ok d m =>
    cases d with
    | tup ds => exact fun J H' φ' e m' i => ⟨φ', m, ds, e, m', i, DenV.shift e hl h⟩
    | _ => exact False.elim h
  | er x m => exact h
  | no => exact h
theorem DenF.bindI (hl : φ.length = μ.length) {r : R D} {f : List D → Mem → R Fl} {Q : Ends} (h : DenF K W B H φ μ (r.bind fun x μ1 => match x with | .tup ds => f ds μ1 | _ => .no) Q) :
    DenI K W B H φ μ r (fun J H1 => ∃ φ1 μ1 ds, Ext H φ μ H1 φ1 μ1 ∧ MemOk K H1 φ1 μ1 B ∧ ItOk K H1 φ1 μ1 B J ds ∧ DenF K W B H1 φ1 μ1 (f ds μ1) Q) := by
  cases r with
  | ok d m =>
    cases d with
    | tup ds => exact fun J H' φ' e m' i => ⟨φ', m, ds, e, m', i, DenF.shift e hl h⟩
    | _ => exact False.elim h
  | er x m => exact h
  | no => exact h
/-! the sources -/
theorem itok_at {J : It} {items : List D} {vs : List V} {G : Hp → Prop} (w : Walk J items.length G (YAt vs)) (rd : RdL K H (Live φ μ B) φ items vs) (hl : φ.length = μ.length) (hG : ∀ H1 φ1 μ1, Ext H φ μ H1 φ1 μ1 → G H1) : ItOk K H φ μ B J items := by
  refine w.mono (fun H1 ⟨φ1, μ1, e⟩ => hG H1 φ1 μ1 e) fun i H1 x H2 hi ⟨φ0, μ0, _⟩ ⟨e1, e2⟩ => ?_
  subst e1
  refine ⟨fun _ _ h => h, fun B' φ1 μ1 d hB _ e hd => ?_⟩
  obtain ⟨v, h1, h2⟩ := rd.get hd
  rw [h1] at e2
  cases e2
  exact RdV.monoB e hl hB h2
theorem itok_list {a : Addr} {items : List D} {vs : List V} (h : H a = some (.lst vs)) (n : ¬ At φ μ a) (rd : RdL K H (Live φ μ B) φ items vs) (hl : φ.length = μ.length) : ItOk K H φ μ B (Itl K a) items :=
  itok_at (by rw [rd.length]; exact walk_list) rd hl fun H1 φ1 μ1 e => SqL.of (K := K) (e.keep a _ h nt_lst n)
theorem itok_tup {a : Addr} {items : List D} {vs : List V} (h : SqT K H a vs) (rd : RdL K H (Live φ μ B) φ items vs) (hl : φ.length = μ.length) : ItOk K H φ μ B (Itt K a) items :=
  itok_at (by rw [rd.length]; exact walk_tup) rd hl fun H1 φ1 μ1 e => by
    rcases h with (h1 | ⟨o, h1⟩) | h1
    · exact .inl (.inl (e.tup a vs h1))
    · exact .inl (.inr ⟨o, e.frz a o _ h1⟩)
    · exact .inr h1
theorem rngL_get {lo hi : Int} {i : Nat} {d : D} (h : (rngL lo hi)[i]? = some d) : d = .int (lo + i) := by
  unfold rngL at h
  rw [List.getElem?_map] at h
  cases q : (List.range (hi - lo).toNat)[i]? with
  | none => rw [q] at h; cases h
  | some j =>
    rw [q] at h
    rw [List.getElem?_range (by have := (List.getElem?_eq_some_iff.mp q).1; simpa using this)] at q
    cases q
    cases h
    rfl
theorem rngL_length (lo hi : Int) : (rngL lo hi).length = (hi - lo).toNat := by unfold rngL; rw [List.length_map, List.length_range]
theorem itok_rng {lo hi : Int} : ItOk K H φ μ B (Itr lo (hi - lo).toNat) (rngL lo hi) := by
  unfold ItOk
  rw [rngL_length]
  refine walk_range.mono (fun _ _ => trivial) fun i H1 x H2 hi _ ⟨e1, e2⟩ => ?_
  subst e1 e2
  refine ⟨fun _ _ h => h, fun B' φ1 μ1 d _ _ _ hd => ?_⟩
  rw [rngL_get hd]
  exact rd_int
theorem itok_str {z : Str} : ItOk K H φ μ B (Its z) (strL z) := by
  unfold ItOk
  have e : (strL z).length = z.cps.size := by unfold strL; rw [List.length_map, Array.length_toList]
  rw [e]
  refine walk_str.mono (fun _ _ => trivial) fun i H1 x H2 hi _ ⟨e1, c, e2, e3⟩ => ?_
  subst e1 e3
  refine ⟨fun _ _ h => h, fun B' φ1 μ1 d _ _ _ hd => ?_⟩
  unfold strL at hd
  rw [List.getElem?_map, Array.getElem?_toList, e2] at hd
  cases hd
  exact rd_str
/-- pairs, each a new tuple -/
theorem itok_pair {J : It} {items as bs : List D} {vs ws : Nat → Option V} {G : Hp → Prop} (w : Walk J items.length G (YPair vs ws)) (hG : ∀ H1 φ1 μ1, Ext H φ μ H1 φ1 μ1 → G H1) (hl : φ.length = μ.length)
    (rd : ∀ (i : Nat) (d : D), items[i]? = some d → ∃ a b v w, d = .tup [a, b] ∧ vs i = some v ∧ ws i = some w ∧ RdV K H (Live φ μ B) φ a v ∧ RdV K H (Live φ μ B) φ b w) : ItOk K H φ μ B J items := by
  refine w.mono (fun H1 ⟨φ1, μ1, e⟩ => hG H1 φ1 μ1 e) fun i H1 x H2 hi ⟨φ0, μ0, _⟩ ⟨T, x1, y1, e1, hT, e2, e3, e4⟩ => ?_
  subst e1 e2
  refine ⟨upd_keep hT, fun B' φ1 μ1 d hB hl1 e hd => ?_⟩
  obtain ⟨a, b, v, w', rfl, q1, q2, r1, r2⟩ := rd i d hd
  rw [q1] at e3; cases e3
  rw [q2] at e4; cases e4
  have s1 := RdV.mono (Ext.grow (μ := μ1) (φ := φ1) (upd_keep (o := .tup [x1, y1]) hT)) hl1 (RdV.monoB e hl hB r1)
  have s2 := RdV.mono (Ext.grow (μ := μ1) (φ := φ1) (upd_keep (o := .tup [x1, y1]) hT)) hl1 (RdV.monoB e hl hB r2)
  simp only [RdV]
  exact ⟨T, [x1, y1], rfl, SqT.of upd_same, .cons s1 (.cons s2 .nil)⟩
end
end Den

/-! Den9: expressions are sound. -/
namespace Den
open PySem PySem.Spec PyProof.Rows L2
variable [Lams]

theorem R.bind_assoc {α β γ : Type} (r : R α) (f : α → Mem → R β) (h : β → Mem → R γ) : (r.bind f).bind h = r.bind fun a m => (f a m).bind h := by cases r <;> rfl
section
variable {K : PySem.W.Frag} {W : XK} {B : Addr → Prop} {H : Hp} {φ : List Addr} {μ : Mem} {σ : L2.St} {ρ : DEnv}
theorem MemOk.less {B' : Addr → Prop} (m : MemOk K H φ μ B') (hB : ∀ a, B a → B' a) : MemOk K H φ μ B := by
  refine ⟨m.len, m.inj, fun i c a h1 h2 => ?_, fun a h => m.bt a (hB a h), m.tabs⟩
  obtain ⟨q, n⟩ := m.cell i c a h1 h2
  refine ⟨?_, fun h => n (hB a h)⟩
  cases c with
  | lst ds =>
    obtain ⟨vs, q1, q2⟩ := q
    exact ⟨vs, q1, RdL.monoB .refl m.len (fun a h => .inl (hB a h)) q2⟩
/-- one more thing that is being made, new there -/
theorem MemOk.more (m : MemOk K H φ μ B) {D : Addr} (hD : H D = none) {o : HO} (nt : NT o) : MemOk K (upd H D o) φ μ (fun a => B a ∨ a = D) := by
  have e : Ext H φ μ (upd H D o) φ μ := .grow (upd_keep hD)
  refine ⟨m.len, m.inj, fun i c a h1 h2 => ?_, fun a h => ?_, m.tabs.ext (upd_keep hD)⟩
  · obtain ⟨q, n⟩ := m.cell i c a h1 h2
    have hne : a ≠ D := fun z => by
      subst z
      cases c with
      | lst ds => obtain ⟨vs, q1, _⟩ := q; rw [hD] at q1; cases q1
    refine ⟨?_, fun h => h.elim n hne⟩
    cases c with
    | lst ds =>
      obtain ⟨vs, q1, q2⟩ := q
      exact ⟨vs, upd_keep hD a _ q1, RdL.monoB e m.len (fun b h => h.elim .inl fun z => .inr (by rw [z]; exact hD)) q2⟩
  · rcases h with h | h
    · obtain ⟨u, q1, q2⟩ := m.bt a h
      exact ⟨u, upd_keep hD a u q1, q2⟩
    · exact ⟨o, by rw [h, upd_same], nt⟩
mutual
theorem RdV.made {L : Addr → Prop} {p : Addr} {o : HO} {ws : List V} (hL : L p) (hD : H p = some (.lst ws)) : ∀ {d : D} {v : V}, RdV K H L φ d v → RdV K (upd H p o) L φ d v
  | .non, _, h => h
  | .bl _, _, h => h
  | .int _, _, h => h
  | .str _, _, h => h
  | .tup ds, v, h => by
    simp only [RdV] at h ⊢
    obtain ⟨a, vs, e1, h1, h2⟩ := h
    refine ⟨a, vs, e1, ?_, RdL.made hL hD h2⟩
    rcases h1 with (h1 | ⟨u, h1⟩) | h1
    · exact .inl (.inl (by rw [upd_ne (fun z => by rw [z, hD] at h1; cases h1)]; exact h1))
    · exact .inl (.inr ⟨u, by rw [upd_ne (fun z => by rw [z, hD] at h1; cases h1)]; exact h1⟩)
    · exact .inr h1
  | .lst ds, v, h => by
    simp only [RdV] at h ⊢
    obtain ⟨a, vs, e1, h1, h2, h3⟩ := h
    exact ⟨a, vs, e1, by rw [upd_ne (fun z => h2 (by rw [z]; exact hL))]; exact h1, h2, RdL.made hL hD h3⟩
  | .fls ds, v, h => by
    simp only [RdV] at h ⊢
    obtain ⟨a, vs, e1, h1, h3⟩ := h
    refine ⟨a, vs, e1, ?_, RdL.made hL hD h3⟩
    rcases h1 with ⟨h1, h2⟩ | ⟨u, h1⟩ | h1
    · exact .inl ⟨by rw [upd_ne (fun z => h2 (by rw [z]; exact hL))]; exact h1, h2⟩
    · exact .inr (.inl ⟨u, by rw [upd_ne (fun z => by rw [z, hD] at h1; cases h1)]; exact h1⟩)
    · exact .inr (.inr h1)
  | .glo _, _, h => h
  | .exc, _, h => h
  | .cel n, v, h => by simp only [RdV] at h ⊢; exact h
theorem RdL.made {L : Addr → Prop} {p : Addr} {o : HO} {ws : List V} (hL : L p) (hD : H p = some (.lst ws)) : ∀ {ds : List D} {vs : List V}, RdL K H L φ ds vs → RdL K (upd H p o) L φ ds vs
  | [], _, h => h
  | d :: ds, vs, h => by
    simp only [RdL] at h ⊢
    obtain ⟨w, ws', e1, h1, h2⟩ := h
    exact ⟨w, ws', e1, RdV.made hL hD h1, RdL.made hL hD h2⟩
end
/-- the thing that is being made is changed -/
theorem MemOk.made (m : MemOk K H φ μ B) {D : Addr} {o : HO} (nt : NT o) {ws : List V} (hB : B D) (hD : H D = some (.lst ws)) : MemOk K (upd H D o) φ μ B := by
  refine ⟨m.len, m.inj, fun i c a h1 h2 => ?_, fun a h => ?_, tabs_upd hD m.tabs⟩
  · obtain ⟨q, n⟩ := m.cell i c a h1 h2
    refine ⟨?_, n⟩
    have hne : a ≠ D := fun z => n (z ▸ hB)
    cases c with
    | lst ds =>
      obtain ⟨vs, q1, q2⟩ := q
      exact ⟨vs, by rw [upd_ne hne]; exact q1, RdL.made (.inl hB) hD q2⟩
  · by_cases z : a = D
    · exact ⟨o, by rw [z, upd_same], nt⟩
    · obtain ⟨u, q1, q2⟩ := m.bt a h
      exact ⟨u, by rw [upd_ne z]; exact q1, q2⟩
theorem Abs.more (a : Abs K H σ φ ρ μ B) {D : Addr} (hD : H D = none) {o : HO} (nt : NT o) : Abs K (upd H D o) σ φ ρ μ (fun a => B a ∨ a = D) :=
  ⟨a.mem.more hD nt, a.len, fun i d h => by
    obtain ⟨v, h1, h2⟩ := a.env i d h
    exact ⟨v, h1, RdV.monoB (.grow (upd_keep hD)) a.mem.len (fun b h => h.elim .inl fun z => .inr (by rw [z]; exact hD)) h2⟩⟩
theorem Abs.grow {H' : Hp} (a : Abs K H σ φ ρ μ B) (h : ∀ a o, H a = some o → H' a = some o) : Abs K H' σ φ ρ μ B := a.ext (.grow h) (a.mem.grow h)
end
/-! ### a comprehension -/
/-- a turn's test and element -/
def turnD (g : G) (cnd elt : C) (ρ : DEnv) (μ : Mem) : R (Option D) := match cnd with
  | .nop => (evE g elt ρ μ).bind fun y μ3 => .ok (some y) μ3
  | cnd => (evE g cnd ρ μ).bind fun t μ1 => (tru t μ1).bind fun b μ2 => if b then (evE g elt ρ μ2).bind fun y μ3 => .ok (some y) μ3 else .ok none μ2
def turnT (g : G) (tg : T) (cnd elt : C) (ρw : DEnv) (d : D) (μ : Mem) : R (Option D) := match asg tg d ρw with
  | some ρ' => turnD g cnd elt ρ' μ
  | none => .no
theorem evE_cmpn (g : G) (own : List (Str × Nat)) (tg : T) (it cnd elt : C) (ρ : DEnv) (μ : Mem) : evE g (.cmpn own tg it cnd elt) ρ μ = (evE g it ρ μ).bind fun x μ1 => match x with
    | .tup items => (compL (turnT g tg cnd elt (wipeD ρ (own.map (·.2)))) items [] μ1).bind fun ys μ2 => .ok (.lst ys) μ2
    | _ => .no := by
  simp only [evE]
  rfl
def noW : XK := fun _ _ _ => False
section
variable {K : PySem.W.Frag} {W : XK} {B : Addr → Prop} {H : Hp} {φ : List Addr} {μ : Mem} {σ : L2.St} {ρ : DEnv} {g : G}
/-- the tests' reading -/
def ttOf (K : PySem.W.Frag) (g : G) (cnd : C) : TT := match cnd with
  | .nop => tYes
  | c => tT K noW g c
/-- a turn goes on: its test, its element -/
theorem turn_out {B0 : Addr → Prop} {Ha : Hp} {φa : List Addr} {μa : Mem} {cnd elt : C} {f : Option D → Mem → R D} {Q : VK} (ab : Abs K H σ φ ρ μ B) (h : DenV K W B0 Ha φa μa ((turnD g cnd elt ρ μ).calm.bind f) Q)
    {Qb : Hp → Prop} {Qe : V → Hp → Prop}
    (h0 : ∀ H' φ' μ', Ext H φ μ H' φ' μ' → MemOk K H' φ' μ' B → DenV K W B0 Ha φa μa (f none μ') Q → Qb H')
    (h1 : ∀ v H' φ' μ' y, Ext H φ μ H' φ' μ' → MemOk K H' φ' μ' B → RdV K H' (Live φ' μ' B) φ' y v → DenV K W B0 Ha φa μa (f (some y) μ') Q → Qe v H') :
    ttOf K g cnd σ H fun b H3 => if b = true then tC K noW g elt σ H3 Qe else Qb H3 := by
  -- the element
  have el : ∀ (H2 : Hp) (φ2 : List Addr) (μ2 : Mem), Ext H φ μ H2 φ2 μ2 → MemOk K H2 φ2 μ2 B → DenV K W B0 Ha φa μa (((evE g elt ρ μ2).bind fun y μ3 => .ok (some y) μ3).calm.bind f) Q → tC K noW g elt σ H2 Qe := fun H2 φ2 μ2 e m z => by
    refine ⟨B, φ2, ρ, μ2, ab.ext e m, ?_⟩
    cases q : evE g elt ρ μ2 with
    | ok y μ3 =>
      rw [q] at z
      exact fun v H3 φ3 e3 m3 rd => h1 v H3 φ3 μ3 y (e.trans ab.mem.len e3) m3 rd z
    | er x m => rw [q] at z; exact False.elim z
    | no => rw [q] at z; exact False.elim z
  by_cases hn : cnd = .nop
  · subst hn
    exact el H φ μ .refl ab.mem h
  · have e1 : ttOf K g cnd = tT K noW g cnd := by cases cnd <;> first | rfl | exact absurd rfl hn
    have e2 : turnD g cnd elt ρ μ = (evT g cnd ρ μ).bind fun b μ2 => if b then (evE g elt ρ μ2).bind fun y μ3 => .ok (some y) μ3 else .ok none μ2 := by
      unfold evT
      rw [R.bind_assoc]
      cases cnd <;> first | rfl | exact absurd rfl hn
    rw [e1]
    rw [e2] at h
    refine ⟨B, φ, ρ, μ, ab, ?_⟩
    cases q : evT g cnd ρ μ with
    | ok b μ2 =>
      rw [q] at h
      intro H2 φ2 e m
      cases b with
      | true => exact el H2 φ2 μ2 e m h
      | false => exact h0 H2 φ2 μ2 e m h
    | er x m => rw [q] at h; exact False.elim h
    | no => rw [q] at h; exact False.elim h
theorem wipe_get {σ : L2.St} {i : Nat} : ∀ vs : List Nat, (L2.wipe σ vs)[i]? = if i ∈ vs ∧ i < σ.length then some none else σ[i]?
  | [] => by simp [L2.wipe]
  | v :: vs => by
    unfold L2.wipe
    rw [List.getElem?_set, wipe_get vs, L2.wipe_length]
    by_cases hi : v = i
    · subst hi
      by_cases hl : v < σ.length
      · simp [hl]
      · simp [hl, List.getElem?_eq_none (Nat.le_of_not_lt hl)]
    · simp [hi, List.mem_cons, Ne.symm hi]
theorem wipe_wipe {σ : L2.St} {vs : List Nat} : L2.wipe (L2.wipe σ vs) vs = L2.wipe σ vs := by
  refine List.ext_getElem? fun i => ?_
  rw [wipe_get, wipe_get, L2.wipe_length]
  split <;> rfl
theorem comp_den {own : List (Str × Nat)} {tg : T} {it cnd elt : C} {Q : VK} (hs : ∀ i ∈ tg.slots, i ∈ own.map (·.2)) (hw : tC K W g (.cmpn own tg it cnd elt) σ H Q) :
    tLc (tI K W g it) (gT K tg) (ttOf K g cnd) (tC K noW g elt) (own.map (·.2)) σ H Q := by
  obtain ⟨B, φ, ρ, μ, ab, h⟩ := hw
  rw [evE_cmpn] at h
  refine ⟨B, φ, ρ, μ, ab, (DenV.bindI ab.mem.len h).imp fun J H1 ⟨φ1, μ1, items, e1, m1, iok, h1⟩ => fun D hD => ?_⟩
  have ab1 : Abs K H1 σ φ1 ρ μ1 B := ab.ext e1 m1
  have nBD : ¬ B D := fun z => (by obtain ⟨o, q, _⟩ := m1.bt D z; rw [hD] at q; cases q)
  refine lc_it iok (fun i H' => ∃ φ' μ' acc vs, Ext H1 φ1 μ1 H' φ' μ' ∧ MemOk K H' φ' μ' (fun a => B a ∨ a = D) ∧ H' D = some (.lst vs) ∧ RdL K H' (Live φ' μ' fun a => B a ∨ a = D) φ' acc vs ∧
      DenV K W B H1 φ1 μ1 ((compL (turnT g tg cnd elt (wipeD ρ (own.map (·.2)))) (items.drop i) acc μ').bind fun ys μ2 => .ok (.lst ys) μ2) Q) ?_ ?_ ?_ ?_
  · exact ⟨φ1, μ1, [], [], .grow (upd_keep hD), m1.more hD nt_lst, upd_same, .nil, by
      rw [List.drop_zero]; exact h1⟩
  · rintro i H' _ ⟨φ', μ', acc, vs, e, _⟩
    exact ⟨φ', μ', e⟩
  · rintro i x H' H'' hi ⟨φ', μ', acc, vs, e, m, hDv, ra, hq⟩ ⟨gr, yd⟩
    have hd : items[i]? = some items[i] := List.getElem?_eq_getElem hi
    have hB : ∀ a, (B a ∨ a = D) → B a ∨ H1 a = none := fun a h => h.elim .inl fun z => .inr (by rw [z]; exact hD)
    have rx := yd (fun a => B a ∨ a = D) φ' μ' _ hB m.len e hd
    rw [List.drop_eq_getElem_cons hi] at hq
    simp only [compL] at hq
    -- the names in the block
    have abW : Abs K H'' (L2.wipe σ (own.map (·.2))) φ' (wipeD ρ (own.map (·.2))) μ' (fun a => B a ∨ a = D) := by
      have a0 : Abs K H' σ φ' ρ μ' (fun a => B a ∨ a = D) := ⟨m, ab1.len, fun j d hj => by
        obtain ⟨v, q1, q2⟩ := ab1.env j d hj
        exact ⟨v, q1, RdV.monoB e m1.len hB q2⟩⟩
      exact (a0.grow gr).wiped _
    cases qa : asg tg items[i] (wipeD ρ (own.map (·.2))) with
    | none =>
      have z : turnT g tg cnd elt (wipeD ρ (own.map (·.2))) items[i] μ' = .no := by unfold turnT; rw [qa]
      rw [z] at hq
      exact False.elim hq
    | some ρ' =>
      have z : turnT g tg cnd elt (wipeD ρ (own.map (·.2))) items[i] μ' = turnD g cnd elt ρ' μ' := by unfold turnT; rw [qa]
      rw [z, R.bind_assoc] at hq
      refine ⟨_, φ', _, μ', _, ρ', abW, rx, qa, fun σ2 ab2 w2 => ⟨(w2 _ hs).trans wipe_wipe, ?_⟩⟩
      have eg : Ext H' φ' μ' H'' φ' μ' := .grow gr
      have hD'' : H'' D = some (.lst vs) := gr D _ hDv
      have nAt : ∀ {H2 : Hp} {φ2 : List Addr} {μ2 : Mem}, MemOk K H2 φ2 μ2 (fun a => B a ∨ a = D) → ¬ At φ2 μ2 D := fun m2 ⟨j, c, q1, q2⟩ => (m2.cell j c D q1 q2).2 (.inr rfl)
      refine turn_out (B0 := B) ab2 hq (fun H3 φ3 μ3 e3 m3 z3 => ?_) fun y H3 φ3 μ3 d3 e3 m3 r3 z3 => ?_
      · have e' : Ext H' φ' μ' H3 φ3 μ3 := eg.trans m.len e3
        exact ⟨φ3, μ3, acc, vs, e.trans m1.len e', m3, e3.keep D _ hD'' nt_lst (nAt ab2.mem), RdL.mono e' m.len ra, z3⟩
      · have e' : Ext H' φ' μ' H3 φ3 μ3 := eg.trans m.len e3
        have hD3 : H3 D = some (.lst vs) := e3.keep D _ hD'' nt_lst (nAt ab2.mem)
        dsimp only at z3
        split at z3
        · rename_i hlt
          have hlt : acc.length < 16777216 := of_decide_eq_true hlt
          have eu : Ext H1 φ1 μ1 (upd H3 D (.lst (vs ++ [y]))) φ3 μ3 := by
            have f := e.trans m1.len e'
            refine ⟨f.pre, f.dead, f.fresh, fun a o h nt n => ?_, fun a o h nt => ?_, fun a xs h => ?_, fun a o u h => ?_⟩
            · rw [upd_ne (ne_of_none h hD)]; exact f.keep a o h nt n
            · rw [upd_ne (ne_of_none h hD)]; exact f.there a o h nt
            · rw [upd_ne (ne_of_none h hD)]; exact f.tup a xs h
            · rw [upd_ne (ne_of_none h hD)]; exact f.frz a o u h
          refine ⟨vs, hD3, by rw [sizeLine_eq, ← ra.length]; exact hlt, φ3, μ3, acc ++ [d3], vs ++ [y], eu, m3.made nt_lst (.inr rfl) hD3, upd_same, ?_, ?_⟩
          · exact (RdL.made (.inl (.inr rfl)) hD3 (RdL.mono e' m.len ra)).append (.cons (RdV.made (.inl (.inr rfl)) hD3 r3) .nil)
          · exact z3
        · exact False.elim z3
  · rintro H' ⟨φ', μ', acc, vs, e, m, hDv, ra, hq⟩
    rw [List.drop_length] at hq
    have m' : MemOk K H' φ' μ' B := m.less fun a h => .inl h
    refine hq (.ref D) H' φ' e m' ?_
    simp only [RdV]
    refine ⟨D, vs, rfl, hDv, fun l => ?_, RdL.monoB .refl m.len (fun a h => .inl (.inl h)) ra⟩
    rcases l with l | ⟨j, c, q1, q2⟩
    · exact nBD l
    · exact (m.cell j c D q1 q2).2 (.inr rfl)
end
end Den

/-! Den10: expressions are sound: one induction over the code. -/
namespace Den
open PySem PySem.Spec PyProof.Rows L2
variable [Lams]

section
variable {K : PySem.W.Frag} {W : XK} {B : Addr → Prop} {H : Hp} {φ : List Addr} {μ : Mem} {σ : L2.St} {ρ : DEnv} {g : G}
theorem den1 {a : C} {f : D → Mem → R D} {Q : VK} (ab : Abs K H σ φ ρ μ B) (h : DenV K W B H φ μ ((evE g a ρ μ).bind f) Q) : tC K W g a σ H fun x H1 => rD1 K W f x H1 Q :=
  ⟨B, φ, ρ, μ, ab, (DenV.bindV ab.mem.len h).imp fun v H1 ⟨φ1, μ1, d, e1, m1, r1, h1⟩ => ⟨B, φ1, μ1, d, m1, r1, h1⟩⟩
theorem den2 {a b : C} {f : D → D → Mem → R D} {Q : VK} (ab : Abs K H σ φ ρ μ B) (h : DenV K W B H φ μ ((evE g a ρ μ).bind fun x μ1 => (evE g b ρ μ1).bind fun y μ2 => f x y μ2) Q) :
    tC K W g a σ H fun x H1 => tC K W g b σ H1 fun y H2 => rD2 K W f x y H2 Q :=
  ⟨B, φ, ρ, μ, ab, (DenV.bindV ab.mem.len h).imp fun v H1 ⟨φ1, μ1, d, e1, m1, r1, h1⟩ => ⟨B, φ1, ρ, μ1, ab.ext e1 m1, (DenV.bindV m1.len h1).imp fun y H2 ⟨φ2, μ2, d2, e2, m2, r2, h2⟩ => ⟨B, φ2, μ2, d, d2, m2, RdV.mono e2 m1.len r1, r2, h2⟩⟩⟩
theorem denL {a : C} {f : List D → Mem → R D} {Q : VK} (ab : Abs K H σ φ ρ μ B) (h : DenV K W B H φ μ ((evE g a ρ μ).bind fun x μ1 => match x with | .tup ds => f ds μ1 | _ => .no) Q) : tA K W g a σ H fun xs H1 => rDL K W f xs H1 Q :=
  ⟨B, φ, ρ, μ, ab, (DenV.bindL ab.mem.len h).imp fun vs H1 ⟨φ1, μ1, ds, e1, m1, r1, h1⟩ => ⟨B, φ1, μ1, ds, m1, r1, h1⟩⟩
/-- a truth value, then what is behind it -/
theorem den_tru {d : D} {v : V} {f : Bool → Mem → R D} {Q : VK} (m : MemOk K H φ μ B) (r : RdV K H (Live φ μ B) φ d v) (h : DenV K W B H φ μ ((tru d μ).bind f) Q) : ∃ k, TruV K v H k ∧ DenV K W B H φ μ (f k μ) Q := by
  obtain ⟨b, h1, h2⟩ := tru_V h
  exact ⟨b, tru_rd m r h1, h2⟩
theorem w_cmp {op : CmpOp} {a b : C} {Q : VK} (h : tC K W g (.cmp op a b) σ H Q) : tOp (rD2 K W (cmpV op)) (tC K W g a) (tC K W g b) σ H Q := by
  obtain ⟨B, φ, ρ, μ, ab, h⟩ := h
  exact den2 ab h
theorem DenV.ofB {r : R Bool} {f : Bool → Mem → R D} {Q : VK} {b : Bool} (m : MemOk K H φ μ B) (e : r = .ok b μ) (h : DenV K W B H φ μ (r.bind f) Q) : DenV K W B H φ μ (f b μ) Q := by
  subst e; exact h
theorem w_chn {op op' : CmpOp} {a b c : C} {Q : VK} (h : tC K W g (.chn op op' a b c) σ H Q) : tChain (rD2 K W (cmpV op)) (rD2 K W (cmpV op')) (tC K W g a) (tC K W g b) (tC K W g c) σ H Q := by
  obtain ⟨B, φ, ρ, μ, ab, h⟩ := h
  refine ⟨B, φ, ρ, μ, ab, (DenV.bindV ab.mem.len h).imp fun v H1 ⟨φ1, μ1, d, e1, m1, r1, h1⟩ => ⟨B, φ1, ρ, μ1, ab.ext e1 m1, (DenV.bindV m1.len h1).imp fun y H2 ⟨φ2, μ2, d2, e2, m2, r2, h2⟩ => ⟨B, φ2, μ2, d, d2, m2, RdV.mono e2 m1.len r1, r2, ?_⟩⟩⟩
  unfold cmpV
  cases q : cmpB op d d2 μ2 with
  | none => simp only [cmpD, q] at h2; exact False.elim h2
  | some t =>
    have e : cmpD op d d2 μ2 = .ok t μ2 := by unfold cmpD; rw [q]
    rw [e]
    rw [e] at h2
    intro w H3 φ3 e3 m3 r3
    have a3 := (ab.ext e1 m1).ext (e2.trans m1.len e3 : Ext H1 φ1 μ1 H3 φ3 μ2) m3
    refine ⟨t, rdV_bl r3, ?_⟩
    cases t with
    | false => exact DenV.here m3 (DenV.shift e3 m2.len h2) rd_bl
    | true =>
      exact ⟨B, φ3, ρ, μ2, a3, (DenV.bindV m3.len (DenV.shift e3 m2.len h2)).imp fun z H4 ⟨φ4, μ4, d4, e4, m4, r4, h4⟩ => ⟨B, φ4, μ4, d2, d4, m4, RdV.mono (e3.trans m2.len e4) m2.len r2, r4, h4⟩⟩
end
theorem po_any {X : Cx} {e : Expr} {te : TE} (h : PE X e te) : PO X (some e) (fun σ H Q => te σ H fun x H1 => (∃ i, x = .int i ∧ Q (some i) H1) ∨ (x = .non ∧ Q none H1)) := by
  refine ⟨fun pins s σ H Q I hw => ?_⟩
  rw [evalPart_some]
  refine thn (h.run pins s σ H _ I hw) fun u s1 ⟨x, H1, I1, r1, q1⟩ => ?_
  rcases q1 with ⟨i, ex, q⟩ | ⟨ex, q⟩
  · subst ex
    obtain ⟨tok, ey⟩ := r1
    subst ey
    exact ⟨some i, H1, I1, .int i tok, q⟩
  · subst ex
    cases (show u = Value.none from r1)
    exact ⟨none, H1, I1, .none, q⟩
/-- a list, a tuple or a text is walked -/
theorem pi_any {X : Cx} {tg l : Expr} {tl : TE} (hl : PE X l tl) : PI X tg l (fun σ H R => tl σ H fun x H1 => (∃ a, x = .ref a ∧ (∃ xs, SqL X.K H1 a xs) ∧ R (Itl X.K a) H1) ∨ (∃ a, x = .ref a ∧ (∃ xs, SqT X.K H1 a xs) ∧ R (Itt X.K a) H1) ∨ ∃ z, x = .str z ∧ R (Its z) H1) := by
  refine ⟨fun pins s σ H R I hw => thn (hl.run pins s σ H _ I hw) fun v s1 ⟨x, H1, I1, r1, q1⟩ => ?_⟩
  have new : ∀ {b : Addr}, b ∈ [s1.heap.objs.size] → FpOk X pins H1 b := fun {b} hb => by
    rw [List.mem_singleton] at hb
    rw [hb]
    exact I1.fpOk (Nat.le_refl _) (I1.hok.fresh (Nat.le_refl _))
  rcases q1 with ⟨a, ex, ⟨xs, hq⟩, q⟩ | ⟨a, ex, ⟨xs, hq⟩, q⟩ | ⟨z, ex, q⟩
  · subst ex
    cases r1
    obtain ⟨its, _, p, _⟩ := I1.list hq
    exact wpAny_pyIter_list p.isList ⟨_, [s1.heap.objs.size], _, _, H1, rfl, I1.kept (t' := s1.toks) (fun b o e => Heap.get?_push_of_some _ e), turn_list a _, ⟨_, Heap.get?_push_size _ rfl, rfl, rfl⟩, fun b hb => new hb, q⟩
  · subst ex
    cases r1
    obtain ⟨its, _, p, _⟩ := I1.tuple hq
    exact wpAny_pyIter_tuple (show s1.heap.IsTuple a its.toArray from p) ⟨_, [s1.heap.objs.size], _, _, H1, rfl, I1.kept (t' := s1.toks) (fun b o e => Heap.get?_push_of_some _ e), turn_tuple a _, ⟨_, Heap.get?_push_size _ rfl, rfl, rfl⟩, fun b hb => new hb, q⟩
  · subst ex
    obtain ⟨tok, ey⟩ := r1
    subst ey
    cases ha : z.cps.all (· < 128) with
    | false => exact wpAny_pyIter_wide ha (pi_one (tk := s1.toks) I1 _ (turn_str _ z tok "str_iterator" (.inr rfl)) ⟨_, Heap.get?_push_size _ rfl, rfl, rfl⟩ q)
    | true => exact wpAny_pyIter_ascii ha (pi_one (tk := s1.toks) I1 _ (turn_str _ z tok "str_ascii_iterator" (.inl rfl)) ⟨_, Heap.get?_push_size _ rfl, rfl, rfl⟩ q)
/-- a test a if t else b -/
theorem pt_ite {X : Cx} {c a b : Expr} {tA ta tb : TT} {pos : Pos} (hc : PT X c tA) (ha : PT X a ta) (hb : PT X b tb) : PT X (.IfExp c a b pos) (fun σ H Q => tA σ H fun k H1 => if k = true then ta σ H1 Q else tb σ H1 Q) :=
  ⟨fun pins s σ H Q I h => isTrue_IfExp (thn (hc.run pins s σ H _ I h) fun d s1 ⟨H1, I1, q1⟩ => by
    cases d with
    | true => exact ha.run pins s1 σ H1 Q I1 q1
    | false => exact hb.run pins s1 σ H1 Q I1 q1)⟩
/-- what is shown of code -/
structure Snd (Γ : Nm) (g : G) (k : Nat) (N : List Str) (c : C) : Prop where
  e : ∀ {sc : Scope} {e : Expr} {st : Str → Bool} {W : XK} {X : Cx}, mE Γ N sc c e = true → Cxd Γ g k N sc st W X → PE X e (tC X.K W g c)
  t : ∀ {sc : Scope} {e : Expr} {st : Str → Bool} {W : XK} {X : Cx}, mE Γ N sc c e = true → Cxd Γ g k N sc st W X → PT X e (tT X.K W g c)
  w : ∀ {sc : Scope} {op : BoolOp} {es : List Expr} {p : Pos} {st : Str → Bool} {W : XK} {X : Cx}, mE Γ N sc c (.BoolOp op es p) = true → Cxd Γ g k N sc st W X → PW X (.BoolOp op es p) (tT X.K W g c)
  a : ∀ {sc : Scope} {es : List Expr} {st : Str → Bool} {W : XK} {X : Cx}, mEs Γ N sc c es = true → Cxd Γ g k N sc st W X → PA X es (tA X.K W g c)
  i : ∀ {sc : Scope} {t e : Expr} {st : Str → Bool} {W : XK} {X : Cx}, mI Γ N sc c t e = true → Cxd Γ g k N sc st W X → PI X t e (tI X.K W g c)
section
variable {Γ : Nm} {g : G} {k : Nat} {N : List Str}
/-- a value that is tested as such -/
theorem pt_ofE {X : Cx} {e : Expr} {W : XK} {c : C} (p : plainTest e = true) (h : PE X e (tC X.K W g c)) : PT X e (tT X.K W g c) :=
  PT.weak (pt_truth h (plainTest_eq p X.env)) fun σ H Q ⟨B, φ, ρ, μ, ab, hw⟩ => ⟨B, φ, ρ, μ, ab, (DenB.bindV ab.mem.len hw).imp fun v H1 ⟨φ1, μ1, d, e1, m1, r1, h1⟩ => by
    obtain ⟨b, q1, q2⟩ := tru_B m1 h1
    exact ⟨b, tru_rd m1 r1 q1, q2⟩⟩
def isBoolOp : Expr → Bool
  | .BoolOp .. => true
  | _ => false
theorem Snd.ofE {c : C} (hp : ∀ {sc e}, mE Γ N sc c e = true → plainTest e = true) (ha : ∀ sc es, mEs Γ N sc c es = false) (hi : ∀ sc t e, mI Γ N sc c t e = false)
    (he : ∀ {sc : Scope} {e : Expr} {st : Str → Bool} {W : XK} {X : Cx}, mE Γ N sc c e = true → Cxd Γ g k N sc st W X → PE X e (tC X.K W g c)) : Snd Γ g k N c where
  e := he
  t := fun h cx => pt_ofE (hp h) (he h cx)
  w := fun h cx => by have := hp h; simp [plainTest] at this
  a := fun h => by rw [ha] at h; cases h
  i := fun h => by rw [hi] at h; cases h
theorem plain_of {e : Expr} (h : plainTest e = true) : isBoolOp e = false := by cases e <;> first | rfl | (simp [plainTest] at h)
theorem starE {es : List Expr} {e : Expr} {c a : C} {sc : Scope} (h : mEs Γ N sc c (e :: es) = true) (env : PySem.Env) : starEach (e :: es) env = (false, eval e env) :: starEach es env ∧ ∀ pos, (backTo pos (starEach es env)).any (·.1) = false := by
  have q := mEs_forms h
  rw [List.all_cons, Bool.and_eq_true] at q
  exact ⟨star_eq q.1 es env, fun pos => backTo_any q.2 pos env⟩
theorem vals_tup {K : PySem.W.Frag} {W : XK} {B : Addr → Prop} {H : Hp} {φ : List Addr} {μ : Mem} {ds : List D} {Q : VK} (m : MemOk K H φ μ B) {vs : List V} (rl : RdL K H (Live φ μ B) φ ds vs)
    (h : DenV K W B H φ μ (if fits ds.length then .ok (.tup ds) μ else .no) Q) : vs.length ≤ sizeLine ∧ ∀ p, H p = none → Q (.ref p) (upd H p (.tup vs)) := by
  split at h
  · rename_i hf
    exact ⟨by rw [← rl.length]; exact fits_iff.mp hf, fun p hp => DenV.new m h hp (rd_newT m hp rl)⟩
  · exact False.elim h
theorem vals_lst {K : PySem.W.Frag} {W : XK} {B : Addr → Prop} {H : Hp} {φ : List Addr} {μ : Mem} {ds : List D} {Q : VK} (m : MemOk K H φ μ B) {vs : List V} (rl : RdL K H (Live φ μ B) φ ds vs)
    (h : DenV K W B H φ μ (if fits ds.length then .ok (.lst ds) μ else .no) Q) : vs.length ≤ sizeLine ∧ ∀ p, H p = none → Q (.ref p) (upd H p (.lst vs)) := by
  split at h
  · rename_i hf
    exact ⟨by rw [← rl.length]; exact fits_iff.mp hf, fun p hp => DenV.new m h hp (rd_newL m hp rl)⟩
  · exact False.elim h
theorem vals_cel {K : PySem.W.Frag} {W : XK} {B : Addr → Prop} {H : Hp} {φ : List Addr} {μ : Mem} {ds : List D} {Q : VK} (m : MemOk K H φ μ B) {vs : List V} (rl : RdL K H (Live φ μ B) φ ds vs)
    (h : DenV K W B H φ μ (if fits ds.length then .ok (.cel μ.length) (μ ++ [some (.lst ds)]) else .no) Q) : vs.length ≤ sizeLine ∧ ∀ p, H p = none → Q (.ref p) (upd H p (.lst vs)) := by
  split at h
  · rename_i hf
    refine ⟨by rw [← rl.length]; exact fits_iff.mp hf, fun p hp => ?_⟩
    have at_ : ∀ {a : Addr}, At (φ ++ [p]) (μ ++ [some (.lst ds)]) a → At φ μ a ∨ a = p := fun {a} ⟨i, c, h1, h2⟩ => by
      by_cases hi : i < μ.length
      · rw [List.getElem?_append_left hi] at h1
        rw [List.getElem?_append_left (by rw [m.len]; exact hi)] at h2
        exact .inl ⟨i, c, h1, h2⟩
      · rw [List.getElem?_append_right (by rw [m.len]; omega)] at h2
        have : i - φ.length = 0 := by
          have := (List.getElem?_eq_some_iff.mp h2).1
          simp at this; omega
        rw [this] at h2
        cases h2
        exact .inr rfl
    have e : Ext H φ μ (upd H p (.lst vs)) (φ ++ [p]) (μ ++ [some (.lst ds)]) := by
      refine ⟨⟨_, rfl⟩, fun i hi h1 => by rw [List.getElem?_append_left (by rw [← m.len]; exact hi)]; exact h1, fun i a o hi h1 h2 => ?_, fun a o h1 _ _ => upd_keep hp a o h1, fun a o h1 nt => ⟨o, upd_keep hp a o h1, nt⟩, fun a xs h1 => upd_keep hp a _ h1, fun a o u h1 => upd_keep hp a _ h1⟩
      · rw [List.getElem?_append_right hi] at h1
        have : i - φ.length = 0 := by
          have := (List.getElem?_eq_some_iff.mp h1).1
          simp at this; omega
        rw [this] at h1
        cases h1
        rw [hp] at h2
        cases h2
    have ml : φ.length = μ.length := m.len
    have one : ∀ {a : Addr}, ¬ Live φ μ B p → True := fun _ => trivial
    have nB : ¬ B p := fun z => (by obtain ⟨o, q, _⟩ := m.bt p z; rw [hp] at q; cases q)
    have m' : MemOk K (upd H p (.lst vs)) (φ ++ [p]) (μ ++ [some (.lst ds)]) B := by
      refine ⟨by simp [m.len], fun i j a c c' h1 h2 h3 h4 => ?_, fun i c a h1 h2 => ?_, fun a h1 => ?_, m.tabs.ext (upd_keep hp)⟩
      · have lt : ∀ {i : Nat} {c : Cell}, (μ ++ [some (.lst ds)])[i]? = some (some c) → i < μ.length ∨ i = μ.length := fun {i c} h => by
          have := (List.getElem?_eq_some_iff.mp h).1
          simp at this; omega
        have get : ∀ {i : Nat} {c : Cell}, i < μ.length → (μ ++ [some (.lst ds)])[i]? = some (some c) → (φ ++ [p])[i]? = some a → a ≠ p := fun {i c} hi h h' => by
          rw [List.getElem?_append_left hi] at h
          rw [List.getElem?_append_left (by rw [ml]; exact hi)] at h'
          intro z
          subst z
          obtain ⟨q, _⟩ := m.cell i c a h h'
          cases c with
          | lst es => obtain ⟨ws, q1, _⟩ := q; rw [hp] at q1; cases q1
        have top : ∀ {i : Nat}, i = μ.length → (φ ++ [p])[i]? = some a → a = p := fun {i} hi h => by
          rw [hi, ← ml, List.getElem?_append_right (Nat.le_refl _), Nat.sub_self] at h
          cases h; rfl
        rcases lt h1 with l1 | l1
        · rcases lt h2 with l2 | l2
          · rw [List.getElem?_append_left l1] at h1
            rw [List.getElem?_append_left l2] at h2
            rw [List.getElem?_append_left (by rw [ml]; exact l1)] at h3
            rw [List.getElem?_append_left (by rw [ml]; exact l2)] at h4
            exact m.inj i j a c c' h1 h2 h3 h4
          · exact absurd (top l2 h4) (get l1 h1 h3)
        · rcases lt h2 with l2 | l2
          · exact absurd (top l1 h3) (get l2 h2 h4)
          · rw [l1, l2]
      · by_cases hi : i < μ.length
        · rw [List.getElem?_append_left hi] at h1
          rw [List.getElem?_append_left (by rw [ml]; exact hi)] at h2
          obtain ⟨q, n⟩ := m.cell i c a h1 h2
          refine ⟨?_, n⟩
          cases c with
          | lst es =>
            obtain ⟨ws, q1, q2⟩ := q
            exact ⟨ws, upd_keep hp a _ q1, RdL.mono e ml q2⟩
        · have hi' : i = μ.length := by
            have := (List.getElem?_eq_some_iff.mp h1).1
            simp at this; omega
          rw [hi', List.getElem?_append_right (Nat.le_refl _), Nat.sub_self] at h1
          rw [hi', ← ml, List.getElem?_append_right (Nat.le_refl _), Nat.sub_self] at h2
          cases h1
          cases h2
          exact ⟨⟨vs, upd_same, RdL.mono e ml rl⟩, nB⟩
      · obtain ⟨o, q1, q2⟩ := m.bt a h1
        exact ⟨o, upd_keep hp a o q1, q2⟩
    refine h (.ref p) _ _ e m' ?_
    simp only [RdV]
    exact ⟨p, by rw [← ml, List.getElem?_append_right (Nat.le_refl _), Nat.sub_self]; rfl, rfl⟩
  · exact False.elim h
end
end Den

/-! Den11: expressions are sound: the induction. -/
namespace Den
open PySem PySem.Spec PyProof.Rows L2
variable [Lams]

theorem rel_look {scope sc : Scope} {x : Str} (h : scope.names.lookup x = some .local) : (relS scope sc).names.lookup x = some .local := by
  unfold relS
  dsimp only
  generalize scope.names = l at h
  induction l with
  | nil => cases h
  | cons p l ih =>
    obtain ⟨n, kd⟩ := p
    rw [List.lookup_cons] at h
    rw [List.map_cons]
    dsimp only
    cases q : (x == n) with
    | true =>
      rw [q] at h
      cases h
      rw [show ((NameKind.local == NameKind.free) && (sc.kind == .function) && (sc.names.lookup n == some .cell)) = false from by rfl]
      simp [List.lookup_cons, q]
    | false =>
      rw [q] at h
      split <;> (rw [List.lookup_cons, q]; exact ih h)
section
variable {Γ : Nm} {g : G} {k : Nat} {N : List Str} {sc : Scope} {st : Str → Bool} {W : XK} {X : Cx}
theorem Cxd.blk (cx : Cxd Γ g k N sc st W X) (s : Shared) (H : Hp) (scope : Scope) (cl : List (Str × Addr)) (C : Addr) (fp : List Addr) (own : List (Str × Nat)) (hh : Γ.hot = true → HotI (X.blk s H scope (compEnvC scope cl C X.env) fp)) :
    Cxd Γ.inn g k N (relS scope sc) (stBlk scope own) noW (X.blk s H scope (compEnvC scope cl C X.env) fp) where
  nd := cx.nd
  nm := cx.nm
  scp := by rw [← cx.scp]; rfl
  calm := cx.calm
  sto := fun x h => by
    unfold stBlk at h
    split at h
    · rename_i q; exact .inr (rel_look q)
    · rename_i q; exact .inl (by show (scope.names.lookup x == some .cell) = true; rw [q]; rfl)
    · cases h
  hoti := hh
  room := cx.room
  un := cx.un
  isx := fun h => by cases h
  cls := cx.cls
  takes := fun u s' h => by
    obtain ⟨a, B, sI, pins, σ, H, cls, d, e, I, nb, up, sky, na, os, ag, w⟩ := h
    exact False.elim w
  own := PassesOwn.never
  glo := cx.glo
  con := cx.con
  free := cx.free
  bfn := cx.bfn
  exs := cx.exs
  low := cx.low
  hnd := cx.hnd
  lam := cx.lam
  fns := cx.fns
theorem cunits (cx : Cxd Γ g k N sc st W X) : X.A.units + 64 < cLine := cx.un
end
section
variable {Γ : Nm} {g : G} {k : Nat} {N : List Str}
theorem snd_var (i : Nat) : Snd Γ g k N (.var i) := by
  refine .ofE (fun h => ?_) (fun _ _ => rfl) (fun _ _ _ => rfl) fun {sc e st W X} h cx => ?_
  · simp only [mE] at h; split at h <;> first | rfl | cases h
  · simp only [mE] at h
    split at h
    · rename_i x p
      simp only [Bool.and_eq_true, decide_eq_true_eq] at h
      have q := nmOk_out h.2
      refine PE.weak (pe_var (by rw [cx.nm]; exact h.1.1) (visB_out (by rw [cx.scp]; exact h.1.2)) q.1 q.2.1) fun σ H Q ⟨B, φ, ρ, μ, ab, hw⟩ => ?_
      simp only [evE] at hw
      split at hw
      · rename_i d hd
        obtain ⟨v, h1, h2⟩ := ab.env i d hd
        exact ⟨v, h1, DenV.here ab.mem hw h2⟩
      · exact False.elim hw
    · cases h
theorem snd_const {c : C} {d : D} {v : V} (hc : ∀ ρ μ, evE g c ρ μ = .ok d μ) (hr : ∀ (K : PySem.W.Frag) H L φ, RdV K H L φ d v) (ha : ∀ sc es, mEs Γ N sc c es = false) (hi : ∀ sc t e, mI Γ N sc c t e = false)
    (hp : ∀ {sc e}, mE Γ N sc c e = true → plainTest e = true) (he : ∀ {sc e} {st : Str → Bool} {W : XK} {X : Cx}, mE Γ N sc c e = true → Cxd Γ g k N sc st W X → PE X e (L2.tC v)) : Snd Γ g k N c :=
  .ofE hp ha hi fun h cx => PE.weak (he h cx) fun σ H Q ⟨B, φ, ρ, μ, ab, hw⟩ => by
    rw [hc] at hw
    exact DenV.here ab.mem hw (hr _ _ _ _)
theorem snd_num (i : Int) : Snd Γ g k N (.num i) := by
  refine snd_const (d := .int i) (v := .int i) (fun _ _ => rfl) (fun _ _ _ _ => rd_int) (fun _ _ => rfl) (fun _ _ _ => rfl) (fun h => ?_) fun h cx => ?_
  · simp only [mE] at h; split at h <;> first | rfl | cases h
  · simp only [mE] at h; split at h
    · rw [of_decide_eq_true h]; exact pe_int
    · cases h
theorem snd_txt (i : Str) : Snd Γ g k N (.txt i) := by
  refine snd_const (d := .str i) (v := .str i) (fun _ _ => rfl) (fun _ _ _ _ => rd_str) (fun _ _ => rfl) (fun _ _ _ => rfl) (fun h => ?_) fun h cx => ?_
  · simp only [mE] at h; split at h <;> first | rfl | cases h
  · simp only [mE] at h; split at h
    · rw [of_decide_eq_true h]; exact pe_str
    · cases h
theorem snd_bl (i : Bool) : Snd Γ g k N (.bl i) := by
  refine snd_const (d := .bl i) (v := .bl i) (fun _ _ => rfl) (fun _ _ _ _ => rd_bl) (fun _ _ => rfl) (fun _ _ _ => rfl) (fun h => ?_) fun h cx => ?_
  · simp only [mE] at h; split at h <;> first | rfl | cases h
  · simp only [mE] at h; split at h
    · rw [of_decide_eq_true h]; exact pe_bl
    · cases h
theorem snd_non : Snd Γ g k N .non := by
  refine snd_const (d := .non) (v := .non) (fun _ _ => rfl) (fun _ _ _ _ => rd_non) (fun _ _ => rfl) (fun _ _ _ => rfl) (fun h => ?_) fun h cx => ?_
  · simp only [mE] at h; split at h <;> first | rfl | cases h
  · simp only [mE] at h; split at h
    · exact pe_non
    · cases h
theorem snd_glo (x : Str) : Snd Γ g k N (.glo x) := by
  refine .ofE (fun h => ?_) (fun _ _ => rfl) (fun _ _ _ => rfl) fun {sc e st W X} h cx => ?_
  · simp only [mE] at h; split at h <;> first | rfl | cases h
  · simp only [mE] at h
    split at h
    · rename_i y p
      simp only [Bool.and_eq_true, decide_eq_true_eq] at h
      have q := nmOk_out h.1.2
      have gl := (cx.glo y h.2).1
      refine PE.weak (pe_glob (v := .ref (He.ga X.K y)) (glB_out (by rw [cx.scp]; exact h.1.1.2)) gl rfl q.1) fun σ H Q ⟨B, φ, ρ, μ, ab, hw⟩ => ?_
      rw [h.1.1.1] at hw
      exact DenV.here ab.mem hw (by simp only [RdV])
    · cases h
theorem snd_con (x : Str) : Snd Γ g k N (.con x) := by
  refine .ofE (fun h => ?_) (fun _ _ => rfl) (fun _ _ _ => rfl) fun {sc e st W X} h cx => ?_
  · simp only [mE] at h; split at h <;> first | rfl | cases h
  · simp only [mE] at h
    split at h
    · rename_i y p
      simp only [Bool.and_eq_true, decide_eq_true_eq] at h
      have q := nmOk_out h.1.2
      cases hd : g.con y with
      | none =>
        refine ⟨fun pins s σ H Q I ⟨B, φ, ρ, μ, ab, hw⟩ => ?_⟩
        rw [h.1.1.1] at hw
        simp only [evE, hd] at hw
        exact False.elim hw
      | some d =>
        obtain ⟨v, u, h1, h2, h3⟩ := cx.con y d h.2 hd
        refine PE.weak (pe_glob (v := v) (glB_out (by rw [cx.scp]; exact h.1.1.2)) h1 h2 q.1) fun σ H Q ⟨B, φ, ρ, μ, ab, hw⟩ => ?_
        rw [h.1.1.1] at hw
        simp only [evE, hd] at hw
        exact DenV.here ab.mem hw (h3 _ _ _)
    · cases h
theorem snd_bin {op : Operator} {a b : C} (sa : Snd Γ g k N a) (sb : Snd Γ g k N b) : Snd Γ g k N (.bin op a b) := by
  refine .ofE (fun h => ?_) (fun _ _ => rfl) (fun _ _ _ => rfl) fun {sc e st W X} h cx => ?_
  · simp only [mE] at h; split at h <;> first | rfl | cases h
  · simp only [mE] at h
    split at h
    · simp only [Bool.and_eq_true, decide_eq_true_eq] at h
      rw [← h.1.1]
      exact PE.weak (pe_op (op_bin op) (sa.e h.1.2 cx) (sb.e h.2 cx)) fun σ H Q ⟨B, φ, ρ, μ, ab, hw⟩ => den2 ab hw
    · cases h
theorem snd_neg {a : C} (sa : Snd Γ g k N a) : Snd Γ g k N (.neg a) := by
  refine .ofE (fun h => ?_) (fun _ _ => rfl) (fun _ _ _ => rfl) fun {sc e st W X} h cx => ?_
  · simp only [mE] at h; split at h <;> first | rfl | cases h
  · simp only [mE] at h
    split at h
    · refine PE.weak (pe_un un_neg (sa.e h cx)) fun σ H Q ⟨B, φ, ρ, μ, ab, hw⟩ => ⟨B, φ, ρ, μ, ab, (DenV.bindV ab.mem.len hw).imp fun v H1 ⟨φ1, μ1, d, e1, m1, r1, h1⟩ => ?_⟩
      cases d with
      | int i => exact ⟨i, rdV_int r1, DenV.here m1 h1 rd_int⟩
      | _ => exact False.elim h1
    · cases h
theorem snd_not {a : C} (sa : Snd Γ g k N a) : Snd Γ g k N (.not a) where
  e := fun {sc e st W X} h cx => by
    simp only [mE] at h
    split at h
    · exact PE.weak (pe_notT (sa.e h cx)) fun σ H Q ⟨B, φ, ρ, μ, ab, hw⟩ => ⟨B, φ, ρ, μ, ab, (DenV.bindV ab.mem.len hw).imp fun v H1 ⟨φ1, μ1, d, e1, m1, r1, h1⟩ => by
        obtain ⟨b, h2, h3⟩ := den_tru m1 r1 h1
        exact ⟨b, h2, DenV.here m1 h3 rd_bl⟩⟩
    · cases h
  t := fun {sc e st W X} h cx => by
    simp only [mE] at h
    split at h
    · refine PT.weak (pt_not (sa.t h cx)) fun σ H Q ⟨B, φ, ρ, μ, ab, hw⟩ => ⟨B, φ, ρ, μ, ab, ?_⟩
      rw [evT_not] at hw
      refine (DenB.bindB ab.mem.len hw).imp fun b H1 ⟨φ1, μ1, e1, m1, h1⟩ => h1 H1 φ1 .refl m1
    · cases h
  w := fun h cx => by simp [mE] at h
  a := fun h => by simp [mEs] at h
  i := fun h => by simp [mI] at h
theorem snd_one {a : C} (sa : Snd Γ g k N a) : Snd Γ g k N (.one a) := by
  have hw : ∀ {sc : Scope} {op : BoolOp} {es : List Expr} {p : Pos} {st : Str → Bool} {W : XK} {X : Cx}, mE Γ N sc (.one a) (.BoolOp op es p) = true → Cxd Γ g k N sc st W X → PW X (.BoolOp op es p) (tT X.K W g (.one a)) := fun {sc op es p st W X} h cx => by
    simp only [mE] at h
    split at h
    · rename_i o x q z
      cases z
      cases op with
      | And => exact pw_and1 (sa.t h cx)
      | Or => exact pw_or1 (sa.t h cx)
    · cases h
  refine ⟨fun {sc e st W X} h cx => ?_, fun {sc e st W X} h cx => ?_, hw, fun h => ?_, fun h => ?_⟩
  · simp only [mE] at h
    split at h
    · exact pe_one (sa.e h cx)
    · cases h
  · cases e with
    | BoolOp op es p => exact (hw h cx).pt
    | _ => simp [mE] at h
  · simp [mEs] at h
  · simp [mI] at h
theorem snd_and {a b : C} (sa : Snd Γ g k N a) (sb : Snd Γ g k N b) : Snd Γ g k N (.and a b) := by
  have hw : ∀ {sc : Scope} {op : BoolOp} {es : List Expr} {p : Pos} {st : Str → Bool} {W : XK} {X : Cx}, mE Γ N sc (.and a b) (.BoolOp op es p) = true → Cxd Γ g k N sc st W X → PW X (.BoolOp op es p) (tT X.K W g (.and a b)) := fun {sc op es p st W X} h cx => by
    simp only [mE] at h
    split at h
    · rename_i x y r q z
      cases z
      rw [Bool.and_eq_true] at h
      refine PW.weak (pw_and (sa.t h.1 cx) (sb.w h.2 cx)) fun σ H Q ⟨B, φ, ρ, μ, ab, hw⟩ => ⟨B, φ, ρ, μ, ab, ?_⟩
      rw [evT_and] at hw
      refine (DenB.bindB ab.mem.len hw).imp fun b H1 ⟨φ1, μ1, e1, m1, h1⟩ => ?_
      cases b with
      | true => exact ⟨B, φ1, ρ, μ1, ab.ext e1 m1, h1⟩
      | false => exact h1 H1 φ1 .refl m1
    · cases h
  refine ⟨fun {sc e st W X} h cx => ?_, fun {sc e st W X} h cx => ?_, hw, fun h => ?_, fun h => ?_⟩
  · simp only [mE] at h
    split at h
    · rw [Bool.and_eq_true] at h
      refine PE.weak (pe_andT (sa.e h.1 cx) (sb.e h.2 cx)) fun σ H Q ⟨B, φ, ρ, μ, ab, hw⟩ => ⟨B, φ, ρ, μ, ab, (DenV.bindV ab.mem.len hw).imp fun v H1 ⟨φ1, μ1, d, e1, m1, r1, h1⟩ => ?_⟩
      obtain ⟨b, h2, h3⟩ := den_tru m1 r1 h1
      refine ⟨b, h2, ?_⟩
      cases b with
      | true => exact ⟨B, φ1, ρ, μ1, ab.ext e1 m1, h3⟩
      | false => exact DenV.here m1 h3 r1
    · cases h
  · cases e with
    | BoolOp op es p => exact (hw h cx).pt
    | _ => simp [mE] at h
  · simp [mEs] at h
  · simp [mI] at h
theorem snd_or {a b : C} (sa : Snd Γ g k N a) (sb : Snd Γ g k N b) : Snd Γ g k N (.or a b) := by
  have hw : ∀ {sc : Scope} {op : BoolOp} {es : List Expr} {p : Pos} {st : Str → Bool} {W : XK} {X : Cx}, mE Γ N sc (.or a b) (.BoolOp op es p) = true → Cxd Γ g k N sc st W X → PW X (.BoolOp op es p) (tT X.K W g (.or a b)) := fun {sc op es p st W X} h cx => by
    simp only [mE] at h
    split at h
    · rename_i x y r q z
      cases z
      rw [Bool.and_eq_true] at h
      refine PW.weak (pw_or (sa.t h.1 cx) (sb.w h.2 cx)) fun σ H Q ⟨B, φ, ρ, μ, ab, hw⟩ => ⟨B, φ, ρ, μ, ab, ?_⟩
      rw [evT_or] at hw
      refine (DenB.bindB ab.mem.len hw).imp fun b H1 ⟨φ1, μ1, e1, m1, h1⟩ => ?_
      cases b with
      | false => exact ⟨B, φ1, ρ, μ1, ab.ext e1 m1, h1⟩
      | true => exact h1 H1 φ1 .refl m1
    · cases h
  refine ⟨fun {sc e st W X} h cx => ?_, fun {sc e st W X} h cx => ?_, hw, fun h => ?_, fun h => ?_⟩
  · simp only [mE] at h
    split at h
    · rw [Bool.and_eq_true] at h
      refine PE.weak (pe_orT (sa.e h.1 cx) (sb.e h.2 cx)) fun σ H Q ⟨B, φ, ρ, μ, ab, hw⟩ => ⟨B, φ, ρ, μ, ab, (DenV.bindV ab.mem.len hw).imp fun v H1 ⟨φ1, μ1, d, e1, m1, r1, h1⟩ => ?_⟩
      obtain ⟨b, h2, h3⟩ := den_tru m1 r1 h1
      refine ⟨b, h2, ?_⟩
      cases b with
      | false => exact ⟨B, φ1, ρ, μ1, ab.ext e1 m1, h3⟩
      | true => exact DenV.here m1 h3 r1
    · cases h
  · cases e with
    | BoolOp op es p => exact (hw h cx).pt
    | _ => simp [mE] at h
  · simp [mEs] at h
  · simp [mI] at h
end
end Den

/-! Den12: expressions are sound: comparisons, calls, things, comprehensions, what is walked. -/
namespace Den
open PySem PySem.Spec PyProof.Rows L2
variable [Lams]

section
variable {Γ : Nm} {g : G} {k : Nat} {N : List Str}
theorem snd_cmp {op : CmpOp} {a b : C} (sa : Snd Γ g k N a) (sb : Snd Γ g k N b) : Snd Γ g k N (.cmp op a b) where
  e := fun {sc e st W X} h cx => by
    simp only [mE] at h
    split at h
    · simp only [Bool.and_eq_true, decide_eq_true_eq] at h
      rw [← h.1.1]
      exact PE.weak (pe_cmpR (op_cmp op (cunits cx)) (sa.e h.1.2 cx) (sb.e h.2 cx) (behind_eq (mE_forms h.2).2 _)) fun σ H Q hw => w_cmp hw
    · cases h
  t := fun {sc e st W X} h cx => by
    simp only [mE] at h
    split at h
    · simp only [Bool.and_eq_true, decide_eq_true_eq] at h
      rw [← h.1.1]
      refine PT.weak (pt_cmpR (op_cmp (W := W) op (cunits cx)) (sa.e h.1.2 cx) (sb.e h.2 cx) (behind_eq (mE_forms h.2).2 _)) fun σ H Q ⟨B, φ, ρ, μ, ab, hw⟩ => ?_
      exact w_cmp (op := op) (a := a) (b := b) ⟨B, φ, ρ, μ, ab, DenB.ofV (bl_cmp op a b) hw⟩
    · cases h
  w := fun h cx => by simp [mE] at h
  a := fun h => by simp [mEs] at h
  i := fun h => by simp [mI] at h
theorem snd_chn {op op' : CmpOp} {a b c : C} (sa : Snd Γ g k N a) (sb : Snd Γ g k N b) (sc' : Snd Γ g k N c) : Snd Γ g k N (.chn op op' a b c) where
  e := fun {sc e st W X} h cx => by
    simp only [mE] at h
    split at h
    · simp only [Bool.and_eq_true, decide_eq_true_eq] at h
      obtain ⟨⟨⟨⟨h1, h2⟩, h3⟩, h4⟩, h5⟩ := h
      rw [← h1, ← h2]
      exact PE.weak (pe_chain (op_cmp op (cunits cx)) (op_cmp op' (cunits cx)) (sa.e h3 cx) (sb.e h4 cx) (sc'.e h5 cx) (behind_eq (mE_forms h5).2 _)) fun σ H Q hw => w_chn hw
    · cases h
  t := fun {sc e st W X} h cx => by
    simp only [mE] at h
    split at h
    · simp only [Bool.and_eq_true, decide_eq_true_eq] at h
      obtain ⟨⟨⟨⟨h1, h2⟩, h3⟩, h4⟩, h5⟩ := h
      rw [← h1, ← h2]
      refine PT.weak (pt_chain (op_cmp (W := W) op (cunits cx)) (op_cmp (W := W) op' (cunits cx)) (sa.e h3 cx) (sb.e h4 cx) (sc'.e h5 cx) (behind_eq (mE_forms h5).2 _)) fun σ H Q ⟨B, φ, ρ, μ, ab, hw⟩ => ?_
      exact w_chn (op := op) (op' := op') (a := a) (b := b) (c := c) ⟨B, φ, ρ, μ, ab, DenB.ofV (bl_chn op op' a b c) hw⟩
    · cases h
  w := fun h cx => by simp [mE] at h
  a := fun h => by simp [mEs] at h
  i := fun h => by simp [mI] at h
theorem snd_ite {t a b : C} (s0 : Snd Γ g k N t) (sa : Snd Γ g k N a) (sb : Snd Γ g k N b) : Snd Γ g k N (.ite t a b) where
  e := fun {sc e st W X} h cx => by
    simp only [mE] at h
    split at h
    · simp only [Bool.and_eq_true] at h
      refine PE.weak (pe_ifExp (s0.t h.1.1 cx) (sa.e h.1.2 cx) (sb.e h.2 cx)) fun σ H Q ⟨B, φ, ρ, μ, ab, hw⟩ => ⟨B, φ, ρ, μ, ab, ?_⟩
      have hw' : DenV X.K W B H φ μ ((evT g t ρ μ).bind fun t μ2 => if t then evE g a ρ μ2 else evE g b ρ μ2) Q := by
        simp only [evE] at hw
        unfold evT
        rw [R.bind_assoc]
        exact hw
      refine (DenV.bindB ab.mem.len hw').imp fun b H1 ⟨φ1, μ1, e1, m1, h1⟩ => ?_
      cases b with
      | true => exact ⟨B, φ1, ρ, μ1, ab.ext e1 m1, h1⟩
      | false => exact ⟨B, φ1, ρ, μ1, ab.ext e1 m1, h1⟩
    · cases h
  t := fun {sc e st W X} h cx => by
    simp only [mE] at h
    split at h
    · simp only [Bool.and_eq_true] at h
      refine PT.weak (pt_ite (s0.t h.1.1 cx) (sa.t h.1.2 cx) (sb.t h.2 cx)) fun σ H Q ⟨B, φ, ρ, μ, ab, hw⟩ => ⟨B, φ, ρ, μ, ab, ?_⟩
      rw [evT_ite] at hw
      refine (DenB.bindB ab.mem.len hw).imp fun b H1 ⟨φ1, μ1, e1, m1, h1⟩ => ?_
      cases b with
      | true => exact ⟨B, φ1, ρ, μ1, ab.ext e1 m1, h1⟩
      | false => exact ⟨B, φ1, ρ, μ1, ab.ext e1 m1, h1⟩
    · cases h
  w := fun h cx => by simp [mE] at h
  a := fun h => by simp [mEs] at h
  i := fun h => by simp [mI] at h
theorem snd_cal {f : Str} {as : C} (sa : Snd Γ g k N as) : Snd Γ g k N (.cal f as) := by
  refine .ofE (fun h => ?_) (fun _ _ => rfl) (fun _ _ _ => rfl) fun {sc e st W X} h cx => ?_
  · simp only [mE] at h; split at h <;> first | rfl | cases h
  · simp only [mE] at h
    split at h
    · rename_i y p1 x xs pos
      simp only [Bool.and_eq_true, decide_eq_true_eq] at h
      obtain ⟨⟨⟨⟨⟨hh, h1⟩, h2⟩, h3⟩, h4⟩, h5⟩ := h
      have hh : Γ.hot = false := by simpa using hh
      subst h1
      have q := nmOk_out h3
      obtain ⟨fd, ps, F, bd⟩ := cx.fns f h4
      have gl := cx.glo f h4
      have se := starE (a := .nil) h5 X.env
      refine PE.weak (pe_callS F (cx.room hh) (glB_out (by rw [cx.scp]; exact h2)) gl.1 gl.2 bd (fun σ => passAtN cx.takes σ) (sa.a h5 cx) q.1 se.1 (se.2 _)) fun σ H Q ⟨B, φ, ρ, μ, ab, hw⟩ => ?_
      refine ⟨B, φ, ρ, μ, ab, (DenV.bindL ab.mem.len hw).imp fun vs H1 ⟨φ1, μ1, ds, e1, m1, r1, h1⟩ => ⟨B, φ1, μ1, ds, m1, r1, h1⟩⟩
    · cases h
theorem snd_bif {b : Bf} {as : C} (sa : Snd Γ g k N as) : Snd Γ g k N (.bif b as) := by
  refine .ofE (fun h => ?_) (fun _ _ => rfl) (fun _ _ _ => rfl) fun {sc e st W X} h cx => ?_
  · simp only [mE] at h; split at h <;> first | rfl | cases h
  · simp only [mE] at h
    split at h
    · rename_i y p1 x xs pos
      simp only [Bool.and_eq_true, decide_eq_true_eq] at h
      obtain ⟨⟨⟨hh, h1⟩, h2⟩, h5⟩ := h
      have se := starE (a := .nil) h5 X.env
      have cl : CallR X b.val (rDL X.K W (bifD b)) := by
        cases ho : Γ.hot with
        | false => exact bif_all_of (W := W) (cx.calm ho) b
        | true =>
          rw [ho] at hh
          have hq : b.cool = true := by simpa using hh
          exact bif_cool_of hq
      have wk : ∀ σ H Q, tC X.K W g (.bif b as) σ H Q → tCB (rDL X.K W (bifD b)) (tA X.K W g as) σ H Q := fun σ H Q ⟨B, φ, ρ, μ, ab, hw⟩ => denL ab hw
      subst h1
      cases ho : b.own with
      | true =>
        rw [ho] at h2
        simp only [Bool.and_eq_true] at h2
        have q := nmOk_out h2.1.2
        cases b <;> first | (cases ho; done) | exact PE.weak (pe_callBfun cl (glB_out (by rw [cx.scp]; exact h2.1.1)) (cx.bfn _ rfl h2.2) (sa.a h5 cx) q.1 se.1 (se.2 _)) wk
      | false =>
        rw [ho] at h2
        have q := cx.blt h2
        have bt := Bf.boot b ho
        cases b <;> first
          | (cases ho; done)
          | exact PE.weak (pe_callB cl q.1 q.2.1 bt (sa.a h5 cx) q.2.2.2 q.2.2.1 se.1 (se.2 _)) wk
          | exact PE.weak (pe_callTy cl q.1 q.2.1 bt (sa.a h5 cx) q.2.2.2 q.2.2.1 se.1 (se.2 _)) wk
    · cases h
theorem snd_isi {a : C} {t : Ty} (sa : Snd Γ g k N a) : Snd Γ g k N (.isi a t) := by
  refine .ofE (fun h => ?_) (fun _ _ => rfl) (fun _ _ _ => rfl) fun {sc e st W X} h cx => ?_
  · simp only [mE] at h; split at h <;> first | rfl | cases h
  · simp only [mE] at h
    split at h
    · rename_i y p1 x z p2 pos
      simp only [Bool.and_eq_true, decide_eq_true_eq] at h
      obtain ⟨⟨⟨⟨h1, h2⟩, h3⟩, h4⟩, h5⟩ := h
      have q := cx.blt h2
      have q2 := cx.blt h4
      subst h1
      subst h3
      have sx := star_eq (mE_forms h5).1 [Expr.Name t.nm p2] X.env
      have bt : bootBuiltins ("isinstance" : Str) = some (.builtin "isinstance") := by decide +kernel
      refine PE.weak (pe_callB call_isi q.1 q.2.1 bt (pa_cons (sa.e h5 cx) (pa_cons (pe_bltn (v := .ty t.name) q2.1 q2.2.1 (Ty.boot t) rfl q2.2.2.2 q2.2.2.1) pa_nil) sx) q.2.2.2 q.2.2.1 sx rfl) fun σ H Q ⟨B, φ, ρ, μ, ab, hw⟩ => ?_
      refine ⟨B, φ, ρ, μ, ab, (DenV.bindV ab.mem.len hw).imp fun v H1 ⟨φ1, μ1, d, e1, m1, r1, h1⟩ => ?_⟩
      split at h1
      · rename_i b hb
        obtain ⟨c, ty, kt⟩ := isTy_rd r1 hb
        exact ⟨v, .ty t.name, c, .type t.name, b, rfl, .ty _, ty, kt, DenV.here m1 h1 rd_bl⟩
      · exact False.elim h1
    · cases h
theorem snd_tup {as : C} (sa : Snd Γ g k N as) : Snd Γ g k N (.tup as) := by
  refine .ofE (fun h => ?_) (fun _ _ => rfl) (fun _ _ _ => rfl) fun {sc e st W X} h cx => ?_
  · simp only [mE] at h; split at h <;> first | rfl | cases h
  · simp only [mE] at h
    split at h
    · exact PE.weak (pe_tup (sa.a h cx)) fun σ H Q ⟨B, φ, ρ, μ, ab, hw⟩ => ⟨B, φ, ρ, μ, ab, (DenV.bindL ab.mem.len hw).imp fun vs H1 ⟨φ1, μ1, ds, e1, m1, r1, h1⟩ => vals_tup m1 r1 h1⟩
    · cases h
theorem snd_lst {as : C} (sa : Snd Γ g k N as) : Snd Γ g k N (.lst as) := by
  refine .ofE (fun h => ?_) (fun _ _ => rfl) (fun _ _ _ => rfl) fun {sc e st W X} h cx => ?_
  · simp only [mE] at h; split at h <;> first | rfl | cases h
  · simp only [mE] at h
    split at h
    · exact PE.weak (pe_lst (sa.a h cx)) fun σ H Q ⟨B, φ, ρ, μ, ab, hw⟩ => ⟨B, φ, ρ, μ, ab, (DenV.bindL ab.mem.len hw).imp fun vs H1 ⟨φ1, μ1, ds, e1, m1, r1, h1⟩ => vals_lst m1 r1 h1⟩
    · cases h
theorem snd_cel {as : C} (sa : Snd Γ g k N as) : Snd Γ g k N (.cel as) := by
  refine .ofE (fun h => ?_) (fun _ _ => rfl) (fun _ _ _ => rfl) fun {sc e st W X} h cx => ?_
  · simp only [mE] at h; split at h <;> first | rfl | cases h
  · simp only [mE] at h
    split at h
    · exact PE.weak (pe_lst (sa.a h cx)) fun σ H Q ⟨B, φ, ρ, μ, ab, hw⟩ => ⟨B, φ, ρ, μ, ab, (DenV.bindL ab.mem.len hw).imp fun vs H1 ⟨φ1, μ1, ds, e1, m1, r1, h1⟩ => vals_cel m1 r1 h1⟩
    · cases h
theorem snd_nil : Snd Γ g k N .nil where
  e := fun h => by simp [mE] at h
  t := fun h => by simp [mE] at h
  w := fun h => by simp [mE] at h
  a := fun {sc es st W X} h cx => by
    simp only [mEs, List.isEmpty_iff] at h
    subst h
    exact PA.weak pa_nil fun σ H Q ⟨B, φ, ρ, μ, ab, hw⟩ => hw [] H φ .refl ab.mem .nil
  i := fun h => by simp [mI] at h
theorem snd_cons {a as : C} (sa : Snd Γ g k N a) (sr : Snd Γ g k N as) : Snd Γ g k N (.cons a as) where
  e := fun h => by simp [mE] at h
  t := fun h => by simp [mE] at h
  w := fun h => by simp [mE] at h
  a := fun {sc es st W X} h cx => by
    have h0 := h
    simp only [mEs] at h
    split at h
    · rename_i x xs
      rw [Bool.and_eq_true] at h
      refine PA.weak (pa_cons (sa.e h.1 cx) (sr.a h.2 cx) (starE (a := .nil) h0 X.env).1) fun σ H Q ⟨B, φ, ρ, μ, ab, hw⟩ => ?_
      refine ⟨B, φ, ρ, μ, ab, (DenL.bindV ab.mem.len hw).imp fun v H1 ⟨φ1, μ1, d, e1, m1, r1, h1⟩ => ⟨B, φ1, ρ, μ1, ab.ext e1 m1, (DenL.bindL m1.len h1).imp fun vs H2 ⟨φ2, μ2, ds, e2, m2, r2, h2⟩ => ?_⟩⟩
      exact h2 v (RdV.mono e2 m1.len r1)
    · cases h
  i := fun h => by simp [mI] at h
theorem snd_idx {a b : C} (sa : Snd Γ g k N a) (sb : Snd Γ g k N b) : Snd Γ g k N (.idx a b) := by
  refine .ofE (fun h => ?_) (fun _ _ => rfl) (fun _ _ _ => rfl) fun {sc e st W X} h cx => ?_
  · simp only [mE] at h; split at h <;> first | rfl | cases h
  · simp only [mE] at h
    split at h
    · simp only [Bool.and_eq_true, Bool.not_eq_true'] at h
      exact PE.weak (pe_ix (ix_all (W := W)) (sa.e h.1.2 cx) (sb.e h.2 cx) (plainIx_eq h.1.1)) fun σ H Q ⟨B, φ, ρ, μ, ab, hw⟩ => den2 ab hw
    · cases h
theorem partD_out {K : PySem.W.Frag} {H : Hp} {L : Addr → Prop} {φ : List Addr} {d : D} {v : V} {l : Option Int} (r : RdV K H L φ d v) (h : partD d = some l) : (∃ i, v = .int i ∧ l = some i) ∨ (v = .non ∧ l = none) := by
  cases d with
  | int i => cases h; exact .inl ⟨i, rdV_int r, rfl⟩
  | non => cases h; exact .inr ⟨rdV_non r, rfl⟩
  | _ => cases h
/-- a part of a slice -/
theorem po_den {X : Cx} {W : XK} {c : C} {l : Option Expr} (h : match l with | none => isNop c = true | some e => PE X e (tC X.K W g c)) :
    PO X l (fun σ H Q => tC X.K W g c σ H fun x H1 => (∃ i, x = .int i ∧ Q (some i) H1) ∨ (x = .non ∧ Q none H1)) := by
  cases l with
  | none =>
    dsimp only at h
    have e : c = .nop := by cases c <;> first | rfl | cases h
    subst e
    refine ⟨fun pins s σ H Q I ⟨B, φ, ρ, μ, ab, hw⟩ => po_none.run pins s σ H Q I ?_⟩
    have q := hw .non H φ .refl ab.mem rd_non
    rcases q with ⟨i, q, _⟩ | ⟨_, q⟩
    · cases q
    · exact q
  | some e => exact po_any h
theorem snd_sli {a lo hi : C} (sa : Snd Γ g k N a) (sl : Snd Γ g k N lo) (sh : Snd Γ g k N hi) : Snd Γ g k N (.sli a lo hi) := by
  refine .ofE (fun h => ?_) (fun _ _ => rfl) (fun _ _ _ => rfl) fun {sc e st W X} h cx => ?_
  · simp only [mE] at h; split at h <;> first | rfl | cases h
  · simp only [mE] at h
    split at h
    · rename_i x l hh p1 p2
      simp only [Bool.and_eq_true] at h
      obtain ⟨⟨h1, h2⟩, h3⟩ := h
      have o1 := po_den (X := X) (W := W) (g := g) (c := lo) (l := l) (by cases l with | none => exact h2 | some e => exact sl.e h2 cx)
      have o2 := po_den (X := X) (W := W) (g := g) (c := hi) (l := hh) (by cases hh with | none => exact h3 | some e => exact sh.e h3 cx)
      refine PE.weak (pe_slice (sl_all (W := W)) (sa.e h1 cx) o1 o2) fun σ H Q ⟨B, φ, ρ, μ, ab, hw⟩ => ?_
      refine ⟨B, φ, ρ, μ, ab, (DenV.bindV ab.mem.len hw).imp fun v H1 ⟨φ1, μ1, d, e1, m1, r1, h1⟩ => ⟨B, φ1, ρ, μ1, ab.ext e1 m1, (DenV.bindV m1.len h1).imp fun y H2 ⟨φ2, μ2, d2, e2, m2, r2, h2⟩ => ?_⟩⟩
      have a2 := (ab.ext e1 m1).ext e2 m2
      have low : ∀ (l' : Option Int), DenV X.K W B H2 φ2 μ2 ((evE g hi ρ μ2).bind fun h μ3 => match partD h with | some h => sliD d l' h μ3 | none => .no) Q → tC X.K W g hi σ H2 fun x H3 => (∃ i, x = .int i ∧ ∃ B φ μ d, MemOk X.K H3 φ μ B ∧ RdV X.K H3 (Live φ μ B) φ d v ∧ DenV X.K W B H3 φ μ (sliD d l' (some i) μ) Q) ∨ (x = .non ∧ ∃ B φ μ d, MemOk X.K H3 φ μ B ∧ RdV X.K H3 (Live φ μ B) φ d v ∧ DenV X.K W B H3 φ μ (sliD d l' none μ) Q) := fun l' hl => by
        refine ⟨B, φ2, ρ, μ2, a2, (DenV.bindV m2.len hl).imp fun z H3 ⟨φ3, μ3, d3, e3, m3, r3, h3⟩ => ?_⟩
        cases q : partD d3 with
        | none => rw [q] at h3; exact False.elim h3
        | some u =>
          rw [q] at h3
          have rv := RdV.mono (e2.trans m1.len e3) m1.len r1
          rcases partD_out r3 q with ⟨i, q1, q2⟩ | ⟨q1, q2⟩
          · subst q2; exact .inl ⟨i, q1, B, φ3, μ3, d, m3, rv, h3⟩
          · subst q2; exact .inr ⟨q1, B, φ3, μ3, d, m3, rv, h3⟩
      cases q : partD d2 with
      | none => rw [q] at h2; exact False.elim h2
      | some l' =>
        rw [q] at h2
        rcases partD_out r2 q with ⟨i, q1, q2⟩ | ⟨q1, q2⟩
        · subst q2; exact .inl ⟨i, q1, low _ h2⟩
        · subst q2; exact .inr ⟨q1, low _ h2⟩
    · cases h
end
end Den

/-! Den13: expressions are sound: what is walked, comprehensions; all. -/
namespace Den
open PySem PySem.Spec PyProof.Rows L2
variable [Lams]

section
variable {Γ : Nm} {g : G} {k : Nat} {N : List Str}
theorem mI_notSet {sc : Scope} {c : C} {t e : Expr} (h : mI Γ N sc c t e = true) : notSet e = true := by
  cases e <;> first | rfl | (exfalso; cases c <;> first | (simp [mI] at h; done) | (simp only [mI] at h; have := (mE_forms h).2; simp [notSet] at this) | (cases t <;> simp [mI] at h))
/-- only what is walked -/
theorem Snd.ofI {c : C} (he : ∀ sc e, mE Γ N sc c e = false) (ha : ∀ sc es, mEs Γ N sc c es = false)
    (hi : ∀ {sc : Scope} {t e : Expr} {st : Str → Bool} {W : XK} {X : Cx}, mI Γ N sc c t e = true → Cxd Γ g k N sc st W X → PI X t e (tI X.K W g c)) : Snd Γ g k N c where
  e := fun h => by rw [he] at h; cases h
  t := fun h => by rw [he] at h; cases h
  w := fun h => by rw [he] at h; cases h
  a := fun h => by rw [ha] at h; cases h
  i := hi
theorem rngOk_out {i : Int} (h : rngOk i = true) : -(2 ^ 62) ≤ i ∧ i < 2 ^ 62 := by
  unfold rngOk at h
  simp only [Bool.and_eq_true, decide_eq_true_eq] at h
  exact h
theorem snd_nop : Snd Γ g k N .nop := .ofI (fun _ _ => rfl) (fun _ _ => rfl) fun h => by simp [mI] at h
theorem snd_cav {i : Nat} {fs : List Str} {as : C} (sa : Snd Γ g k N as) : Snd Γ g k N (.cav i fs as) := by
  refine .ofE (fun h => ?_) (fun _ _ => rfl) (fun _ _ _ => rfl) fun {sc e st W X} h cx => ?_
  · simp only [mE] at h; split at h <;> first | rfl | cases h
  · simp only [mE] at h
    split at h
    · rename_i y p1 x xs pos
      simp only [Bool.and_eq_true, Bool.not_eq_true', decide_eq_true_eq] at h
      obtain ⟨⟨⟨⟨⟨hh, h1⟩, h2⟩, h3⟩, h4⟩, h5⟩ := h
      have q := nmOk_out h3
      have se := starE (a := .nil) h5 X.env
      refine ⟨fun pins s σ H Q I ⟨B, φ, ρ, μ, ab, hw⟩ => ?_⟩
      simp only [evE] at hw
      split at hw
      · rename_i f hi
        split at hw
        · rename_i hf
          have hf' := List.all_eq_true.mp h4 f (List.contains_iff_mem.mp hf)
          obtain ⟨fd, ps, F, bd⟩ := cx.fns f hf'
          have gl := cx.glo f hf'
          obtain ⟨v, v1, v2⟩ := ab.env i _ hi
          have hv : v = .ref (He.ga X.K f) := by simpa only [RdV] using v2
          subst hv
          refine (pe_callL (pos := pos) (p := p1) (i := i) F (cx.room hh) (by rw [cx.nm]; exact h1) (visB_out (by rw [cx.scp]; exact h2)) gl.2 bd .nil (L2N.passes_call (E := W) cx.takes fun _ _ _ _ z => z) (sa.a h5 cx) q.1 q.2.1 se.1 (se.2 _)).run pins s σ H Q I ⟨v1, ?_⟩
          refine ⟨B, φ, ρ, μ, ab, (DenV.bindL ab.mem.len hw).imp fun vs H1 ⟨φ1, μ1, ds, e1, m1, r1, h1⟩ => ?_⟩
          rw [List.append_nil]
          exact ⟨B, φ1, μ1, ds, m1, r1, h1⟩
        · exact False.elim hw
      · exact False.elim hw
    · cases h
theorem snd_rng1 {a : C} (sa : Snd Γ g k N a) : Snd Γ g k N (.rng1 a) := by
  refine .ofI (fun _ _ => rfl) (fun _ _ => rfl) fun {sc t e st W X} h cx => ?_
  simp only [mI] at h
  split at h
  · rename_i y p x pos
    simp only [Bool.and_eq_true, decide_eq_true_eq] at h
    obtain ⟨⟨h1, h2⟩, h3⟩ := h
    subst h1
    have q := cx.blt h2
    have sx := star_eq (mE_forms h3).1 [] X.env
    refine PI.weak (pi_range1 q.1 q.2.1 (pa_cons (sa.e h3 cx) pa_nil sx) sx) fun σ H R ⟨B, φ, ρ, μ, ab, hw⟩ => ?_
    refine ⟨B, φ, ρ, μ, ab, (DenI.bindV ab.mem.len hw).imp fun v H1 ⟨φ1, μ1, d, e1, m1, r1, h1⟩ => ?_⟩
    cases d with
    | int j =>
      rw [rdV_int r1]
      dsimp only at h1
      split at h1
      · rename_i hj
        have b := rngOk_out hj
        refine ⟨j, rfl, b.1, b.2, DenI.here m1 h1 ?_⟩
        have := itok_rng (K := X.K) (H := H1) (φ := φ1) (μ := μ1) (B := B) (lo := 0) (hi := j)
        rwa [Int.sub_zero] at this
      · exact False.elim h1
    | _ => exact False.elim h1
  · cases h
theorem snd_rng2 {a b : C} (sa : Snd Γ g k N a) (sb : Snd Γ g k N b) : Snd Γ g k N (.rng2 a b) := by
  refine .ofI (fun _ _ => rfl) (fun _ _ => rfl) fun {sc t e st W X} h cx => ?_
  simp only [mI] at h
  split at h
  · rename_i y p x z pos
    simp only [Bool.and_eq_true, decide_eq_true_eq] at h
    obtain ⟨⟨⟨h1, h2⟩, h3⟩, h4⟩ := h
    subst h1
    have q := cx.blt h2
    have sz := star_eq (mE_forms h4).1 [] X.env
    have sx := (star_eq (mE_forms h3).1 [z] X.env).trans (congrArg _ sz)
    refine PI.weak (pi_range2 q.1 q.2.1 (pa_cons (sa.e h3 cx) (pa_cons (sb.e h4 cx) pa_nil sz) (star_eq (mE_forms h3).1 [z] X.env)) sx sz) fun σ H R ⟨B, φ, ρ, μ, ab, hw⟩ => ?_
    refine ⟨B, φ, ρ, μ, ab, (DenI.bindV ab.mem.len hw).imp fun v H1 ⟨φ1, μ1, d, e1, m1, r1, h1⟩ => ⟨B, φ1, ρ, μ1, ab.ext e1 m1, (DenI.bindV m1.len h1).imp fun w H2 ⟨φ2, μ2, d2, e2, m2, r2, h2⟩ => ?_⟩⟩
    cases d with
    | int i =>
      cases d2 with
      | int j =>
        rw [rdV_int r1, rdV_int r2]
        dsimp only at h2
        split at h2
        · rename_i hj
          rw [Bool.and_eq_true] at hj
          have b1 := rngOk_out hj.1
          have b2 := rngOk_out hj.2
          exact ⟨i, j, rfl, ⟨b1.1, b1.2, b2.1, b2.2⟩, DenI.here m2 h2 itok_rng⟩
        · exact False.elim h2
      | _ => exact False.elim h2
    | _ => exact False.elim h2
  · cases h
theorem nAt_of {K : PySem.W.Frag} {H : Hp} {φ : List Addr} {μ : Mem} {B : Addr → Prop} {a : Addr} (n : ¬ Live φ μ B a) : ¬ At φ μ a := fun z => n (.inr z)
theorem snd_itr {a : C} (sa : Snd Γ g k N a) : Snd Γ g k N (.itr a) := by
  refine .ofI (fun _ _ => rfl) (fun _ _ => rfl) fun {sc t e st W X} h cx => ?_
  simp only [mI] at h
  refine PI.weak (pi_any (sa.e h cx)) fun σ H R ⟨B, φ, ρ, μ, ab, hw⟩ => ?_
  refine ⟨B, φ, ρ, μ, ab, (DenI.bindV ab.mem.len hw).imp fun v H1 ⟨φ1, μ1, d, e1, m1, r1, h1⟩ => ?_⟩
  cases d with
  | lst xs =>
    obtain ⟨p, vs, ev, q1, q2, q3⟩ := rdV_lst r1
    exact .inl ⟨p, ev, ⟨vs, SqL.of q1⟩, DenI.here m1 h1 (itok_list q1 (nAt_of (K := X.K) (H := H1) q2) q3 m1.len)⟩
  | tup xs =>
    obtain ⟨p, vs, ev, q1, q3⟩ := rdV_tup r1
    exact .inr (.inl ⟨p, ev, ⟨vs, q1⟩, DenI.here m1 h1 (itok_tup q1 q3 m1.len)⟩)
  | str z => exact .inr (.inr ⟨z, rdV_str r1, DenI.here m1 h1 itok_str⟩)
  | _ => exact False.elim h1
theorem w_itl {K : PySem.W.Frag} {W : XK} {a : C} {σ : L2.St} {H : Hp} {R : It → Hp → Prop} (h : tI K W g (.itl a) σ H R) : iList K (tC K W g a) σ H R := by
  obtain ⟨B, φ, ρ, μ, ab, hw⟩ := h
  refine ⟨B, φ, ρ, μ, ab, (DenI.bindV ab.mem.len hw).imp fun v H1 ⟨φ1, μ1, d, e1, m1, r1, h1⟩ => ?_⟩
  cases d with
  | lst xs =>
    obtain ⟨p, vs, ev, q1, q2, q3⟩ := rdV_lst r1
    exact ⟨p, ev, ⟨vs, SqL.of q1⟩, DenI.here m1 h1 (itok_list q1 (nAt_of (K := K) (H := H1) q2) q3 m1.len)⟩
  | _ => exact False.elim h1
theorem snd_itl {a : C} (sa : Snd Γ g k N a) : Snd Γ g k N (.itl a) := by
  refine .ofI (fun _ _ => rfl) (fun _ _ => rfl) fun {sc t e st W X} h cx => ?_
  simp only [mI] at h
  exact PI.weak (pi_list (sa.e h cx)) fun σ H R hw => w_itl hw
theorem pairL_get {xs ys : List D} {i : Nat} {d : D} (h : (pairL xs ys)[i]? = some d) : ∃ x y, xs[i]? = some x ∧ ys[i]? = some y ∧ d = .tup [x, y] := by
  unfold pairL at h
  rw [List.getElem?_zipWith] at h
  cases q1 : xs[i]? with
  | none => rw [q1] at h; cases h
  | some x =>
    cases q2 : ys[i]? with
    | none => rw [q1, q2] at h; cases h
    | some y => rw [q1, q2] at h; cases h; exact ⟨x, y, rfl, rfl, rfl⟩
theorem pairL_length (xs ys : List D) : (pairL xs ys).length = min xs.length ys.length := by unfold pairL; rw [List.length_zipWith]
theorem enumL_get {xs : List D} {i n : Nat} {d : D} (h : (enumL n xs)[i]? = some d) : ∃ x, xs[i]? = some x ∧ d = .tup [.int ((n + i : Nat) : Int), x] := by
  induction xs generalizing i n with
  | nil => cases h
  | cons x xs ih =>
    cases i with
    | zero => simp only [enumL, List.getElem?_cons_zero, Option.some.injEq] at h; exact ⟨x, rfl, by rw [← h]; rfl⟩
    | succ i =>
      simp only [enumL, List.getElem?_cons_succ] at h
      obtain ⟨y, h1, h2⟩ := ih h
      exact ⟨y, h1, by rw [h2]; congr 4; omega⟩
theorem enumL_length : ∀ (n : Nat) (xs : List D), (enumL n xs).length = xs.length
  | _, [] => rfl
  | n, x :: xs => by simp only [enumL, List.length_cons, enumL_length (n + 1) xs]
end
end Den

/-! Den14: expressions are sound: pairs, comprehensions; all. -/
namespace Den
open PySem PySem.Spec PyProof.Rows L2 RZ
variable [Lams]

theorem walk_zipTup {K : PySem.W.Frag} {a b : Addr} {xs ys : List V} : Walk (ItzT K a b) (min xs.length ys.length) (fun H => SqT K H a xs ∧ SqT K H b ys) (YPair (fun i => xs[i]?) (fun i => ys[i]?)) where
  goes := fun i H hi q => ⟨xs, ys, xs[i]'(by omega), ys[i]'(by omega), q.1, q.2, List.getElem?_eq_getElem (by omega), List.getElem?_eq_getElem (by omega)⟩
  stops := fun H q => ⟨xs, ys, q.1, q.2, by omega⟩
  yields := fun i H v H' _ q y => by
    obtain ⟨T, x, z, h1, h2, h3, h4, h5⟩ := y
    exact ⟨T, x, z, h1, h2, h3, h4 xs q.1, h5 ys q.2⟩
section
variable {Γ : Nm} {g : G} {k : Nat} {N : List Str} {sc : Scope} {st : Str → Bool} {W : XK} {X : Cx}
theorem snd_zip {a b : C} (sa : Snd Γ g k N a) (sb : Snd Γ g k N b) : Snd Γ g k N (.zip a b) := by
  refine .ofI (fun _ _ => rfl) (fun _ _ => rfl) fun {sc t e st W X} h cx => ?_
  simp only [mI] at h
  split at h
  · split at h
    · rename_i y p x z pos
      simp only [Bool.and_eq_true, decide_eq_true_eq] at h
      obtain ⟨⟨⟨h1, h2⟩, h3⟩, h4⟩ := h
      subst h1
      have q := cx.blt h2
      have sx := star_eq (mE_forms h3).1 [z] X.env
      have sz := star_eq (mE_forms h4).1 [] X.env
      refine PI.weak (pi_zipA q.1 q.2.1 (pa_cons (sa.e h3 cx) (pa_cons (sb.e h4 cx) pa_nil sz) sx) sx (by rw [sz]; rfl)) fun σ H R ⟨B, φ, ρ, μ, ab, hw⟩ => ?_
      refine ⟨B, φ, ρ, μ, ab, (DenI.bindV ab.mem.len hw).imp fun v H1 ⟨φ1, μ1, d, e1, m1, r1, h1⟩ => ⟨B, φ1, ρ, μ1, ab.ext e1 m1, (DenI.bindV m1.len h1).imp fun w H2 ⟨φ2, μ2, d2, e2, m2, r2, h2⟩ => ?_⟩⟩
      have r1' := RdV.mono e2 m1.len r1
      cases d with
      | tup xs =>
        cases d2 with
        | tup ys =>
          obtain ⟨pa, va, ea, q1, q2⟩ := rdV_tup r1'
          obtain ⟨pb, vb, eb, q3, q4⟩ := rdV_tup r2
          subst ea eb
          refine ⟨pa, pb, va, vb, rfl, .inr ⟨q1, q3, DenI.here m2 h2 ?_⟩⟩
          refine itok_pair (as := []) (bs := []) (w := ?_) (G := fun H => SqT X.K H pa va ∧ SqT X.K H pb vb) (vs := fun i => va[i]?) (ws := fun i => vb[i]?) ?_ m2.len ?_
          · rw [pairL_length, q2.length, q4.length]; exact walk_zipTup
          · intro H3 φ3 μ3 e
            have tp : ∀ {a : Addr} {vs : List V}, SqT X.K H2 a vs → SqT X.K H3 a vs := fun {a vs} h => by
              rcases h with (h1 | ⟨o, h1⟩) | h1
              · exact .inl (.inl (e.tup a vs h1))
              · exact .inl (.inr ⟨o, e.frz a o _ h1⟩)
              · exact .inr h1
            exact ⟨tp q1, tp q3⟩
          · intro i d hd
            obtain ⟨x, y, g1, g2, rfl⟩ := pairL_get hd
            obtain ⟨v1, g3, g4⟩ := q2.get g1
            obtain ⟨v2, g5, g6⟩ := q4.get g2
            exact ⟨x, y, v1, v2, rfl, g3, g5, g4, g6⟩
        | _ => exact False.elim h2
      | lst xs =>
        cases d2 with
        | lst ys =>
          obtain ⟨pa, va, ea, q1, n1, q2⟩ := rdV_lst r1'
          obtain ⟨pb, vb, eb, q3, n2, q4⟩ := rdV_lst r2
          subst ea eb
          refine ⟨pa, pb, va, vb, rfl, .inl ⟨SqL.of q1, SqL.of q3, DenI.here m2 h2 ?_⟩⟩
          refine itok_pair (as := []) (bs := []) (w := ?_) (G := fun H => SqL X.K H pa va ∧ SqL X.K H pb vb) (vs := fun i => va[i]?) (ws := fun i => vb[i]?) ?_ m2.len ?_
          · exact walk_zip (by rw [pairL_length, q2.length, q4.length])
          · intro H3 φ3 μ3 e
            exact ⟨SqL.of (e.keep pa _ q1 nt_lst (nAt_of (K := X.K) (H := H2) n1)), SqL.of (e.keep pb _ q3 nt_lst (nAt_of (K := X.K) (H := H2) n2))⟩
          · intro i d hd
            obtain ⟨x, y, g1, g2, rfl⟩ := pairL_get hd
            obtain ⟨v1, g3, g4⟩ := q2.get g1
            obtain ⟨v2, g5, g6⟩ := q4.get g2
            exact ⟨x, y, v1, v2, rfl, g3, g5, g4, g6⟩
        | _ => exact False.elim h2
      | _ => exact False.elim h2
    · cases h
  · cases h
theorem snd_enm {a : C} (sa : Snd Γ g k N a) : Snd Γ g k N (.enm a) := by
  refine .ofI (fun _ _ => rfl) (fun _ _ => rfl) fun {sc t e st W X} h cx => ?_
  simp only [mI] at h
  split at h
  · split at h
    · rename_i y p x pos
      simp only [Bool.and_eq_true, decide_eq_true_eq] at h
      obtain ⟨⟨h1, h2⟩, h3⟩ := h
      subst h1
      have q := cx.blt h2
      have sx := star_eq (mE_forms h3).1 [] X.env
      refine PI.weak (pi_enum q.1 q.2.1 (pa_cons (sa.e h3 cx) pa_nil sx) sx) fun σ H R ⟨B, φ, ρ, μ, ab, hw⟩ => ?_
      refine ⟨B, φ, ρ, μ, ab, (DenI.bindV ab.mem.len hw).imp fun v H1 ⟨φ1, μ1, d, e1, m1, r1, h1⟩ => ?_⟩
      cases d with
      | lst xs =>
        obtain ⟨pa, va, ea, q1, n1, q2⟩ := rdV_lst r1
        subst ea
        refine ⟨pa, va, rfl, SqL.of q1, DenI.here m1 h1 ?_⟩
        refine itok_pair (as := []) (bs := []) (w := ?_) (G := fun H => SqL X.K H pa va) (vs := fun i => some (.int (i : Nat))) (ws := fun i => va[i]?) ?_ m1.len ?_
        · rw [enumL_length, q2.length]; exact walk_enum
        · intro H3 φ3 μ3 e
          exact SqL.of (e.keep pa _ q1 nt_lst (nAt_of (K := X.K) (H := H1) n1))
        · intro i d hd
          obtain ⟨x, g1, rfl⟩ := enumL_get hd
          obtain ⟨v1, g3, g4⟩ := q2.get g1
          exact ⟨.int (i : Nat), x, .int (i : Nat), v1, by rw [Nat.zero_add], rfl, g3, rd_int, g4⟩
      | _ => exact False.elim h1
    · cases h
  · cases h
/-- a comprehension's parts in its block -/
theorem pts_of {Γ : Nm} {g : G} {k : Nat} {N : List Str} {sc : Scope} {st : Str → Bool} {X : Cx} {cnd : C} {ifs : List Expr} (s1 : Snd Γ g k N cnd) (c2 : Cxd Γ g k N sc st noW X) (h5 : (match ifs with | [] => isNop cnd | [x] => mE Γ N sc cnd x | _ => false) = true) : PTs X ifs (ttOf X.K g cnd) := by
  cases ifs with
  | nil =>
    have e : cnd = .nop := by cases cnd <;> first | rfl | cases h5
    subst e
    exact pts_nil
  | cons x r =>
    cases r with
    | nil =>
      dsimp only at h5
      have e : ttOf X.K g cnd = tT X.K noW g cnd := by cases cnd <;> first | rfl | (simp [mE] at h5)
      rw [e]
      exact pts_one (s1.t h5 c2)
    | cons _ _ => cases h5
theorem PII.weak {X : Cx} {tg e : Expr} {t t' : TI} (h : PII X tg e t) (f : ∀ σ H Q, t' σ H Q → t σ H Q) : PII X tg e t' := ⟨fun pins s σ H Q I hw => h.run pins s σ H Q I (f σ H Q hw)⟩
theorem snd_cmpn {own : List (Str × Nat)} {tg : T} {it cnd elt : C} (si : ∀ {Γ : Nm} {g : G} {k : Nat} {N : List Str}, Snd Γ g k N it) (s1 : ∀ {Γ : Nm} {g : G} {k : Nat} {N : List Str}, Snd Γ g k N cnd) (se : ∀ {Γ : Nm} {g : G} {k : Nat} {N : List Str}, Snd Γ g k N elt) : Snd Γ g k N (.cmpn own tg it cnd elt) := by
  refine .ofE (fun h => ?_) (fun _ _ => rfl) (fun _ _ _ => rfl) fun {sc e st W X} h cx => ?_
  · simp only [mE] at h; split at h <;> first | rfl | cases h
  · simp only [mE] at h
    split at h
    · rename_i el t i ifs scope pos
      simp only [Bool.and_eq_true, Bool.not_eq_true'] at h
      obtain ⟨⟨⟨⟨⟨⟨ho, h1⟩, h2⟩, h3⟩, h4⟩, h5⟩, h6⟩ := h
      have ok : BlkOk X.N X.env.scope scope own := by rw [cx.nm, cx.scp]; exact blkOk_by h1
      have hs : ∀ i ∈ tg.slots, i ∈ own.map (·.2) := fun i hi => List.contains_iff_mem.mp (List.all_eq_true.mp h2 i hi)
      refine PE.weak (pe_lc (tt := ttOf X.K g cnd) (cx.calm ho) cx.nd (si.i h4 cx) ok (fun s H C cl fp => ?_) (fun s H C cl fp => ?_) (fun s H C cl fp => ?_) (folded_eq (mI_notSet h4) X.env)) fun σ H Q hw => comp_den hs hw
      · have c2 := cx.blk s H scope cl C fp own (fun z => by rw [ho] at z; cases z)
        exact s_tgt c2.nm c2.nd c2.scp (.inl (c2.calm ho)) c2.sto h3
      · exact pts_of s1 (cx.blk s H scope cl C fp own (fun z => by rw [ho] at z; cases z)) h5
      · exact se.e h6 (cx.blk s H scope cl C fp own (fun z => by rw [ho] at z; cases z))
    · cases h
theorem evE_cmpl (own : List (Str × Nat)) (tg : T) (a cnd elt : C) (ρ : DEnv) (μ : Mem) : evE g (.cmpl own tg a cnd elt) ρ μ = evE g (.cmpn own tg (.itl a) cnd elt) ρ μ := by
  simp only [evE]
  rw [R.bind_assoc]
  cases evE g a ρ μ with
  | ok d m => cases d <;> rfl
  | er x m => rfl
  | no => rfl
theorem snd_cmpl {own : List (Str × Nat)} {tg : T} {a cnd elt : C} (sa : ∀ {Γ : Nm} {g : G} {k : Nat} {N : List Str}, Snd Γ g k N a) (s1 : ∀ {Γ : Nm} {g : G} {k : Nat} {N : List Str}, Snd Γ g k N cnd) (se : ∀ {Γ : Nm} {g : G} {k : Nat} {N : List Str}, Snd Γ g k N elt) : Snd Γ g k N (.cmpl own tg a cnd elt) := by
  refine .ofE (fun h => ?_) (fun _ _ => rfl) (fun _ _ _ => rfl) fun {sc e st W X} h cx => ?_
  · simp only [mE] at h; split at h <;> first | rfl | cases h
  · simp only [mE] at h
    split at h
    · rename_i el t i ifs scope pos
      simp only [Bool.and_eq_true] at h
      obtain ⟨⟨⟨⟨⟨⟨ho, h1⟩, h2⟩, h3⟩, h4⟩, h5⟩, h6⟩ := h
      have ok : BlkOk X.N X.env.scope scope own := by rw [cx.nm, cx.scp]; exact blkOk_by h1
      have hs : ∀ i ∈ tg.slots, i ∈ own.map (·.2) := fun i hi => List.contains_iff_mem.mp (List.all_eq_true.mp h2 i hi)
      refine PE.weak (pe_lcH (wi := tI X.K W g (.itl a)) (g := gT X.K tg) (tt := ttOf X.K g cnd) (te := tC X.K noW g elt) (cx.hoti ho) cx.nd (PII.weak (pii_list (sa.e h4 cx)) fun σ H R hw => w_itl hw) ok (fun s H C cl fp hI => ?_) (fun s H C cl fp hI => ?_) (fun s H C cl fp hI => ?_) (folded_eq (mE_forms h4).2 X.env)) fun σ H Q hw => ?_
      · have c2 := cx.blk s H scope cl C fp own (fun _ => hI)
        exact s_tgt c2.nm c2.nd c2.scp (.inr hI) c2.sto h3
      · exact pts_of s1 (cx.blk s H scope cl C fp own (fun _ => hI)) h5
      · exact se.e h6 (cx.blk s H scope cl C fp own (fun _ => hI))
      · obtain ⟨B, φ, ρ, μ, ab, hw⟩ := hw
        rw [evE_cmpl] at hw
        exact comp_den hs ⟨B, φ, ρ, μ, ab, hw⟩
    · cases h
theorem snd_isx {i : Nat} {x : Str} : Snd Γ g k N (.isx i x) := by
  refine .ofE (fun h => ?_) (fun _ _ => rfl) (fun _ _ _ => rfl) fun {sc e st W X} h cx => ?_
  · simp only [mE] at h; split at h <;> first | rfl | cases h
  · simp only [mE] at h
    split at h
    · rename_i y p1 z p2 c p3 pos
      simp only [Bool.and_eq_true, decide_eq_true_eq] at h
      obtain ⟨⟨⟨⟨⟨⟨⟨⟨⟨h1, h2⟩, h3⟩, h4⟩, h5⟩, h6⟩, h7⟩, h8⟩, h9⟩, h10⟩ := h
      subst h2
      subst h7
      have q := cx.blt h3
      have nz := nmOk_out h6
      have nc := nmOk_out h9
      obtain ⟨ex, e1, e2, e3⟩ := cx.isx h1
      have bt : bootBuiltins ("isinstance" : Str) = some (.builtin "isinstance") := by decide +kernel
      refine PE.weak (pe_callB e2 q.1 q.2.1 bt (pa_cons (pe_var (by rw [cx.nm]; exact h4) (visB_out (by rw [cx.scp]; exact h5)) nz.1 nz.2.1) (pa_cons (pe_glob (v := .ref (He.ga X.K x)) (glB_out (by rw [cx.scp]; exact h8)) (cx.cls x h10) rfl nc.1) pa_nil)) q.2.2.2 q.2.2.1) fun σ H Q ⟨B, φ, ρ, μ, ab, hw⟩ => ?_
      simp only [evE, e1] at hw
      split at hw
      · rename_i hi
        split at hw
        · rename_i b hb
          obtain ⟨v, r1, r2⟩ := ab.env i _ hi
          have hv : v = .ref Lams.exa := by simpa only [RdV] using r2
          subst hv
          exact ⟨_, r1, .ref (He.ga X.K x), .ref (He.ga X.K x), b, rfl, fun u hu => hu, e3 x b h10 hb, DenV.here ab.mem hw rd_bl⟩
        · exact False.elim hw
      · exact False.elim hw
    · cases h
theorem strsOf_rd {K : PySem.W.Frag} {H : Hp} {L : Addr → Prop} {φ : List Addr} : ∀ {ds : List D} {vs : List V} {ns : List Str}, RdL K H L φ ds vs → strsOf ds = some ns → vs = ns.map V.str
  | [], vs, ns, h, q => by
    simp only [strsOf, Option.some.injEq] at q
    simp only [RdL] at h
    subst q h
    rfl
  | d :: ds, vs, ns, h, q => by
    cases d with
    | str z =>
      simp only [strsOf] at q
      simp only [RdL] at h
      obtain ⟨w, ws, rfl, h1, h2⟩ := h
      cases e : strsOf ds with
      | none => rw [e] at q; cases q
      | some l =>
        rw [e] at q
        cases q
        rw [strsOf_rd h2 e, rdV_str h1]
        rfl
    | _ => simp [strsOf] at q
theorem snd_joi {a b : C} (sa : Snd Γ g k N a) (sb : Snd Γ g k N b) : Snd Γ g k N (.joi a b) := by
  refine .ofE (fun h => ?_) (fun _ _ => rfl) (fun _ _ _ => rfl) fun {sc e st W X} h cx => ?_
  · simp only [mE] at h; split at h <;> first | rfl | cases h
  · simp only [mE] at h
    split at h
    · rename_i v n ap x cp
      simp only [Bool.and_eq_true, decide_eq_true_eq] at h
      obtain ⟨⟨⟨⟨h1, h2⟩, h3⟩, h4⟩, h5⟩ := h
      subst h1
      refine PE.weak (pe_join (sa.e h4 cx) (sb.e h5 cx) (star_eq (mE_forms h5).1 [] X.env) (base_eq h2 _ _ _) h3) fun σ H Q ⟨B, φ, ρ, μ, ab, hw⟩ => ?_
      refine ⟨B, φ, ρ, μ, ab, (DenV.bindV ab.mem.len hw).imp fun v H1 ⟨φ1, μ1, d, e1, m1, r1, h1⟩ => ?_⟩
      cases d with
      | str z =>
        refine ⟨⟨z, rdV_str r1⟩, B, φ1, ρ, μ1, ab.ext e1 m1, (DenV.bindV m1.len h1).imp fun w H2 ⟨φ2, μ2, d2, e2, m2, r2, h2⟩ => ?_⟩
        unfold joiD at h2
        split at h2
        · rename_i ys hy
          split at h2
          · rename_i zs hz
            split at h2
            · rename_i hl
              obtain ⟨p, vs, rfl, sq, rl⟩ := asSeq_rd m2 r2 hy
              have e := strsOf_rd rl hz
              rw [e] at sq
              exact ⟨z, p, zs, rdV_str r1, rfl, sq, of_decide_eq_true hl, DenV.here m2 h2 rd_str⟩
            · exact False.elim h2
          · exact False.elim h2
        · exact False.elim h2
      | _ => exact False.elim h1
    · cases h
theorem rd_toV {K : PySem.W.Frag} {H : Hp} {L : Addr → Prop} {φ : List Addr} {d : D} (h : flat d = true) : RdV K H L φ d (toV d) := by
  cases d <;> first | (cases h; done) | (simp only [RdV, toV])
theorem Cxd.lamb (cx : Cxd Γ g k N sc st W X) (hh : Γ.hot = false) (hi : Γ.isx = false) {k2 : Nat} (low : ∀ f, Γ.fns.contains f = true → ∃ fd ps, FnOk X.prog X.w X.K X.mg X.base (L2N.CX X.prog X.w) k2 (He.ga X.K f) fd ps (spOf X.K g.low f) ∧ Binds X.K fd ps [])
    {A : Around} {outer : List PySem.Env} {s : Shared} {H : Hp} {E : XK} {scope : Scope} {f c' : Addr} (hr : Room k2 (A.deeper (LamX.lamEnv X scope s.heap.objs.size f c'))) :
    Cxd Γ.low g.low k2 N scope (fun _ => false) E (lamN X A outer s H E scope f c') where
  nd := cx.nd
  nm := cx.nm
  scp := rfl
  calm := fun _ => rfl
  hoti := fun z => by rw [show Γ.low.hot = Γ.hot from rfl, hh] at z; cases z
  sto := fun x h => by cases h
  room := fun _ => hr
  un := hr.units
  isx := fun z => by rw [show Γ.low.isx = Γ.isx from rfl, hi] at z; cases z
  cls := cx.cls
  takes := L2N.takes_of rfl rfl rfl rfl
  own := PassesOwn.leaving
  glo := cx.glo
  con := cx.con
  free := cx.free
  bfn := cx.bfn
  exs := cx.exs
  low := fun h => by cases h
  hnd := cx.hnd
  lam := fun h => by cases h
  fns := low
theorem noPar_out {p : Arguments} (h : noPar p = true) : p = ⟨[], [], none, [], [], none, []⟩ := by
  unfold noPar at h
  split at h
  · rfl
  · cases h
theorem told_out {K : PySem.W.Frag} {W : XK} {B : Addr → Prop} {H : Hp} {φ : List Addr} {μ μ' : Mem} {r : Option D} {Q : VK} (h : DenV K W B H φ μ (told r μ') Q) : ∃ d, r = some d ∧ flat d = true ∧ ∀ H' φ', Ext H φ μ H' φ' μ' → MemOk K H' φ' μ' B → Q (toV d) H' := by
  unfold told at h
  split at h
  · rename_i d
    split at h
    · rename_i hf
      exact ⟨d, rfl, hf, fun H' φ' e m => h _ H' φ' e m (rd_toV hf)⟩
    · exact False.elim h
  · exact False.elim h
theorem snd_err {f : Str} {b : C} (sb : ∀ {Γ : Nm} {g : G} {k : Nat} {N : List Str}, Snd Γ g k N b) : Snd Γ g k N (.err f b) := by
  refine .ofE (fun h => ?_) (fun _ _ => rfl) (fun _ _ _ => rfl) fun {sc e st W X} h cx => ?_
  · simp only [mE] at h; split at h <;> first | rfl | cases h
  · simp only [mE] at h
    split at h
    · rename_i y p1 params body scope lpos pos
      simp only [Bool.and_eq_true, decide_eq_true_eq] at h
      obtain ⟨⟨⟨⟨⟨⟨⟨⟨⟨hh, hi⟩, h1⟩, h2⟩, h3⟩, h4⟩, h5⟩, h6⟩, h7⟩, h8⟩ := h
      have hh : Γ.hot = false := by simpa using hh
      have hi : Γ.isx = false := by simpa using hi
      subst h1
      have hp := noPar_out h6
      subst hp
      have q := nmOk_out h3
      cases hdp : g.dp with
      | false =>
        refine ⟨fun pins s σ H Q I ⟨B, φ, ρ, μ, ab, hw⟩ => ?_⟩
        simp only [evE, hdp] at hw
        exact False.elim hw
      | true =>
        obtain ⟨k2, hk2, low⟩ := cx.low hdp
        obtain ⟨gm, gk, pg, bg, sg, dV, kV, doc, pm, cdv, ct, oc, an, od, osl, Ng, a, lk, hcg, hb, Sg, hNg, hva, hna, hG⟩ := cx.hnd f h4
        obtain ⟨me, c, hme, hcode, hqual, TB, hu⟩ := cx.lam h5
        have na := nmOk_out hna
        have room2 : Room (k2 + 2) X.A := by rw [← hk2]; exact cx.room hh
        refine PE.weak (call_lam (T := lamT X.K) (TT := TTof X.K (g.hnd f)) (t := fun E => tC X.K E g.low b) rfl (glB_out (by rw [cx.scp]; exact h2)) gm gk lk hcg hb Sg hNg hva (hG X _ rfl rfl rfl rfl rfl (room2.mono (by omega))) TB hcode
          (by rw [hqual]; exact List.mem_map.mpr ⟨me, hme, rfl⟩) (fun p hp1 hp2 => by rw [hqual]; exact hu p hp1 hp2) room2 (by rw [cx.scp]; exact LamX.lamS_by h7) rfl (fun _ _ _ _ _ => rfl)
          (fun A outer s H E fa c' hr => sb.e h8 (cx.lamb hh hi low hr)) (fun E σ H Q Q' hq ⟨B, φ, ρ, μ, ab, hw⟩ => ⟨B, φ, ρ, μ, ab, hw.imp hq⟩) q.1 na.1 na.2.1) fun σ H Q ⟨B, φ, ρ, μ, ab, hw⟩ => ?_
        refine ⟨ab.mem.tabs, fun H1 eN tb => ⟨B, φ, ρ, μ, ab.ext (Ext.growN eN) (ab.mem.growN eN tb), ?_⟩⟩
        have e0 : Ext H φ μ H1 φ μ := Ext.growN eN
        simp only [evE, hdp, if_true] at hw
        cases hr : evE g.low b ρ μ with
        | ok d' μ' =>
          rw [hr] at hw
          obtain ⟨d, r1, r2, r3⟩ := told_out hw
          exact fun v H' φ' e m rd => ⟨m.tabs, d, r1, r2, fun H'' gr tb => r3 H'' φ' ((e0.trans ab.mem.len e).trans ab.mem.len (.growN gr)) (m.growN gr tb)⟩
        | er x μ' =>
          rw [hr] at hw
          obtain ⟨d, r1, r2, r3⟩ := told_out hw
          exact fun H' φ' e m cls dx hx => ⟨m.tabs, x, d, hx, r1, r2, fun H'' gr tb => r3 H'' φ' ((e0.trans ab.mem.len e).trans ab.mem.len (.growN gr)) (m.growN gr tb)⟩
        | no => rw [hr] at hw; exact False.elim hw
    · cases h
theorem snd (c : C) : ∀ {Γ : Nm} {g : G} {k : Nat} {N : List Str}, Snd Γ g k N c := by
  induction c with
  | var i => intro Γ g k N; exact snd_var i
  | num i => intro Γ g k N; exact snd_num i
  | txt x => intro Γ g k N; exact snd_txt x
  | bl b => intro Γ g k N; exact snd_bl b
  | non => intro Γ g k N; exact snd_non
  | glo x => intro Γ g k N; exact snd_glo x
  | con x => intro Γ g k N; exact snd_con x
  | bin op a b ha hb => intro Γ g k N; exact snd_bin ha hb
  | neg a ha => intro Γ g k N; exact snd_neg ha
  | not a ha => intro Γ g k N; exact snd_not ha
  | and a b ha hb => intro Γ g k N; exact snd_and ha hb
  | or a b ha hb => intro Γ g k N; exact snd_or ha hb
  | one a ha => intro Γ g k N; exact snd_one ha
  | cmp op a b ha hb => intro Γ g k N; exact snd_cmp ha hb
  | chn op op' a b c ha hb hc => intro Γ g k N; exact snd_chn ha hb hc
  | ite t a b ht ha hb => intro Γ g k N; exact snd_ite ht ha hb
  | cal f as ha => intro Γ g k N; exact snd_cal ha
  | cav i fs as ha => intro Γ g k N; exact snd_cav ha
  | «bif» b as ha => intro Γ g k N; exact snd_bif ha
  | isi a t ha => intro Γ g k N; exact snd_isi ha
  | tup as ha => intro Γ g k N; exact snd_tup ha
  | lst as ha => intro Γ g k N; exact snd_lst ha
  | cel as ha => intro Γ g k N; exact snd_cel ha
  | nil => intro Γ g k N; exact snd_nil
  | cons a as ha hr => intro Γ g k N; exact snd_cons ha hr
  | idx a b ha hb => intro Γ g k N; exact snd_idx ha hb
  | sli a lo hi ha hl hh => intro Γ g k N; exact snd_sli ha hl hh
  | nop => intro Γ g k N; exact snd_nop
  | cmpn own tg it cnd elt hi h1 he => intro Γ g k N; exact snd_cmpn hi h1 he
  | err f b hb => intro Γ g k N; exact snd_err hb
  | cmpl own tg a cnd elt ha h1 he => intro Γ g k N; exact snd_cmpl ha h1 he
  | isx i x => intro Γ g k N; exact snd_isx
  | joi a b ha hb => intro Γ g k N; exact snd_joi ha hb
  | itl a ha => intro Γ g k N; exact snd_itl ha
  | rng1 a ha => intro Γ g k N; exact snd_rng1 ha
  | rng2 a b ha hb => intro Γ g k N; exact snd_rng2 ha hb
  | itr a ha => intro Γ g k N; exact snd_itr ha
  | zip a b ha hb => intro Γ g k N; exact snd_zip ha hb
  | enm a ha => intro Γ g k N; exact snd_enm ha
end
end Den

/-! Den15: statements: the checker; what lies in memory is changed. -/
namespace Den
open PySem PySem.Spec PyProof.Rows L2
variable [Lams]

/-! ### the checker -/
def loc1 (sc : Scope) (x : Str) : Bool := decide (sc.names.lookup x = some .local)
def swNames (sc : Scope) (ts : List Expr) : List Str := ts.filterMap fun
    | .Name id pos => if sc.names.lookup id == some .local && pos.line == (ts.head?.map (·.pos.line)).getD 0 then some id else none
    | _ => none
/-- the stores are not swapped -/
def noSw (sc : Scope) (t v : Expr) : Bool := match t, v with
  | .Tuple ts _ _, .Tuple vs _ _ => !(ts.length == 2 || ts.length == 3) || vs.length != ts.length || !(vs.all notStar) || (swNames sc ts).length != ts.length || (swNames sc ts).eraseDups.length != (swNames sc ts).length || vs.all (foldedForSure 8)
  | .List .., _ => false
  | _, _ => true
/-- they are -/
def isSw (sc : Scope) (ts vs : List Expr) : Bool := (ts.length == 2 || ts.length == 3) && vs.length == ts.length && vs.all notStar && (swNames sc ts).length == ts.length && (swNames sc ts).eraseDups.length == (swNames sc ts).length && !(vs.all (foldedForSure 8)) && !(vs.all (constantsAlone 8))
theorem kindOf_eq {env : PySem.Env} {x : Str} : env.kindOf x = env.scope.names.lookup x := rfl
def isStar : Expr → Bool
  | .Starred .. => true
  | _ => false
theorem star_any {vs : List Expr} (h : vs.all notStar = true) : vs.any isStar = false := by
  induction vs with
  | nil => rfl
  | cons v vs ih =>
    rw [List.all_cons, Bool.and_eq_true] at h
    rw [List.any_cons, ih h.2]
    cases v <;> first | rfl | (exact absurd h.1 (by simp [notStar]))
theorem star_all {vs : List Expr} (h : vs.any isStar = false) : vs.all notStar = true := by
  rw [List.all_eq_true]
  intro x hx
  have := List.any_eq_false.mp h x hx
  cases x <;> first | rfl | (exact absurd rfl this)
theorem sw_unfold {env : PySem.Env} {ts vs : List Expr} {kt p k2 p2} : swappedStores [.Tuple ts kt p] (.Tuple vs k2 p2) env =
    (if (!(ts.length == 2 || ts.length == 3) || vs.length != ts.length || env.blockKind != .function) = true then pure none
    else if vs.any isStar = true then pure none
    else if ((swNames env.scope ts).length != ts.length || (swNames env.scope ts).eraseDups.length != (swNames env.scope ts).length) = true then pure none
    else if vs.all (foldedForSure 8) = true then pure none
    else if vs.all (constantsAlone 8) = true then ((unsupported "assign.tuple-of-constant-expressions:order-of-the-stores" : Sem Unit) >>= fun _ => pure (some (swNames env.scope ts)))
    else pure (some (swNames env.scope ts))) := by
  rfl
theorem isSw_eq {env : PySem.Env} {ts vs : List Expr} {kt p k2 p2} (hk : env.scope.kind = .function) (h : isSw env.scope ts vs = true) : swappedStores [.Tuple ts kt p] (.Tuple vs k2 p2) env = pure (some (swNames env.scope ts)) := by
  unfold isSw at h
  simp only [Bool.and_eq_true, Bool.not_eq_true'] at h
  obtain ⟨⟨⟨⟨⟨⟨h1, h2⟩, h3⟩, h4⟩, h5⟩, h6⟩, h7⟩ := h
  have hb : (env.blockKind != ScopeKind.function) = false := by unfold Env.blockKind; rw [hk]; rfl
  have hv : (vs.length != ts.length) = false := by rw [bne, h2]; rfl
  have hn : ((swNames env.scope ts).length != ts.length) = false := by rw [bne, h4]; rfl
  have hd : ((swNames env.scope ts).eraseDups.length != (swNames env.scope ts).length) = false := by rw [bne, h5]; rfl
  rw [sw_unfold, h1, hv, hb, star_any h3, hn, hd, h6, h7]
  rfl
theorem noSw_eq {env : PySem.Env} {t v : Expr} (h : noSw env.scope t v = true) : swappedStores [t] v env = pure none := by
  unfold noSw at h
  split at h
  · rename_i ts k1 p1 vs k2 p2
    simp only [Bool.or_eq_true, Bool.not_eq_true'] at h
    rw [sw_unfold]
    by_cases g1 : (!(ts.length == 2 || ts.length == 3) || vs.length != ts.length || env.blockKind != .function) = true
    · rw [if_pos g1]
    rw [if_neg g1]
    by_cases g2 : vs.any isStar = true
    · rw [if_pos g2]
    rw [if_neg g2]
    by_cases g3 : ((swNames env.scope ts).length != ts.length || (swNames env.scope ts).eraseDups.length != (swNames env.scope ts).length) = true
    · rw [if_pos g3]
    rw [if_neg g3]
    by_cases g4 : vs.all (foldedForSure 8) = true
    · rw [if_pos g4]
    exfalso
    simp only [Bool.or_eq_true, not_or, Bool.not_eq_true] at g1 g2 g3 g4
    rcases h with ((((h | h) | h) | h) | h) | h
    · rw [h] at g1; simp at g1
    · rw [h] at g1; simp at g1
    · rw [star_all g2] at h; cases h
    · rw [h] at g3; simp at g3
    · rw [h] at g3; simp at g3
    · rw [h] at g4; cases g4
  · cases h
  · rename_i h1 h2
    cases t <;> first | rfl | (cases v <;> first | rfl | (exfalso; apply h1 <;> rfl) | (exfalso; apply h2 <;> rfl)) | (exfalso; apply h2 <;> rfl)
def notComp : Expr → Bool
  | .ListComp .. => false
  | .SetComp .. => false
  | .DictComp .. => false
  | _ => true
theorem swaps_none {v : Expr} (h : notComp v = true) (t : Option Expr) (l : Nat) (env : PySem.Env) : swapsWith v t l env = pure false := by
  cases v <;> first | rfl | (simp [notComp] at h)
def notName : Expr → Bool
  | .Name .. => false
  | _ => true
theorem swaps_off {t : Expr} (h : notName t = true) (v : Expr) (l : Nat) (env : PySem.Env) : swapsWith v (some t) l env = pure false := by
  unfold swapsWith
  cases v <;> first | rfl | (cases t <;> first | rfl | (simp [notName] at h))
/-- a comprehension's block is swapped in -/
def swOn (sc scope : Scope) (y : Str) (py pos : Pos) : Bool := loc1 sc y && (py.line == pos.line) && !(scope.names.any fun (n, k) => n == y && (k == .local || k == .cell))
theorem sw_off {env : PySem.Env} {elt : Expr} {gs : List Comprehension} {scope : Scope} {pos py : Pos} {y : Str} {l : Nat} (hk : env.scope.kind = .function) (h : swOn env.scope scope y py pos = false) : swapsWith (.ListComp elt gs scope pos) (some (.Name y py)) l env = pure false := by
  have hb : env.blockKind = .function := by unfold Env.blockKind; rw [hk]; rfl
  unfold swapsWith
  dsimp only
  show (pure _ : Sem Bool) = _
  congr 1
  rw [hb, kindOf_eq]
  unfold swOn loc1 at h
  have e : (env.scope.names.lookup y == some NameKind.local) = decide (env.scope.names.lookup y = some NameKind.local) := by
    cases env.scope.names.lookup y with
    | none => rfl
    | some z => cases z <;> rfl
  rw [e, show (Expr.ListComp elt gs scope pos).pos = pos from rfl]
  simpa using h
mutual
def mS (Γ : Nm) (N : List Str) (sc : Scope) (st : Str → Bool) : S → Stmt → Bool
  | .pass, s => match s with
    | .Pass _ => true
    | .Expr (.Constant (.str _) _ _) _ => true
    | _ => false
  | .set i e, s => match s with
    | .Assign [.Name x px] v _ => decide (N[i]? = some x) && locB sc x && st x && mE Γ N sc e v
    | _ => false
  | .tgt tg e, s => match s with
    | .Assign [.Tuple ts k p] v _ => !Γ.hot && noSw sc (.Tuple ts k p) v && mT N sc st tg (.Tuple ts k p) && mE Γ N sc e v
    | _ => false
  | .par i j a b, s => match s with
    | .Assign [.Tuple [.Name x px, .Name y py] k p] (.Tuple [va, vb] _ _) _ => !Γ.hot && isSw sc [.Name x px, .Name y py] [va, vb] && decide (swNames sc [.Name x px, .Name y py] = [x, y]) && decide (N[i]? = some x) && decide (N[j]? = some y) && decide (i ≠ j) && loc1 sc x && loc1 sc y && mE Γ N sc a va && mE Γ N sc b vb
    | _ => false
  | .par3 i j l a b c, s => match s with
    | .Assign [.Tuple [.Name x px, .Name y py, .Name z pz] k p] (.Tuple [va, vb, vc] _ _) _ => !Γ.hot && isSw sc [.Name x px, .Name y py, .Name z pz] [va, vb, vc] && decide (swNames sc [.Name x px, .Name y py, .Name z pz] = [x, y, z]) && decide (N[i]? = some x) && decide (N[j]? = some y) && decide (N[l]? = some z) &&
        decide (i ≠ j) && decide (i ≠ l) && decide (j ≠ l) && loc1 sc x && loc1 sc y && loc1 sc z && mE Γ N sc a va && mE Γ N sc b vb && mE Γ N sc c vc
    | _ => false
  | .ife t a b, s => match s with
    | .If c x y _ => mE Γ N sc t c && mSs Γ N sc st a x && mSs Γ N sc st b y
    | _ => false
  | .for tg it b, s => match s with
    | .For t i x [] _ => !Γ.hot && mT N sc st tg t && mI Γ N sc it t i && mSs Γ N sc st b x
    | _ => false
  | .whl t b, s => match s with
    | .While c x [] _ => !Γ.hot && mE Γ N sc t c && mSs Γ N sc st b x
    | _ => false
  | .ret e, s => match s with
    | .Return (some v) _ => mE Γ N sc e v
    | _ => false
  | .retn, s => match s with
    | .Return none _ => true
    | _ => false
  | .exp e, s => match s with
    | .Expr v _ => notComp v && mE Γ N sc e v
    | _ => false
  | .brk, s => match s with
    | .Break _ => true
    | _ => false
  | .cnt, s => match s with
    | .Continue _ => true
    | _ => false
  | .rai x, s => match s with
    | .Raise (some (.Call (.Name y _) [.Constant (.str _) _ _] [] _)) none _ => !Γ.hot && decide (x = y) && glB sc y && nmOk y && Γ.exs.contains y
    | _ => false
  | .app o e, s => match s with
    | .Expr (.Call (.Attribute v n ap) [x] [] cp) _ => decide (n = "append") && notCall0 v && (ap.endLine == cp.line) && mE Γ N sc o v && mE Γ N sc e x
    | _ => false
  | .sub o i e, s => match s with
    | .Assign [.Subscript a b _] v _ => !isSlice b && mE Γ N sc e v && mE Γ N sc o a && mE Γ N sc i b
    | _ => false
  | .frz _, _ => false
  | .nil, _ => false
  | .cons _ _, _ => false
def mSs (Γ : Nm) (N : List Str) (sc : Scope) (st : Str → Bool) : S → List Stmt → Bool
  | .nil, ss => ss.isEmpty
  | .cons a r, ss => match a with
    | .frz _ => mSs Γ N sc st r ss
    | a => match ss with
      | x :: xs => mS Γ N sc st a x && mSs Γ N sc st r xs
      | [] => false
  | _, _ => false
end
end Den

/-! Den16: memory is changed; blocks, loops. -/
namespace Den
open PySem PySem.Spec PyProof.Rows L2
variable [Lams]

section
variable {K : PySem.W.Frag} {W : XK} {B : Addr → Prop} {H : Hp} {φ : List Addr} {μ : Mem} {σ : L2.St} {ρ : DEnv} {g : G}
theorem set_get {μ : Mem} {n i : Nat} {c : Option Cell} {d : Option Cell} (h : (μ.set n c)[i]? = some d) : (i = n ∧ d = c ∧ n < μ.length) ∨ (i ≠ n ∧ μ[i]? = some d) := by
  by_cases hi : n = i
  · subst hi
    have hl : n < μ.length := by
      have := (List.getElem?_eq_some_iff.mp h).1
      simpa using this
    rw [List.getElem?_set_self hl] at h
    exact .inl ⟨rfl, (Option.some.inj h).symm, hl⟩
  · rw [List.getElem?_set_ne hi] at h
    exact .inr ⟨fun e => hi e.symm, h⟩
theorem write_cell (m : MemOk K H φ μ B) {n : Nat} {a : Addr} {xs ys : List D} {vs ws : List V} (hn : μ[n]? = some (some (.lst xs))) (ha : φ[n]? = some a) (hH : H a = some (.lst vs)) (rl : RdL K H (Live φ μ B) φ ys ws) :
    Ext H φ μ (upd H a (.lst ws)) φ (μ.set n (some (.lst ys))) ∧ MemOk K (upd H a (.lst ws)) φ (μ.set n (some (.lst ys))) B := by
  have at0 : At φ μ a := ⟨n, _, hn, ha⟩
  have e : Ext H φ μ (upd H a (.lst ws)) φ (μ.set n (some (.lst ys))) := by
    refine ⟨⟨[], by simp⟩, fun i hi h => ?_, fun i b o h1 h2 => (by rw [List.getElem?_eq_none h1] at h2; cases h2), fun b o h nt hb => ?_, fun b o h nt => ?_, fun b us h => ?_, fun b o u h => ?_⟩
    · have hne : n ≠ i := fun z => by rw [← z, hn] at h; cases h
      rw [List.getElem?_set_ne hne]; exact h
    · rw [upd_ne (fun z => hb (by rw [z]; exact at0))]; exact h
    · by_cases z : b = a
      · exact ⟨_, by rw [z, upd_same], nt_lst⟩
      · exact ⟨o, by rw [upd_ne z]; exact h, nt⟩
    · rw [upd_ne (fun z => by rw [z, hH] at h; cases h)]; exact h
    · rw [upd_ne (fun z => by rw [z, hH] at h; cases h)]; exact h
  have sg : ∀ {i : Nat} {c : Cell}, (μ.set n (some (.lst ys)))[i]? = some (some c) → ∃ c', μ[i]? = some (some c') := fun {i c} h => by
    rcases set_get h with ⟨h1, _, _⟩ | ⟨_, h1⟩
    · exact ⟨_, by rw [h1]; exact hn⟩
    · exact ⟨c, h1⟩
  refine ⟨e, by rw [List.length_set]; exact m.len, fun i j b c c' h1 h2 h3 h4 => ?_, fun i c b h1 h2 => ?_, fun b h => ?_, tabs_upd hH m.tabs⟩
  · obtain ⟨c1, g1⟩ := sg h1
    obtain ⟨c2, g2⟩ := sg h2
    exact m.inj i j b c1 c2 g1 g2 h3 h4
  · rcases set_get h1 with ⟨g1, g2, _⟩ | ⟨g1, g2⟩
    · cases g2
      rw [g1, ha] at h2
      cases h2
      exact ⟨⟨ws, upd_same, RdL.mono e m.len rl⟩, (m.cell n _ a hn ha).2⟩
    · obtain ⟨q, nb⟩ := m.cell i c b g2 h2
      refine ⟨?_, nb⟩
      have hne : b ≠ a := fun z => g1 (m.inj i n a c _ g2 hn (by rw [← z]; exact h2) ha)
      cases c with
      | lst es =>
        obtain ⟨us, q1, q2⟩ := q
        exact ⟨us, by rw [upd_ne hne]; exact q1, RdL.mono e m.len q2⟩
  · obtain ⟨o, q1, q2⟩ := m.bt b h
    exact e.there b o q1 q2
/-- a thing is not changed any more -/
theorem freeze (m : MemOk K H φ μ B) {n : Nat} {xs : List D} (hn : μ[n]? = some (some (.lst xs))) : Ext H φ μ H φ (μ.set n none) ∧ MemOk K H φ (μ.set n none) B := by
  have e : Ext H φ μ H φ (μ.set n none) := by
    refine ⟨⟨[], by simp⟩, fun i hi h => ?_, fun i b o h1 h2 => (by rw [List.getElem?_eq_none h1] at h2; cases h2), fun b o h nt hb => h, fun b o h nt => ⟨o, h, nt⟩, fun b us h => h, fun b o u h => h⟩
    have hne : n ≠ i := fun z => by rw [← z, hn] at h; cases h
    rw [List.getElem?_set_ne hne]; exact h
  have sg : ∀ {i : Nat} {c : Cell}, (μ.set n none)[i]? = some (some c) → μ[i]? = some (some c) := fun {i c} h => by
    rcases set_get h with ⟨_, h1, _⟩ | ⟨_, h1⟩
    · cases h1
    · exact h1
  refine ⟨e, by rw [List.length_set]; exact m.len, fun i j b c c' h1 h2 h3 h4 => m.inj i j b c c' (sg h1) (sg h2) h3 h4, fun i c b h1 h2 => ?_, m.bt, m.tabs⟩
  obtain ⟨q, nb⟩ := m.cell i c b (sg h1) h2
  refine ⟨?_, nb⟩
  cases c with
  | lst es =>
    obtain ⟨us, q1, q2⟩ := q
    exact ⟨us, q1, RdL.mono e m.len q2⟩
theorem Abs.frozen (ab : Abs K H σ φ ρ μ B) {i n : Nat} {xs : List D} (hi : ρ[i]? = some (some (.cel n))) (hn : μ[n]? = some (some (.lst xs))) : Ext H φ μ H φ (μ.set n none) ∧ Abs K H σ φ (ρ.set i (some (.lst xs))) (μ.set n none) B := by
  obtain ⟨e, m'⟩ := freeze ab.mem hn
  refine ⟨e, m', by rw [List.length_set]; exact ab.len, fun j d h => ?_⟩
  by_cases hj : i = j
  · subst hj
    have hl : i < ρ.length := by
      have q := (List.getElem?_eq_some_iff.mp h).1
      simpa using q
    rw [List.getElem?_set_self hl] at h
    cases h
    obtain ⟨v, h1, h2⟩ := ab.env i _ hi
    simp only [RdV] at h2
    obtain ⟨a, ha, rfl⟩ := h2
    obtain ⟨q, nb⟩ := ab.mem.cell n _ a hn ha
    obtain ⟨vs, q1, q2⟩ := q
    refine ⟨_, h1, ?_⟩
    simp only [RdV]
    refine ⟨a, vs, rfl, q1, fun l => ?_, RdL.mono e ab.mem.len q2⟩
    rcases l with l | ⟨j, c, g1, g2⟩
    · exact nb l
    · rcases set_get g1 with ⟨_, g3, _⟩ | ⟨g3, g4⟩
      · cases g3
      · exact g3 (ab.mem.inj j n a c _ g4 hn g2 ha)
  · rw [List.getElem?_set_ne hj] at h
    obtain ⟨v, h1, h2⟩ := ab.env j d h
    exact ⟨v, h1, RdV.mono e ab.mem.len h2⟩
/-! readings -/
def tS (K : PySem.W.Frag) (W : XK) (g : G) (s : S) : TS := fun D σ H => ∃ B φ ρ μ, Abs K H σ φ ρ μ B ∧ DenF K W B H φ μ (evS g s ρ μ) D
theorem DenF.bindF (hl : φ.length = μ.length) {r : R Fl} {f : DEnv → Mem → R Fl} {Dn : Ends} {Nx : L2.St → Hp → Prop} (h : DenF K W B H φ μ (r.bind fun x μ' => match x with | .nx ρ' => f ρ' μ' | x => .ok x μ') Dn)
    (hn : ∀ σ' H' φ' ρ' μ', Ext H φ μ H' φ' μ' → Abs K H' σ' φ' ρ' μ' B → DenF K W B H' φ' μ' (f ρ' μ') Dn → Nx σ' H') : DenF K W B H φ μ r { Dn with nx := Nx } := by
  cases r with
  | ok x m =>
    cases x with
    | nx ρ' => exact fun σ' H' φ' e a => hn σ' H' φ' ρ' m e a (DenF.shift e hl h)
    | bk ρ' => exact h
    | ct ρ' => exact h
    | rt d => exact h
  | er x m => exact h
  | no => exact h
/-- the turn of a loop, then the next -/
theorem DenF.turn (hl : φ.length = μ.length) {r : R Fl} {f : DEnv → Mem → R Fl} {Dn : Ends} {Nx : L2.St → Hp → Prop} (h : DenF K W B H φ μ (r.bind fun x μ' => match x with | .nx ρ' => f ρ' μ' | .ct ρ' => f ρ' μ' | .bk ρ' => .ok (.nx ρ') μ' | .rt d => .ok (.rt d) μ') Dn)
    (hn : ∀ σ' H' φ' ρ' μ', Ext H φ μ H' φ' μ' → Abs K H' σ' φ' ρ' μ' B → DenF K W B H' φ' μ' (f ρ' μ') Dn → Nx σ' H') : DenF K W B H φ μ r { Dn with nx := Nx, ct := Nx, bk := Dn.nx } := by
  cases r with
  | ok x m =>
    cases x with
    | nx ρ' => exact fun σ' H' φ' e a => hn σ' H' φ' ρ' m e a (DenF.shift e hl h)
    | ct ρ' => exact fun σ' H' φ' e a => hn σ' H' φ' ρ' m e a (DenF.shift e hl h)
    | bk ρ' => exact h
    | rt d => exact h
  | er x m => exact h
  | no => exact h
theorem w_for {tg : T} {it : C} {b : S} {Dn : Ends} (h : tS K W g (.for tg it b) Dn σ H) : tFor (tI K W g it) (gT K tg) (tS K W g b) Dn σ H := by
  obtain ⟨B, φ, ρ, μ, ab, h⟩ := h
  refine ⟨B, φ, ρ, μ, ab, (DenF.bindI ab.mem.len h).imp fun J H1 ⟨φ1, μ1, items, e1, m1, iok, h1⟩ => ?_⟩
  have ab1 := ab.ext e1 m1
  refine for_it iok (fun i σ' H' => ∃ φ' ρ' μ', Ext H1 φ1 μ1 H' φ' μ' ∧ Abs K H' σ' φ' ρ' μ' B ∧
      DenF K W B H' φ' μ' (forL (fun d ρ μ => match asg tg d ρ with | some ρ' => evS g b ρ' μ | none => .no) (items.drop i) ρ' μ') Dn) ⟨φ1, ρ, μ1, .refl, ab1, by rw [List.drop_zero]; exact h1⟩ ?_ ?_ ?_
  · rintro i σ' H' _ ⟨φ', ρ', μ', e, _, _⟩
    exact ⟨φ', μ', e⟩
  · rintro i x σ' H' H'' hi ⟨φ', ρ', μ', e, a', hq⟩ ⟨gr, yd⟩
    have rx := yd B φ' μ' _ (fun a h => .inl h) a'.mem.len e (List.getElem?_eq_getElem hi)
    rw [List.drop_eq_getElem_cons hi] at hq
    simp only [forL] at hq
    have eg : Ext H' φ' μ' H'' φ' μ' := .grow gr
    have a'' := a'.grow gr
    cases qa : asg tg items[i] ρ' with
    | none => simp only [qa] at hq; exact False.elim hq
    | some ρ2 =>
      simp only [qa] at hq
      refine ⟨B, φ', ρ', μ', _, ρ2, a'', rx, qa, fun σ2 ab2 _ => ⟨B, φ', ρ2, μ', ab2, ?_⟩⟩
      refine DenF.turn a''.mem.len (DenF.shift eg a'.mem.len hq) fun σ3 H3 φ3 ρ3 μ3 e3 a3 h3 => ?_
      exact ⟨φ3, ρ3, μ3, e.trans ab1.mem.len (eg.trans a'.mem.len e3), a3, h3⟩
  · rintro σ' H' ⟨φ', ρ', μ', e, a', hq⟩
    rw [List.drop_length] at hq
    exact hq σ' H' φ' .refl a'
theorem w_whl {t : C} {b : S} {Dn : Ends} (h : tS K W g (.whl t b) Dn σ H) : tWhile (tT K W g t) (tS K W g b) Dn σ H := by
  obtain ⟨B, φ, ρ, μ, ab, h⟩ := h
  refine ⟨fun m σ' H' => ∃ φ' ρ' μ', Abs K H' σ' φ' ρ' μ' B ∧ DenF K W B H' φ' μ' (whlL (fun ρ μ => evT g t ρ μ) (fun ρ μ => evS g b ρ μ) m ρ' μ') Dn, ⟨g.W, φ, ρ, μ, ab, h⟩, ?_⟩
  rintro m σ' H' ⟨φ', ρ', μ', a', hq⟩
  cases m with
  | zero => exact False.elim hq
  | succ m =>
    simp only [whlL] at hq
    refine ⟨B, φ', ρ', μ', a', (DenF.bindB a'.mem.len hq).imp fun c H1 ⟨φ1, μ1, e1, m1, h1⟩ => ?_⟩
    have a1 := a'.ext e1 m1
    cases c with
    | false => exact h1 σ' H1 φ1 .refl a1
    | true =>
      refine ⟨fun σ2 H2 => ∃ φ2 ρ2 μ2, Abs K H2 σ2 φ2 ρ2 μ2 B ∧ DenF K W B H2 φ2 μ2 (whlL (fun ρ μ => evT g t ρ μ) (fun ρ μ => evS g b ρ μ) m ρ2 μ2) Dn, fun σ2 H2 h2 => ⟨m, Nat.lt_succ_self m, h2⟩, B, φ1, ρ', μ1, a1, ?_⟩
      exact DenF.turn m1.len h1 fun σ3 H3 φ3 ρ3 μ3 _ a3 h3 => ⟨φ3, ρ3, μ3, a3, h3⟩
end
end Den

/-! Den17: statements are sound. -/
namespace Den
open PySem PySem.Spec PyProof.Rows L2
variable [Lams]

theorem PS.weak {X : Cx} {e : Stmt} {t t' : TS} (h : PS X e t) (f : ∀ D σ H, t' D σ H → t D σ H) : PS X e t' := ⟨fun pins s σ H Q I hw => h.run pins s σ H Q I (f Q σ H hw)⟩
theorem PSs.weak {X : Cx} {e : List Stmt} {t t' : TS} (h : PSs X e t) (f : ∀ D σ H, t' D σ H → t D σ H) : PSs X e t' := ⟨fun pins s σ H Q I hw => h.run pins s σ H Q I (f Q σ H hw)⟩
/-- a statement, a block -/
structure Sns (Γ : Nm) (g : G) (k : Nat) (N : List Str) (c : S) : Prop where
  s : ∀ {sc : Scope} {e : Stmt} {st : Str → Bool} {W : XK} {X : Cx}, mS Γ N sc st c e = true → sc.kind = .function → Cxd Γ g k N sc st W X → PS X e (tS X.K W g c)
  ss : ∀ {sc : Scope} {e : List Stmt} {st : Str → Bool} {W : XK} {X : Cx}, mSs Γ N sc st c e = true → sc.kind = .function → Cxd Γ g k N sc st W X → PSs X e (tS X.K W g c)
section
variable {Γ : Nm} {g : G} {k : Nat} {N : List Str}
theorem Sns.of {s : S} (hs : ∀ sc st ss, mSs Γ N sc st s ss = false) (h : ∀ {sc : Scope} {e : Stmt} {st : Str → Bool} {W : XK} {X : Cx}, mS Γ N sc st s e = true → sc.kind = .function → Cxd Γ g k N sc st W X → PS X e (tS X.K W g s)) : Sns Γ g k N s :=
  ⟨h, fun q => by rw [hs] at q; cases q⟩
theorem sns_pass : Sns Γ g k N .pass := by
  refine .of (fun _ _ _ => rfl) fun {sc e st W X} h hk cx => ?_
  simp only [mS] at h
  have go : ∀ D σ H, tS X.K W g .pass D σ H → tNext D σ H := fun D σ H ⟨B, φ, ρ, μ, ab, hw⟩ => hw σ H φ .refl ab
  split at h
  · exact PS.weak ps_pass go
  · exact PS.weak ps_doc go
  · cases h
theorem lc_set {own : List (Str × Nat)} {tg : T} {it cnd elt : C} {i : Nat} {x : Str} {px : Pos} {v : Expr} {pos : Pos} {sc : Scope} {st : Str → Bool} {W : XK} {X : Cx} (cx : Cxd Γ g k N sc st W X) (hk : sc.kind = .function)
    (hi : N[i]? = some x) (hx : locB sc x = true) (hf : st x = true) (h : mE Γ N sc (.cmpn own tg it cnd elt) v = true) : PS X (.Assign [.Name x px] v pos) (tAsg (tC X.K W g (.cmpn own tg it cnd elt)) (gName i)) := by
  have hp := (snd (.cmpn own tg it cnd elt)).e h cx
  have hk' : X.env.scope.kind = .function := by rw [cx.scp]; exact hk
  simp only [mE] at h
  split at h
  · rename_i el t i2 ifs scope p2
    cases q : swOn sc scope x px p2 with
    | false => exact ps_set cx.nd (by rw [cx.nm]; exact hi) (by rw [cx.scp]; exact locB_out hx) hp (sw_off hk' (by rw [cx.scp]; exact q)) (cx.sto x hf)
    | true =>
      unfold swOn loc1 at q
      simp only [Bool.and_eq_true, decide_eq_true_eq, Bool.not_eq_true'] at q
      obtain ⟨⟨q1, q2⟩, q3⟩ := q
      have q1' : X.env.scope.names.lookup x = some .local := by rw [cx.scp]; exact q1
      simp only [Bool.and_eq_true, Bool.not_eq_true'] at h
      obtain ⟨⟨⟨⟨⟨⟨ho, h1⟩, h2⟩, h3⟩, h4⟩, h5⟩, h6⟩ := h
      have ok : BlkOk X.N X.env.scope scope own := by rw [cx.nm, cx.scp]; exact blkOk_by h1
      have hs : ∀ i ∈ tg.slots, i ∈ own.map (·.2) := fun i hi => List.contains_iff_mem.mp (List.all_eq_true.mp h2 i hi)
      refine PS.weak (ps_setLc (tt := ttOf X.K g cnd) (cx.calm ho) cx.nd (by rw [cx.nm]; exact hi) q1' (sw_true hk' q1' q2 q3) ((snd it).i h4 cx) ok (fun s H C cl fp => ?_) (fun s H C cl fp => ?_) (fun s H C cl fp => ?_) (folded_eq (mI_notSet h4) X.env)) fun D σ H hw => comp_den (Q := fun v H1 => gName i v σ H1 D.nx) hs hw
      · have c2 := cx.blk s H scope cl C fp own (fun z => by rw [ho] at z; cases z)
        exact s_tgt c2.nm c2.nd c2.scp (.inl (c2.calm ho)) c2.sto h3
      · exact pts_of (snd cnd) (cx.blk s H scope cl C fp own (fun z => by rw [ho] at z; cases z)) h5
      · exact (snd elt).e h6 (cx.blk s H scope cl C fp own (fun z => by rw [ho] at z; cases z))
  · cases h
theorem lc_setH {own : List (Str × Nat)} {tg : T} {a cnd elt : C} {i : Nat} {x : Str} {px : Pos} {v : Expr} {pos : Pos} {sc : Scope} {st : Str → Bool} {W : XK} {X : Cx} (cx : Cxd Γ g k N sc st W X) (hk : sc.kind = .function)
    (hi : N[i]? = some x) (hx : locB sc x = true) (hf : st x = true) (h : mE Γ N sc (.cmpl own tg a cnd elt) v = true) : PS X (.Assign [.Name x px] v pos) (tAsg (tC X.K W g (.cmpl own tg a cnd elt)) (gName i)) := by
  have hp := (snd (.cmpl own tg a cnd elt)).e h cx
  have hk' : X.env.scope.kind = .function := by rw [cx.scp]; exact hk
  simp only [mE] at h
  split at h
  · rename_i el t i2 ifs scope p2
    cases q : swOn sc scope x px p2 with
    | false => exact ps_set cx.nd (by rw [cx.nm]; exact hi) (by rw [cx.scp]; exact locB_out hx) hp (sw_off hk' (by rw [cx.scp]; exact q)) (cx.sto x hf)
    | true =>
      unfold swOn loc1 at q
      simp only [Bool.and_eq_true, decide_eq_true_eq, Bool.not_eq_true'] at q
      obtain ⟨⟨q1, q2⟩, q3⟩ := q
      have q1' : X.env.scope.names.lookup x = some .local := by rw [cx.scp]; exact q1
      simp only [Bool.and_eq_true] at h
      obtain ⟨⟨⟨⟨⟨⟨ho, h1⟩, h2⟩, h3⟩, h4⟩, h5⟩, h6⟩ := h
      have ok : BlkOk X.N X.env.scope scope own := by rw [cx.nm, cx.scp]; exact blkOk_by h1
      have hs : ∀ i ∈ tg.slots, i ∈ own.map (·.2) := fun i hi => List.contains_iff_mem.mp (List.all_eq_true.mp h2 i hi)
      refine PS.weak (ps_setLcH (wi := tI X.K W g (.itl a)) (g := gT X.K tg) (tt := ttOf X.K g cnd) (te := tC X.K noW g elt) (cx.hoti ho) cx.nd (by rw [cx.nm]; exact hi) q1' (sw_true hk' q1' q2 q3) (PII.weak (pii_list ((snd a).e h4 cx)) fun σ H R hw => w_itl hw) ok (fun s H C cl fp hI => ?_) (fun s H C cl fp hI => ?_) (fun s H C cl fp hI => ?_) (folded_eq (mE_forms h4).2 X.env)) fun D σ H hw => ?_
      · have c2 := cx.blk s H scope cl C fp own (fun _ => hI)
        exact s_tgt c2.nm c2.nd c2.scp (.inr hI) c2.sto h3
      · exact pts_of (snd cnd) (cx.blk s H scope cl C fp own (fun _ => hI)) h5
      · exact (snd elt).e h6 (cx.blk s H scope cl C fp own (fun _ => hI))
      · obtain ⟨B, φ, ρ, μ, ab, hw⟩ := hw
        rw [evE_cmpl] at hw
        exact comp_den (Q := fun v H1 => gName i v σ H1 D.nx) hs ⟨B, φ, ρ, μ, ab, hw⟩
  · cases h
theorem notComp_of {sc : Scope} {c : C} {v : Expr} (h : mE Γ N sc c v = true) : notComp v = true ∨ (∃ own tg it cnd elt, c = .cmpn own tg it cnd elt) ∨ ∃ own tg it cnd elt, c = .cmpl own tg it cnd elt := by
  cases v <;> first | exact .inl rfl | (right; cases c <;> first | exact .inl ⟨_, _, _, _, _, rfl⟩ | exact .inr ⟨_, _, _, _, _, rfl⟩ | (exfalso; simp [mE] at h; done))
theorem sns_set {i : Nat} {c : C} : Sns Γ g k N (.set i c) := by
  refine .of (fun _ _ _ => rfl) fun {sc e st W X} h hk cx => ?_
  simp only [mS] at h
  split at h
  · rename_i x px v pos
    simp only [Bool.and_eq_true, decide_eq_true_eq] at h
    obtain ⟨⟨⟨h1, h2⟩, h3⟩, h4⟩ := h
    have go : ∀ D σ H, tS X.K W g (.set i c) D σ H → tAsg (tC X.K W g c) (gName i) D σ H := fun D σ H ⟨B, φ, ρ, μ, ab, hw⟩ =>
      ⟨B, φ, ρ, μ, ab, (DenF.bindV ab.mem.len hw).imp fun v H1 ⟨φ1, μ1, d, e1, m1, r1, h1⟩ => h1 _ H1 φ1 .refl ((ab.ext e1 m1).set r1)⟩
    rcases notComp_of h4 with nc | ⟨own, tg, it, cnd, elt, rfl⟩ | ⟨own, tg, it, cnd, elt, rfl⟩
    · exact PS.weak (ps_set cx.nd (by rw [cx.nm]; exact h1) (by rw [cx.scp]; exact locB_out h2) ((snd c).e h4 cx) (swaps_none nc _ _ _) (cx.sto x h3)) go
    · exact PS.weak (lc_set cx hk h1 h2 h3 h4) go
    · exact PS.weak (lc_setH cx hk h1 h2 h3 h4) go
  · cases h
theorem swaps_sole {t : Expr} (h : notName t = true) (v : Expr) (l : Nat) (env : PySem.Env) : swapsWithSole [t] v l env = pure false := swaps_off h v l env
theorem assign_one {env : PySem.Env} {t : Expr} (h : notStar t = true) : (assignEach [t] env).map (·.2) = [assign t env] := by rw [assignEach_eq h]; rfl
theorem sns_tgt {tg : T} {c : C} : Sns Γ g k N (.tgt tg c) := by
  refine .of (fun _ _ _ => rfl) fun {sc e st W X} h hk cx => ?_
  simp only [mS] at h
  split at h
  · rename_i ts kk p v pos
    simp only [Bool.and_eq_true, Bool.not_eq_true'] at h
    obtain ⟨⟨⟨ho, h1⟩, h2⟩, h3⟩ := h
    refine PS.weak (ps_asg ((snd c).e h3 cx) (s_tgt cx.nm cx.nd cx.scp (.inl (cx.calm ho)) cx.sto h2) (swaps_sole rfl v _ _) (noSw_eq (by rw [cx.scp]; exact h1)) (assign_one rfl)) fun D σ H ⟨B, φ, ρ, μ, ab, hw⟩ => ?_
    refine ⟨B, φ, ρ, μ, ab, (DenF.bindV ab.mem.len hw).imp fun v H1 ⟨φ1, μ1, d, e1, m1, r1, h1⟩ => ?_⟩
    cases q : asg tg d ρ with
    | none => simp only [q] at h1; exact False.elim h1
    | some ρ' =>
      simp only [q] at h1
      exact ⟨B, φ1, ρ, μ1, d, ρ', ab.ext e1 m1, r1, q, fun σ' a' _ => h1 σ' H1 φ1 .refl a'⟩
  · cases h
theorem sns_par {i j : Nat} {a b : C} : Sns Γ g k N (.par i j a b) := by
  refine .of (fun _ _ _ => rfl) fun {sc e st W X} h hk cx => ?_
  simp only [mS] at h
  split at h
  · rename_i x px y py kk p va vb k2 p2 pos
    simp only [Bool.and_eq_true, Bool.not_eq_true', decide_eq_true_eq] at h
    obtain ⟨⟨⟨⟨⟨⟨⟨⟨⟨ho, h1⟩, h2⟩, h3⟩, h4⟩, h5⟩, h6⟩, h7⟩, h8⟩, h9⟩ := h
    have hk' : X.env.scope.kind = .function := by rw [cx.scp]; exact hk
    have l1 : X.env.scope.names.lookup x = some .local := by rw [cx.scp]; exact of_decide_eq_true h6
    have l2 : X.env.scope.names.lookup y = some .local := by rw [cx.scp]; exact of_decide_eq_true h7
    have s1 := star_eq (mE_forms h8).1 [vb] X.env
    have s2 := star_eq (mE_forms h9).1 [] X.env
    refine PS.weak (ps_par (cx.calm ho) cx.nd (by rw [cx.nm]; exact h3) (by rw [cx.nm]; exact h4) h5 l1 l2 (pa_cons ((snd a).e h8 cx) (pa_cons ((snd b).e h9 cx) pa_nil s2) s1)
      (by rw [isSw_eq hk' (by rw [cx.scp]; exact h1), cx.scp, h2]) (swaps_sole rfl _ _ _)) fun D σ H ⟨B, φ, ρ, μ, ab, hw⟩ => ?_
    refine ⟨B, φ, ρ, μ, ab, (DenF.bindV ab.mem.len hw).imp fun v H1 ⟨φ1, μ1, d, e1, m1, r1, h1⟩ => ⟨B, φ1, ρ, μ1, ab.ext e1 m1, (DenF.bindV m1.len h1).imp fun w H2 ⟨φ2, μ2, d2, e2, m2, r2, h2⟩ => ?_⟩⟩
    exact ⟨v, w, rfl, h2 _ H2 φ2 .refl ((((ab.ext e1 m1).ext e2 m2).set (RdV.mono e2 m1.len r1)).set r2)⟩
  · cases h
theorem sns_par3 {i j l : Nat} {a b c : C} : Sns Γ g k N (.par3 i j l a b c) := by
  refine .of (fun _ _ _ => rfl) fun {sc e st W X} h hk cx => ?_
  simp only [mS] at h
  split at h
  · rename_i x px y py z pz kk p va vb vc k2 p2 pos
    simp only [Bool.and_eq_true, Bool.not_eq_true', decide_eq_true_eq] at h
    obtain ⟨⟨⟨⟨⟨⟨⟨⟨⟨⟨⟨⟨⟨⟨ho, h1⟩, h2⟩, h3⟩, h4⟩, h5⟩, n1⟩, n2⟩, n3⟩, h6⟩, h7⟩, h8⟩, h9⟩, h10⟩, h11⟩ := h
    have hk' : X.env.scope.kind = .function := by rw [cx.scp]; exact hk
    have l1 : X.env.scope.names.lookup x = some .local := by rw [cx.scp]; exact of_decide_eq_true h6
    have l2 : X.env.scope.names.lookup y = some .local := by rw [cx.scp]; exact of_decide_eq_true h7
    have l3 : X.env.scope.names.lookup z = some .local := by rw [cx.scp]; exact of_decide_eq_true h8
    have s1 := star_eq (mE_forms h9).1 [vb, vc] X.env
    have s2 := star_eq (mE_forms h10).1 [vc] X.env
    have s3 := star_eq (mE_forms h11).1 [] X.env
    refine PS.weak (ps_par3 (cx.calm ho) cx.nd (by rw [cx.nm]; exact h3) (by rw [cx.nm]; exact h4) (by rw [cx.nm]; exact h5) n1 n2 n3 l1 l2 l3 (pa_cons ((snd a).e h9 cx) (pa_cons ((snd b).e h10 cx) (pa_cons ((snd c).e h11 cx) pa_nil s3) s2) s1)
      (by rw [isSw_eq hk' (by rw [cx.scp]; exact h1), cx.scp, h2]) (swaps_sole rfl _ _ _)) fun D σ H ⟨B, φ, ρ, μ, ab, hw⟩ => ?_
    refine ⟨B, φ, ρ, μ, ab, (DenF.bindV ab.mem.len hw).imp fun v H1 ⟨φ1, μ1, d, e1, m1, r1, h1⟩ => ⟨B, φ1, ρ, μ1, ab.ext e1 m1, (DenF.bindV m1.len h1).imp fun w H2 ⟨φ2, μ2, d2, e2, m2, r2, h2⟩ => ⟨B, φ2, ρ, μ2, (ab.ext e1 m1).ext e2 m2, (DenF.bindV m2.len h2).imp fun u H3 ⟨φ3, μ3, d3, e3, m3, r3, h3⟩ => ?_⟩⟩⟩
    exact ⟨v, w, u, rfl, h3 _ H3 φ3 .refl ((((((ab.ext e1 m1).ext e2 m2).ext e3 m3).set (RdV.mono (e2.trans m1.len e3) m1.len r1)).set (RdV.mono e3 m2.len r2)).set r3)⟩
  · cases h
theorem sns_ife {t : C} {a b : S} (sa : Sns Γ g k N a) (sb : Sns Γ g k N b) : Sns Γ g k N (.ife t a b) := by
  refine .of (fun _ _ _ => rfl) fun {sc e st W X} h hk cx => ?_
  simp only [mS] at h
  split at h
  · simp only [Bool.and_eq_true] at h
    refine PS.weak (ps_if ((snd t).t h.1.1 cx) (sa.ss h.1.2 hk cx) (sb.ss h.2 hk cx)) fun D σ H ⟨B, φ, ρ, μ, ab, hw⟩ => ⟨B, φ, ρ, μ, ab, (DenF.bindB ab.mem.len hw).imp fun c H1 ⟨φ1, μ1, e1, m1, h1⟩ => ?_⟩
    cases c with
    | true => exact ⟨B, φ1, ρ, μ1, ab.ext e1 m1, h1⟩
    | false => exact ⟨B, φ1, ρ, μ1, ab.ext e1 m1, h1⟩
  · cases h
theorem sns_for {tg : T} {it : C} {b : S} (sb : Sns Γ g k N b) : Sns Γ g k N (.for tg it b) := by
  refine .of (fun _ _ _ => rfl) fun {sc e st W X} h hk cx => ?_
  simp only [mS] at h
  split at h
  · simp only [Bool.and_eq_true, Bool.not_eq_true'] at h
    obtain ⟨⟨⟨ho, h1⟩, h2⟩, h3⟩ := h
    replace h := And.intro (And.intro h1 h2) h3
    exact PS.weak (ps_for cx.own (cx.calm ho) ((snd it).i h.1.2 cx) (s_tgt cx.nm cx.nd cx.scp (.inl (cx.calm ho)) cx.sto h.1.1) (sb.ss h.2 hk cx) (folded_eq (mI_notSet h.1.2) X.env)) fun D σ H hw => w_for hw
  · cases h
theorem sns_whl {t : C} {b : S} (sb : Sns Γ g k N b) : Sns Γ g k N (.whl t b) := by
  refine .of (fun _ _ _ => rfl) fun {sc e st W X} h hk cx => ?_
  simp only [mS] at h
  split at h
  · simp only [Bool.and_eq_true, Bool.not_eq_true'] at h
    replace h := And.intro h.1.2 h.2
    exact PS.weak (ps_while cx.own ((snd t).t h.1 cx) (sb.ss h.2 hk cx)) fun D σ H hw => w_whl hw
  · cases h
theorem sns_ret {c : C} : Sns Γ g k N (.ret c) := by
  refine .of (fun _ _ _ => rfl) fun {sc e st W X} h hk cx => ?_
  simp only [mS] at h
  split at h
  · exact PS.weak (ps_ret ((snd c).e h cx)) fun D σ H ⟨B, φ, ρ, μ, ab, hw⟩ => ⟨B, φ, ρ, μ, ab, (DenF.bindV ab.mem.len hw).imp fun v H1 ⟨φ1, μ1, d, e1, m1, r1, h1⟩ => h1 v H1 φ1 .refl m1 r1⟩
  · cases h
theorem sns_retn : Sns Γ g k N .retn := by
  refine .of (fun _ _ _ => rfl) fun {sc e st W X} h hk cx => ?_
  simp only [mS] at h
  split at h
  · exact PS.weak ps_retN fun D σ H ⟨B, φ, ρ, μ, ab, hw⟩ => hw .non H φ .refl ab.mem rd_non
  · cases h
theorem sns_exp {c : C} : Sns Γ g k N (.exp c) := by
  refine .of (fun _ _ _ => rfl) fun {sc e st W X} h hk cx => ?_
  simp only [mS] at h
  split at h
  · simp only [Bool.and_eq_true] at h
    exact PS.weak (ps_expr ((snd c).e h.2 cx) (swaps_none h.1 _ _ _)) fun D σ H ⟨B, φ, ρ, μ, ab, hw⟩ => ⟨B, φ, ρ, μ, ab, (DenF.bindV ab.mem.len hw).imp fun v H1 ⟨φ1, μ1, d, e1, m1, r1, h1⟩ => h1 σ H1 φ1 .refl (ab.ext e1 m1)⟩
  · cases h
theorem sns_brk : Sns Γ g k N .brk := by
  refine .of (fun _ _ _ => rfl) fun {sc e st W X} h hk cx => ?_
  simp only [mS] at h
  split at h
  · exact PS.weak ps_break fun D σ H ⟨B, φ, ρ, μ, ab, hw⟩ => hw σ H φ .refl ab
  · cases h
theorem sns_cnt : Sns Γ g k N .cnt := by
  refine .of (fun _ _ _ => rfl) fun {sc e st W X} h hk cx => ?_
  simp only [mS] at h
  split at h
  · exact PS.weak ps_continue fun D σ H ⟨B, φ, ρ, μ, ab, hw⟩ => hw σ H φ .refl ab
  · cases h
theorem sns_rai {x : Str} : Sns Γ g k N (.rai x) := by
  refine .of (fun _ _ _ => rfl) fun {sc e st W X} h hk cx => ?_
  simp only [mS] at h
  split at h
  · simp only [Bool.and_eq_true, Bool.not_eq_true', decide_eq_true_eq] at h
    obtain ⟨⟨⟨⟨ho, h1⟩, h2⟩, h3⟩, h4⟩ := h
    subst h1
    obtain ⟨Bs, newId, initId, bmB, F, q1, q2, q3, q4⟩ := cx.exs x h4
    refine PS.weak (L2N.ps_raise (cx.calm ho) cx.takes (L2N.pmk_own F q1 q2 q3 q4 (glB_out (by rw [cx.scp]; exact h2)) (nmOk_out h3).1)) fun D σ H ⟨B, φ, ρ, μ, ab, hw⟩ => ?_
    exact hw H φ .refl ab.mem _ _ ⟨rfl, fun _ => rfl⟩
  · cases h
theorem call0_of {sc : Scope} {c : C} {v : Expr} (h : notCall0 v = true) (a : Str) (env : PySem.Env) : attributeBase v a env (eval v env) = eval v env := base_eq h a env _
theorem isCel_out {K : PySem.W.Frag} {H : Hp} {φ : List Addr} {μ : Mem} {B : Addr → Prop} (m : MemOk K H φ μ B) {d : D} {v : V} (h : isCel μ d = true) (r : RdV K H (Live φ μ B) φ d v) :
    ∃ n a xs vs, d = .cel n ∧ v = .ref a ∧ μ[n]? = some (some (.lst xs)) ∧ φ[n]? = some a ∧ H a = some (.lst vs) ∧ RdL K H (Live φ μ B) φ xs vs := by
  unfold isCel at h
  split at h
  · rename_i n
    split at h
    · rename_i xs hn
      simp only [RdV] at r
      obtain ⟨a, ha, rfl⟩ := r
      obtain ⟨⟨vs, q1, q2⟩, _⟩ := m.cell n _ a hn ha
      exact ⟨n, a, xs, vs, rfl, rfl, hn, ha, q1, q2⟩
    · cases h
  · cases h
theorem sns_app {o c : C} : Sns Γ g k N (.app o c) := by
  refine .of (fun _ _ _ => rfl) fun {sc e st W X} h hk cx => ?_
  simp only [mS] at h
  split at h
  · rename_i v n ap x cp pos
    simp only [Bool.and_eq_true, decide_eq_true_eq] at h
    obtain ⟨⟨⟨⟨h1, h2⟩, h3⟩, h4⟩, h5⟩ := h
    subst h1
    have sx := star_eq (mE_forms h5).1 [] X.env
    refine PS.weak (ps_expr (pe_bm PySem.F.plainAttrs_list PySem.F.slot_list_append PySem.F.type_list_append mt_append ((snd o).e h4 cx) (pa_cons ((snd c).e h5 cx) pa_nil sx) (base_eq h2 _ _ _) (by rw [sx]; rfl) h3 sx rfl) (swaps_none rfl _ _ _)) fun D σ H ⟨B, φ, ρ, μ, ab, hw⟩ => ?_
    refine ⟨B, φ, ρ, μ, ab, (DenF.bindV ab.mem.len hw).imp fun v H1 ⟨φ1, μ1, d, e1, m1, r1, h1⟩ => ?_⟩
    split at h1
    · rename_i hc
      obtain ⟨n, a, xs, vs, rfl, rfl, g1, g2, g3, g4⟩ := isCel_out m1 hc r1
      refine ⟨.inl ⟨rfl, vs, SqL.of g3⟩, B, φ1, ρ, μ1, ab.ext e1 m1, (DenF.bindV m1.len h1).imp fun w H2 ⟨φ2, μ2, d2, e2, m2, r2, h2⟩ => ?_⟩
      have a2 := (ab.ext e1 m1).ext e2 m2
      have r1' := RdV.mono e2 m1.len r1
      cases q : appD (.cel n) d2 μ2 with
      | ok u μ3 =>
        rw [q] at h2
        simp only [appD] at q
        split at q
        · rename_i xs2 g5
          split at q
          · rename_i hlt
            cases q
            simp only [RdV] at r1'
            obtain ⟨b, g6, g7⟩ := r1'
            cases g7
            obtain ⟨⟨vs2, g8, g9⟩, _⟩ := m2.cell n _ a g5 g6
            obtain ⟨e3, m3⟩ := write_cell m2 g5 g6 g8 (g9.append (.cons r2 .nil))
            exact ⟨a, vs2, w, rfl, rfl, g8, by rw [sizeLine_eq, ← g9.length]; exact of_decide_eq_true hlt, DenF.shift e3 m2.len h2 σ _ φ2 .refl (a2.ext e3 m3)⟩
          · cases q
        · cases q
      | er x m => rw [q] at h2; simp only [appD] at q; split at q <;> first | cases q | (split at q <;> cases q)
      | no => rw [q] at h2; exact False.elim h2
    · exact False.elim h1
  · cases h
theorem assign_sub {env : PySem.Env} {o i : Expr} {pos : Pos} (h : isSlice i = false) (v : Value) : assign (.Subscript o i pos) env v = (do
      let ov ← holding [v] (eval o env)
      let iv ← holding [v, ov] (eval i env)
      standAt pos
      holding [v, ov, iv] (setItem ov iv v)
      release [v, ov, iv] []) := by cases i <;> first | rfl | (simp [isSlice] at h)
theorem sns_sub {o i c : C} : Sns Γ g k N (.sub o i c) := by
  refine .of (fun _ _ _ => rfl) fun {sc e st W X} h hk cx => ?_
  simp only [mS] at h
  split at h
  · rename_i a b p v pos
    simp only [Bool.and_eq_true, Bool.not_eq_true'] at h
    obtain ⟨⟨⟨h1, h2⟩, h3⟩, h4⟩ := h
    refine PS.weak (ps_asg ((snd c).e h2 cx) (pg_sub ((snd o).e h3 cx) ((snd i).e h4 cx) set_list (assign_sub h1)) (swaps_sole rfl _ _ _) (noSw_eq (by cases v <;> rfl)) (assign_one rfl)) fun D σ H ⟨B, φ, ρ, μ, ab, hw⟩ => ?_
    refine ⟨B, φ, ρ, μ, ab, (DenF.bindV ab.mem.len hw).imp fun v H1 ⟨φ1, μ1, d, e1, m1, r1, h1⟩ => ⟨B, φ1, ρ, μ1, ab.ext e1 m1, (DenF.bindV m1.len h1).imp fun w H2 ⟨φ2, μ2, d2, e2, m2, r2, h2⟩ => ⟨B, φ2, ρ, μ2, (ab.ext e1 m1).ext e2 m2, (DenF.bindV m2.len h2).imp fun u H3 ⟨φ3, μ3, d3, e3, m3, r3, h3⟩ => ?_⟩⟩⟩
    have a3 := ((ab.ext e1 m1).ext e2 m2).ext e3 m3
    have r1' := RdV.mono (e2.trans m1.len e3) m1.len r1
    have r2' := RdV.mono e3 m2.len r2
    cases d2 with
    | cel n =>
      cases d3 with
      | int kx =>
        simp only [subD] at h3
        simp only [RdV] at r2'
        obtain ⟨pa, g6, rfl⟩ := r2'
        split at h3
        · rename_i xs g5
          split at h3
          · rename_i j hj
            obtain ⟨⟨vs2, g8, g9⟩, _⟩ := m3.cell n _ pa g5 g6
            obtain ⟨e4, m4⟩ := write_cell m3 g5 g6 g8 (g9.set j r1')
            exact ⟨pa, vs2, kx, j, rfl, rdV_int r3, g8, by rw [← g9.length]; exact hj, h3 σ _ φ3 e4 (a3.ext e4 m4)⟩
          · exact False.elim h3
        · exact False.elim h3
      | _ => exact False.elim h3
    | _ => exact False.elim h3
  · cases h
theorem mSs_cons {a r : S} {sc : Scope} {st : Str → Bool} {e : List Stmt} (hf : ∀ i, a ≠ .frz i) (h : mSs Γ N sc st (.cons a r) e = true) : ∃ x xs, e = x :: xs ∧ mS Γ N sc st a x = true ∧ mSs Γ N sc st r xs = true := by
  cases a <;> first
    | (exact absurd rfl (hf _))
    | (cases e <;> first
        | (simp only [mSs] at h; cases h; done)
        | (simp only [mSs, Bool.and_eq_true] at h; exact ⟨_, _, rfl, h.1, h.2⟩))
theorem sns_frz {i : Nat} : Sns Γ g k N (.frz i) := ⟨fun h => by simp [mS] at h, fun h => by simp [mSs] at h⟩
theorem sns_nil : Sns Γ g k N .nil where
  s := fun h => by simp [mS] at h
  ss := fun {sc e st W X} h hk cx => by
    simp only [mSs, List.isEmpty_iff] at h
    subst h
    exact PSs.weak pss_nil fun D σ H ⟨B, φ, ρ, μ, ab, hw⟩ => hw σ H φ .refl ab
theorem sns_cons {a r : S} (sa : Sns Γ g k N a) (sr : Sns Γ g k N r) : Sns Γ g k N (.cons a r) where
  s := fun h => by simp [mS] at h
  ss := fun {sc e st W X} h hk cx => by
    by_cases hf : ∃ i, a = .frz i
    · obtain ⟨i, rfl⟩ := hf
      simp only [mSs] at h
      refine PSs.weak (sr.ss h hk cx) fun D σ H ⟨B, φ, ρ, μ, ab, hw⟩ => ?_
      simp only [evS] at hw
      split at hw
      · rename_i n hi
        split at hw
        · rename_i xs hn
          obtain ⟨e2, a2⟩ := ab.frozen hi hn
          exact ⟨B, φ, _, _, a2, DenF.shift e2 ab.mem.len hw⟩
        · exact False.elim hw
      · exact False.elim hw
    · obtain ⟨x, xs, rfl, h1, h2⟩ := mSs_cons (fun i z => hf ⟨i, z⟩) h
      exact PSs.weak (pss_cons (sa.s h1 hk cx) (sr.ss h2 hk cx)) fun D σ H ⟨B, φ, ρ, μ, ab, hw⟩ => ⟨B, φ, ρ, μ, ab, DenF.bindF ab.mem.len hw fun σ1 H1 φ1 ρ1 μ1 e1 a1 h1 => ⟨B, φ1, ρ1, μ1, a1, h1⟩⟩
theorem sns : ∀ s : S, Sns Γ g k N s := by
  intro s
  induction s with
  | pass => exact sns_pass
  | nil => exact sns_nil
  | cons a r ha hr => exact sns_cons ha hr
  | set i e => exact sns_set
  | tgt tg e => exact sns_tgt
  | par i j a b => exact sns_par
  | par3 i j l a b c => exact sns_par3
  | ife t a b ha hb => exact sns_ife ha hb
  | «for» tg it b hb => exact sns_for hb
  | whl t b hb => exact sns_whl hb
  | ret e => exact sns_ret
  | retn => exact sns_retn
  | exp e => exact sns_exp
  | brk => exact sns_brk
  | cnt => exact sns_cnt
  | rai x => exact sns_rai
  | app o e => exact sns_app
  | sub o i e => exact sns_sub
  | frz i => exact sns_frz
end
end Den

/-! Den18: a module: each def keeps what the interpreter gives, at every depth. -/
namespace Den
open PySem PySem.Spec PyProof.Rows L2
variable [Lams]

/-- a def: its name, its parameters, all its names, where it stands, its code -/
structure FT where
  name : Str
  ps : List Str
  N : List Str
  st : Stmt
  code : S
  lam : Bool := false
def FT.fn (t : FT) : Fn := ⟨t.name, t.ps.length, t.N.length, t.code⟩
/-- what the checker asks of a def -/
structure FT.Ok (Γ : Nm) (t : FT) : Prop where
  sc : FnScope t.N t.ps (defScope t.st)
  ck : mSs { Γ with lam := t.lam } t.N (defScope t.st) (fun _ => true) t.code (defBody t.st) = true
/-- what is known of the written part -/
structure Facts (Γ : Nm) (M : Md) (tab : List FT) (P : Program) (w : World) (K : PySem.W.Frag) (mg : Str → Option Value) (base : Heap) : Prop where
  glo : ∀ x, Γ.fns.contains x = true → mg x = some (.ref (He.ga K x)) ∧ PySem.W.keepIn K (.ref (He.ga K x)) = true
  con : ∀ x d, Γ.con.contains x = true → M.con.lookup x = some d → ∃ v u, mg x = some u ∧ RelV v u ∧ ∀ H L φ, RdV K H L φ d v
  free : ∀ x, Γ.free.contains x = true → mg x = none
  bfn : ∀ b : Bf, b.own = true → Γ.bfn.contains b.name = true → mg b.name = some b.val
  exs : ∀ x, Γ.exs.contains x = true → ∃ B newId initId bmB, ExcBaseFacts B newId initId bmB ∧ PySem.W.excIn K (He.ga K x) bmB newId = true ∧ mg x = some (.ref (He.ga K x)) ∧ PySem.W.keepIn K (.ref (He.ga K x)) = true ∧ PySem.W.subIn K (.ref (He.ga K x)) (.type "BaseException") = some true ∧ PySem.W.typeIn K (.ref (He.ga K x)) = some (.type "type")
  hot : Γ.hot = false
  isx : Γ.isx = false
  cls : ∀ C, Γ.cls.contains C = true → mg C = some (.ref (He.ga K C))
  defs : ∀ t ∈ tab, ∃ fd, FunD K t.name t.name (defArgs t.st) (defBody t.st) (defScope t.st) [] [] (He.ga K t.name) fd ∧ Binds K fd t.ps []
  ok : ∀ t ∈ tab, t.Ok Γ
  cov : ∀ f, Γ.fns.contains f = true → ∃ t ∈ tab, t.name = f ∧ M.at_ f = some t.fn
  hnd : ∀ f, Γ.hnd.contains f = true → HndOk P w K mg base f (M.hnd f)
  tbs : ∀ x ∈ Lams.lams, LamX.TabB base mg (He.cT K (x, none)).1 (He.cT K (x, none)).2
  lams : ∀ t ∈ tab, t.lam = true → t.name ∈ Lams.lams
  uniq : ∀ x ∈ Lams.lams, ∀ y ∈ Lams.lams, (He.cT K (x, none)).2 = (He.cT K (y, none)).2 → x = y
section
variable {Γ : Nm} {M : Md} {tab : List FT} {P : Program} {w : World} {K : PySem.W.Frag} {mg : Str → Option Value} {base : Heap}
theorem start_abs {H : Hp} {φ : List Addr} {μ : Mem} {B : Addr → Prop} {N : List Str} {ds : List D} {vs : List V} (m : MemOk K H φ μ B) (rl : RdL K H (Live φ μ B) φ ds vs) : Abs K H (L2.start N vs) φ (startD N.length ds) μ B := by
  refine ⟨m, by unfold startD L2.start; rw [List.length_append, List.length_append, List.length_map, List.length_map, List.length_replicate, List.length_replicate, rl.length], fun i d h => ?_⟩
  unfold startD at h
  unfold L2.start
  by_cases hi : i < ds.length
  · rw [List.getElem?_append_left (by simpa using hi), List.getElem?_map] at h
    cases q : ds[i]? with
    | none => rw [q] at h; cases h
    | some e =>
      rw [q] at h
      cases h
      obtain ⟨v, h1, h2⟩ := rl.get q
      refine ⟨v, ?_, h2⟩
      rw [List.getElem?_append_left (by rw [List.length_map, ← rl.length]; exact hi), List.getElem?_map, h1]
      rfl
  · rw [List.getElem?_append_right (by simpa using hi), List.getElem?_replicate] at h
    split at h <;> cases h
/-- all that is known of the defs, so many calls deep -/
def AllFn (Γ : Nm) (M : Md) (W : Nat) (P : Program) (w : World) (K : PySem.W.Frag) (mg : Str → Option Value) (base : Heap) (k : Nat) (c : Str → List D → Mem → R D) : Prop :=
  ∀ f, Γ.fns.contains f = true → ∃ fd ps, FnOk P w K mg base (L2N.CX P w) k (He.ga K f) fd ps (fun vs H Q E => ∃ B φ μ ds, MemOk K H φ μ B ∧ RdL K H (Live φ μ B) φ ds vs ∧ DenV K E B H φ μ (c f ds μ) Q) ∧ Binds K fd ps []
/-- a def's promise, one call deeper -/
theorem fn_step (F : Facts Γ M tab P w K mg base) {W k : Nat} (ih : AllFn Γ M W P w K mg base k (run M W k)) (ih2 : AllFn Γ M W P w K mg base (k - 2) (run M W (k - 2)))
    {t : FT} (ht : t ∈ tab) (hat : M.at_ t.name = some t.fn) {fd : FuncData} (fu : FunD K t.name t.name (defArgs t.st) (defBody t.st) (defScope t.st) [] [] (He.ga K t.name) fd) :
    FnOk P w K mg base (L2N.CX P w) (k + 1) (He.ga K t.name) fd t.ps (fun vs H Q E => ∃ B φ μ ds, MemOk K H φ μ B ∧ RdL K H (Live φ μ B) φ ds vs ∧ DenV K E B H φ μ (run M W (k + 1) t.name ds μ) Q) := by
  obtain ⟨sc, ck⟩ := F.ok t ht
  obtain ⟨oc, od, dV, kV, doc, pm, an, cdv, ct, osl, rfl, lk, hcd, _, _⟩ := fu.ex
  obtain ⟨c, hc⟩ := He.codeIn_ref hcd
  refine fn_of lk hcd sc (fun vs H Q E h => ?_) fun A outer s H vs Q E hr h => ?_
  · obtain ⟨B, φ, μ, ds, m, rl, h⟩ := h
    rw [run_succ] at h
    simp only [callM, hat, runB] at h
    split at h
    · rename_i hl
      rw [← rl.length]
      exact hl
    · exact False.elim h
  · obtain ⟨B, φ, μ, ds, m, rl, h⟩ := h
    rw [run_succ] at h
    simp only [callM, hat, runB] at h
    split at h
    · have cx : Cxd { Γ with lam := t.lam } (gAt M W k) k t.N (defScope t.st) (fun _ => true) E (cxOf (L2N.CX P w) P w K mg base t.N t.name (defScope t.st) (He.ga K t.name) cdv A outer s H E) :=
        { nd := sc.nd, nm := rfl, scp := rfl, calm := fun _ => rfl, hoti := fun z => by rw [show ({ Γ with lam := t.lam } : Nm).hot = Γ.hot from rfl, F.hot] at z; cases z
          isx := fun z => by rw [show ({ Γ with lam := t.lam } : Nm).isx = Γ.isx from rfl, F.isx] at z; cases z
          cls := F.cls, un := hr.units, sto := fun _ _ => .inl rfl, room := fun _ => hr, takes := L2N.takes_of rfl rfl rfl rfl, own := PassesOwn.leaving, glo := F.glo, con := F.con, free := F.free, bfn := F.bfn
          exs := fun x hx => by
            obtain ⟨Bs, newId, initId, bmB, q1, q2, q3, q4, q5, q6⟩ := F.exs x hx
            exact ⟨Bs, newId, initId, bmB, q1, q2, q3, q4, raises_own q5 q6⟩
          low := fun hd => ⟨k - 2, by have : 2 ≤ k := of_decide_eq_true hd; omega, ih2⟩
          hnd := F.hnd
          lam := fun hl => by
            have hm := F.lams t ht hl
            have e : (He.cT K (t.name, none)).1 = c := He.codeOf_eq (p := (t.name, none)) lk hc
            refine ⟨t.name, c, hm, hc, rfl, by rw [← e]; exact F.tbs _ hm, fun p hp he => ?_⟩
            obtain ⟨y, hy, rfl⟩ := List.mem_map.mp hp
            rw [F.uniq y hy _ hm he]
          fns := ih }
      refine ⟨tS K E (gAt M W k) t.code, (sns t.code).ss ck sc.kind cx, B, φ, _, μ, start_abs m rl, ?_⟩
      change DenV K E B H φ μ ((evS (gAt M W k) t.code (startD t.N.length ds) μ).bind _) Q at h
      cases q : evS (gAt M W k) t.code (startD t.N.length ds) μ with
      | ok f μ' =>
        rw [q] at h
        cases f with
        | nx ρ => exact fun σ' H' φ' e a => h .non H' φ' e a.mem rd_non
        | rt d => exact h
        | bk ρ => exact False.elim h
        | ct ρ => exact False.elim h
      | er x μ' => rw [q] at h; exact h
      | no => rw [q] at h; exact h
    · exact False.elim h
theorem fn_zero (F : Facts Γ M tab P w K mg base) (W : Nat) : AllFn Γ M W P w K mg base 0 (run M W 0) := fun f hf => by
  obtain ⟨t, ht, rfl, hat⟩ := F.cov f hf
  obtain ⟨fd, fu, bd⟩ := F.defs t ht
  refine ⟨fd, t.ps, ⟨fun vs H Q E h => ?_, fun A outer s H args us vs Q E _ _ _ _ h => ?_⟩, bd⟩
  · obtain ⟨B, φ, μ, ds, m, rl, h⟩ := h
    exact False.elim h
  · obtain ⟨B, φ, μ, ds, m, rl, h⟩ := h
    exact False.elim h
theorem fn_succ (F : Facts Γ M tab P w K mg base) {W k : Nat} (ih : AllFn Γ M W P w K mg base k (run M W k)) (ih2 : AllFn Γ M W P w K mg base (k - 2) (run M W (k - 2))) : AllFn Γ M W P w K mg base (k + 1) (run M W (k + 1)) := fun f hf => by
  obtain ⟨t, ht, rfl, hat⟩ := F.cov f hf
  obtain ⟨fd, fu, bd⟩ := F.defs t ht
  exact ⟨fd, t.ps, fn_step F ih ih2 ht hat fu, bd⟩
theorem fn_all (F : Facts Γ M tab P w K mg base) (W : Nat) : ∀ (k : Nat), AllFn Γ M W P w K mg base k (run M W k)
  | 0 => fn_zero F W
  | 1 => fn_succ F (fn_all F W 0) (fn_all F W 0)
  | 2 => fn_succ F (fn_all F W 1) (fn_all F W 0)
  | k + 3 => fn_succ F (fn_all F W (k + 2)) (fn_all F W k)
/-- the law's def, its function object told -/
theorem fn_law (F : Facts Γ M tab P w K mg base) (W k : Nat) {t : FT} (ht : t ∈ tab) (hat : M.at_ t.name = some t.fn) {fd : FuncData} (fu : FunD K t.name t.name (defArgs t.st) (defBody t.st) (defScope t.st) [] [] (He.ga K t.name) fd) :
    FnOk P w K mg base (L2N.CX P w) (k + 1) (He.ga K t.name) fd t.ps (fun vs H Q E => ∃ B φ μ ds, MemOk K H φ μ B ∧ RdL K H (Live φ μ B) φ ds vs ∧ DenV K E B H φ μ (run M W (k + 1) t.name ds μ) Q) := fn_step F (fn_all F W k) (fn_all F W (k - 2)) ht hat fu
/-- the law's promise, from what the interpreter gives -/
theorem sp_law {H : Hp} {a : Addr} {ns : List Int} {r : R D} (h : ∃ μ', r = .ok (.bl true) μ') (hT : ∀ p ∈ lamT K, H p.1 = some (.tbl #[])) (hS : SqL K H a (ns.map V.int)) :
    ∃ (B : Addr → Prop) (φ : List Addr) (μ : Mem) (ds : List D), (MemOk K H φ μ B ∧ RdL K H (Live φ μ B) φ ds [.ref a]) ∧ μ = [] ∧ ds = [.fls (ns.map .int)] ∧ DenV K (fun _ _ _ => False) B H φ μ r (fun v _ => v = .bl true) := by
  obtain ⟨μ', h⟩ := h
  refine ⟨fun _ => False, [], [], [.fls (ns.map .int)], ⟨⟨rfl, fun i j a c c' h => (by simp at h), fun i c a h => (by simp at h), fun a h => h.elim, fun p hp => .nil (hT p hp)⟩, ?_⟩, rfl, rfl, ?_⟩
  · refine .cons ?_ .nil
    simp only [RdV]
    refine ⟨a, ns.map V.int, rfl, ?_, ?_⟩
    · rcases hS with (h1 | ⟨o, h1⟩) | h1
      · exact .inl ⟨h1, fun l => l.elim id fun ⟨i, c, q, _⟩ => (by simp at q)⟩
      · exact .inr (.inl ⟨o, h1⟩)
      · exact .inr (.inr h1)
    · clear hS h
      induction ns with
      | nil => exact .nil
      | cons n ns ih => exact .cons rd_int ih
  · rw [h]
    exact fun v H' φ' e m rd => rdV_bl rd
end
end Den

/-! Den19: a def that calls what it gets: try: a() / except c as e: suite / rest. -/
namespace Den
open PySem PySem.Spec PyProof.Rows L2
variable [Lams]

structure HT where
  name : Str
  a : Str
  N : List Str
  st : Stmt
  cls : Str
  i : Nat
  suite : S
  rest : S
/-- what is asked of the module where an exception is handled: no def -/
def Nm.hotOf (Γ : Nm) : Nm := { Γ with fns := [], con := [], bfn := [], exs := [], hnd := [], lam := false, hot := true, isx := true }
def Nm.bare (Γ : Nm) : Nm := { Γ with fns := [], con := [], bfn := [], exs := [], hnd := [], lam := false, hot := false, isx := false }
def gH (M : Md) (x : Option Exn) : G := { cal := fun _ _ _ => .no, cal2 := fun _ _ _ => .no, dp := false, con := fun _ => none, hnd := fun _ _ => none, exn := x, sub := M.sub, W := 0 }
/-- what a block returns, if it is plain -/
def flatOf (r : R Fl) : Option D := match r with
  | .ok (.rt d) _ => if flat d then some d else none
  | _ => none
def HT.tell (Γ : Nm) (M : Md) (t : HT) : Option Exn → Option D
  | none => flatOf (evS (gH M none) t.rest (List.replicate t.N.length none) [])
  | some x => if x.flds.isEmpty && Γ.cls.contains x.cls && decide (M.sub x.cls t.cls = some true) then flatOf (evS (gH M (some x)) t.suite ((List.replicate t.N.length none).set t.i (some .exc)) []) else none
def HT.ck (Γ : Nm) (t : HT) : Bool := match defBody t.st with
  | .Try [.Expr (.Call (.Name a _) [] [] _) _] [.ExceptHandler (some (.Name c _)) (some n) (b0 :: sb) _] [] [] _ :: rs =>
    decide (a = t.a) && decide (c = t.cls) && glB (defScope t.st) c && nmOk c && decide (t.N[t.i]? = some n) && loc1 (defScope t.st) n && decide (t.N[0]? = some t.a) && visB (defScope t.st) t.a && nmOk t.a && decide (t.i ≠ 0) && Γ.cls.contains c &&
      mSs Γ.hotOf t.N (defScope t.st) (fun _ => true) t.suite (b0 :: sb) && mSs Γ.bare t.N (defScope t.st) (fun _ => true) t.rest rs
  | _ => false
/-- what is known of the exceptions' classes -/
structure ExcFacts (Γ : Nm) (M : Md) (K : PySem.W.Frag) (mg : Str → Option Value) : Prop where
  exc : ∀ C, Γ.cls.contains C = true → ExcC K (He.ga K C)
  sub : ∀ C C' b, Γ.cls.contains C = true → Γ.cls.contains C' = true → M.sub C C' = some b → PySem.W.exmOne K (.ref (He.ga K C)) (.ref (He.ga K C')) = some b ∧ PySem.W.kitOne K (.ref (He.ga K C)) (.ref (He.ga K C')) = some b
  cls : ∀ C, Γ.cls.contains C = true → mg C = some (.ref (He.ga K C))
  free : ∀ x, Γ.free.contains x = true → mg x = none
theorem flatOf_out {r : R Fl} {d : D} (h : flatOf r = some d) : ∃ μ', r = .ok (.rt d) μ' ∧ flat d = true := by
  unfold flatOf at h
  split at h
  · split at h
    · rename_i d' μ' hf
      cases h
      exact ⟨_, rfl, hf⟩
    · cases h
  · cases h
theorem abs_start {K : PySem.W.Frag} {H : Hp} {σ : L2.St} {n : Nat} (hl : σ.length = n) (tb : LamX.Tabs (lamT K) H) : Abs K H σ [] (List.replicate n none) [] (fun _ => False) :=
  ⟨⟨rfl, fun i j a c c' h => (by simp at h), fun i c a h => (by simp at h), fun a h => h.elim, tb⟩, by rw [List.length_replicate, hl], fun i d h => by
    rw [List.getElem?_replicate] at h
    split at h <;> cases h⟩
theorem ext_growN {H H' : Hp} {φ : List Addr} {μ : Mem} (e : Ext H [] [] H' φ μ) : LamX.ExtN H H' := fun b o h nt => e.keep b o h nt fun ⟨i, c, h1, _⟩ => (by simp at h1)
theorem hotI_suite {X : Cx} {a : Addr} {oe : Obj} {cls : Value} {d : Option Addr} {pn : List (Addr × Obj)} (hx : X.ex = []) (hz : L2N.Zn cls d oe) (hf : ∃ vs, oe.data = .fields vs) : HotI (X.suite a ((a, oe) :: pn)) := fun pins s σ H I => by
  obtain ⟨vs, hv⟩ := hf
  obtain ⟨p1, p2, p3, p4, _⟩ := I.pin (a, oe) (List.mem_append_left _ List.mem_cons_self)
  refine ⟨a, ⟨rfl, oe, vs, p1, hv, hz.2.2 vs hv⟩, p2, fun hm => ?_, fun hm => ?_⟩
  · rcases List.mem_cons.mp (I.stkSub a hm) with e | e
    · exact p3 e
    · exact p4 e
  · have hm : a ∈ X.ex := hm
    rw [hx] at hm
    cases hm
/-- the suite, where an exception stands at exa -/
theorem hot_ss {Γ : Nm} {M : Md} {Y : Cx} (F : ExcFacts Γ M Y.K Y.mg) (nd : Y.N.Nodup) (hex : Y.ex = []) (hfn : ∀ x, Y.fn x = true) (hu : Y.A.units + 64 < cLine) (hk : Y.env.scope.kind = .function) {suite : S} {sts : List Stmt} (ck : mSs Γ.hotOf Y.N Y.env.scope (fun _ => true) suite sts = true)
    {x : Exn} (hx : Γ.cls.contains x.cls = true) {oe : Obj} {pn : List (Addr × Obj)} (hz : L2N.Zn (.ref (He.ga Y.K x.cls)) none oe) (hf : ∃ vs, oe.data = .fields vs) : PSs (Y.suite Lams.exa ((Lams.exa, oe) :: pn)) sts (tS Y.K noW (gH M (some x)) suite) := by
  refine (sns (Γ := Γ.hotOf) (g := gH M (some x)) (k := 0) suite).ss ck hk (st := fun _ => true) (W := noW) ?_
  exact
    { nd := nd, nm := rfl, scp := rfl, calm := fun z => (nomatch z), hoti := fun _ => hotI_suite hex hz hf, sto := fun x _ => .inl (hfn x), room := fun z => (nomatch z), un := hu
      takes := fun u s' h => by
        obtain ⟨_, _, _, _, _, _, _, _, _, _, _, _, _, _, _, _, z⟩ := h
        exact False.elim z
      own := PassesOwn.never
      isx := fun _ => ⟨x, rfl, call_isE (F.exc _ hx) hz.zc hf, fun C b hC hb => (F.sub x.cls C b hx hC hb).2⟩
      cls := F.cls, glo := fun x h => (by cases h), con := fun x d h => (by cases h), free := F.free, bfn := fun b _ h => (by cases h), exs := fun x h => (by cases h), low := fun z => (nomatch z), hnd := fun f h => (by cases h), lam := fun z => (nomatch z), fns := fun f h => (by cases h) }
/-- what stands beside the try -/
theorem cold_ss {Γ : Nm} {M : Md} {Y : Cx} (F : ExcFacts Γ M Y.K Y.mg) (nd : Y.N.Nodup) (hc : Y.calm = true) (hx : Y.xe = fun _ _ => False) (hfn : ∀ x, Y.fn x = true) (hr : Room 0 Y.A) (hk : Y.env.scope.kind = .function) {suite : S} {sts : List Stmt} (ck : mSs Γ.bare Y.N Y.env.scope (fun _ => true) suite sts = true) : PSs Y sts (tS Y.K noW (gH M none) suite) := by
  refine (sns (Γ := Γ.bare) (g := gH M none) (k := 0) suite).ss ck hk (st := fun _ => true) (W := noW) ?_
  exact
    { nd := nd, nm := rfl, scp := rfl, calm := fun _ => hc, hoti := fun z => (nomatch z), sto := fun x _ => .inl (hfn x), room := fun _ => hr, un := hr.units
      takes := fun u s' h => by
        obtain ⟨_, _, _, _, _, _, _, _, _, _, _, _, _, _, _, _, z⟩ := h
        exact False.elim z
      own := by rw [hx]; exact PassesOwn.never
      isx := fun z => (nomatch z)
      cls := F.cls, glo := fun x h => (by cases h), con := fun x d h => (by cases h), free := F.free, bfn := fun b _ h => (by cases h), exs := fun x h => (by cases h), low := fun z => (nomatch z), hnd := fun f h => (by cases h), lam := fun z => (nomatch z), fns := fun f h => (by cases h) }
theorem hnd_ok {Γ : Nm} {M : Md} {P : Program} {w : World} {K : PySem.W.Frag} {mg : Str → Option Value} {base : Heap} {t : HT} (F : ExcFacts Γ M K mg) (hm : mg t.name = some (.ref (He.ga K t.name))) (hck : t.ck Γ = true) (sc : FnScope t.N [t.a] (defScope t.st)) {fd : FuncData}
    (fu : FunD K t.name t.name (defArgs t.st) (defBody t.st) (defScope t.st) [] [] (He.ga K t.name) fd) (bd : Binds K fd [t.a] []) : HndOk P w K mg base t.name (t.tell Γ M) := by
  obtain ⟨oc, od, dV, kV, doc, pm, an, cdv, ct, osl, hfd, lk, hcd, _, _⟩ := fu.ex
  unfold HT.ck at hck
  split at hck
  · rename_i a p1 p2 p3 c p4 n b0 sb p5 p6 rs hbody
    simp only [Bool.and_eq_true, decide_eq_true_eq] at hck
    obtain ⟨⟨⟨⟨⟨⟨⟨⟨⟨⟨⟨⟨h1, h2⟩, h3⟩, h4⟩, h5⟩, h6⟩, h7⟩, h8⟩, h9⟩, h10⟩, h11⟩, h12⟩, h13⟩ := hck
    subst hfd
    have na := nmOk_out h9
    have nc := nmOk_out h4
    refine ⟨hm, fu.kp, _, _, _, dV, kV, doc, pm, cdv, ct, oc, an, od, osl, t.N, t.a, lk, hcd, bd, sc, h7, visB_out h8, h9, ?_⟩
    intro X q hP hw hK hmg hb hr f c' s H Q tl act mono hco tabs tt
    subst hP hw hK hmg hb
    rw [hbody]
    have tl0 : (L2.start t.N [V.ref f]).length = t.N.length := by
      unfold L2.start
      have hpos : 0 < t.N.length := (List.getElem?_eq_some_iff.mp h7).1
      rw [List.length_append, List.length_replicate]
      simp only [List.length_map, List.length_cons, List.length_nil]
      omega
    have t00 : (L2.start t.N [V.ref f])[0]? = some (some (V.ref f)) := rfl
    have room1 := hr.deeper (envOfC t.name (defScope t.st) s.heap.objs.size (He.ga X.K t.name) cdv)
    have noT : ∀ Z : Cx, L2N.Takes Z (fun _ _ _ _ => False) := fun Z u s' h => by
      obtain ⟨_, _, _, _, _, _, _, _, _, _, _, _, _, _, _, _, z⟩ := h
      exact False.elim z
    -- the suite
    have suite : ∀ (a : Addr) (oe : Obj) (cls : Value) (d : Option Addr) (pn : List (Addr × Obj)), L2N.Zn cls d oe → (∃ vs, oe.data = .fields vs) →
        PSs ((cxOf C8.CX0 X.prog X.w X.K X.mg X.base t.N t.name (defScope t.st) (He.ga X.K t.name) cdv X.A X.stack s H C8.E0).nox.suite a ((a, oe) :: pn)) (b0 :: sb)
          (fun D σ H => ∃ x : Exn, (cls = .ref (He.ga X.K x.cls) ∧ d = none ∧ Γ.cls.contains x.cls = true) ∧ (σ.length = t.N.length → @tS ⟨Lams.lams, a⟩ X.K noW (gH M (some x)) t.suite D σ H)) := fun a oe cls d pn hz hf => by
      refine ⟨fun pins s' σ H' D I ⟨x, ⟨e1, e2, e3⟩, rd⟩ => ?_⟩
      subst e1 e2
      exact (@hot_ss ⟨Lams.lams, a⟩ Γ M (cxOf C8.CX0 X.prog X.w X.K X.mg X.base t.N t.name (defScope t.st) (He.ga X.K t.name) cdv X.A X.stack s H C8.E0).nox F sc.nd rfl (fun _ => rfl) room1.units sc.kind _ _ h12 x e3 oe pn hz hf).run pins s' σ H' D I (rd I.len)
    -- what follows
    have after : PSs (cxOf C8.CX0 X.prog X.w X.K X.mg X.base t.N t.name (defScope t.st) (He.ga X.K t.name) cdv X.A X.stack s H C8.E0).nox rs (tS X.K noW (gH M none) t.rest) :=
      cold_ss (Y := (cxOf C8.CX0 X.prog X.w X.K X.mg X.base t.N t.name (defScope t.st) (He.ga X.K t.name) cdv X.A X.stack s H C8.E0).nox) F sc.nd rfl rfl (fun _ => rfl) (room1.mono (by omega)) sc.kind h13
    refine ⟨_, pss_cons (L2N.ps_try_as (i := t.i) (c := .ref (He.ga X.K c)) (Wout := fun _ _ _ _ => False)
      (tb := fun W D σ H => ∃ Ech : XK, (∀ cls d σ' H', Ech cls d H' → W cls d σ' H') ∧ σ[0]? = some (some (.ref f)) ∧ H c' = some (LamX.CodeO c' q) ∧ tl Ech H fun _ H1 => D.nx σ H1)
      rfl rfl sc.nd h5 (of_decide_eq_true h6) ⟨glB_out (X := (cxOf C8.CX0 X.prog X.w X.K X.mg X.base t.N t.name (defScope t.st) (He.ga X.K t.name) cdv X.A X.stack s H C8.E0).nox) h3, nc.1, .inl (F.cls c h11)⟩ (noT _) (fun W pn xe tk _ => ?_) suite) after, ?_⟩
    · refine ⟨fun pins s' σ H' D I ⟨Ech, hW, r1, r2, r3⟩ => ?_⟩
      have hp := act W pn xe Ech p1 p2 tk hW
      rw [← h1] at hp
      exact (pss_one (ps_expr (pos := p3) hp)).run pins s' σ H' D I ⟨r1, r2, r3⟩
    · refine ⟨_, fun cls d σ' H' hE => ?_, t00, hco, mono _ _ _ _ (fun v H1 hq => ?_) tt⟩
      · obtain ⟨tabs', x, dd, ⟨e1, e2⟩, hx, hfl, gr⟩ := hE
        unfold HT.tell at hx
        dsimp only at hx
        split at hx
        · rename_i hcond
          simp only [Bool.and_eq_true, decide_eq_true_eq, List.isEmpty_iff] at hcond
          obtain ⟨⟨c1, c2⟩, c3⟩ := hcond
          obtain ⟨μ', ev, _⟩ := flatOf_out hx
          subst e1
          rw [← h2] at c3
          refine ⟨true, (F.sub x.cls c true c2 h11 c3).1, fun _ a' na' => ⟨x, ⟨rfl, e2 c1, c2⟩, fun hl => ?_⟩, fun z => nomatch z⟩
          have hl' : σ'.length = t.N.length := by rw [← hl, List.length_set]
          have ab := @Abs.set ⟨Lams.lams, a'⟩ _ _ _ _ _ _ _ (@abs_start ⟨Lams.lams, a'⟩ X.K H' σ' t.N.length hl' tabs') t.i .exc (.ref a') (by simp only [RdV])
          refine ⟨fun _ => False, [], _, [], ab, ?_⟩
          rw [ev]
          refine fun v H'' φ' e m rd => ?_
          have hv : v = toV dd := (@flat_rd ⟨Lams.lams, a'⟩ _ _ _ _ _ _ hfl rd).1
          rw [hv]
          exact gr H'' (ext_growN e) (@MemOk.tabs ⟨Lams.lams, a'⟩ _ _ _ _ _ m)
        · cases hx
      · obtain ⟨tabs', dd, hx, hfl, gr⟩ := hq
        unfold HT.tell at hx
        obtain ⟨μ', ev, _⟩ := flatOf_out hx
        refine ⟨fun _ => False, [], _, [], abs_start tl0 tabs', ?_⟩
        rw [ev]
        refine fun v H'' φ' e m rd => ?_
        rw [(flat_rd hfl rd).1]
        exact gr H'' (ext_growN e) m.tabs
  · exact absurd hck (by simp)
end Den

/-! Den20: a law's end: from what the head tells to the law's promise. -/
namespace Den
open PySem PySem.Spec PyProof.Rows L2
variable [Lams]

/-- f(..) binds its parameters in order -/
def Bd (name : Str) (st : Stmt) (ps : List Str) : Prop := ∀ (kV doc pm : Value) (an : Option Addr) (cdv ct : Value) (us : List Value), us.length = ps.length → bindArgs (PySem.W.fnOf name name (defArgs st) (defBody st) (defScope st) .none kV doc pm an cdv ct) ⟨us, []⟩ = pure (ps.zip us)
def ddOf (name : Str) (st : Stmt) : He.DefD := ⟨(name, none), name, name, defArgs st, defBody st, defScope st, [], []⟩
def fnsOf (tab : List FT) (hts : List HT) : List He.DefD := tab.map (fun t => ddOf t.name t.st) ++ hts.map fun t => ddOf t.name t.st
def fasOf (Γ : Nm) : List He.Fa := Γ.fns.map .glo ++ Γ.fns.map .keep ++ Γ.hnd.map .glo ++ Γ.hnd.map .keep ++ Γ.free.map .free ++ Γ.cls.map .glo ++ Γ.exs.map .glo ++ Γ.exs.map .exc
def valB (u : Value) : D → Bool
  | .int i => match u with
    | .int j _ => decide (j = i)
    | _ => false
  | .str i => match u with
    | .str j _ => decide (j = i)
    | _ => false
  | .bl i => match u with
    | .bool j => decide (j = i)
    | _ => false
  | .non => match u with
    | .none => true
    | _ => false
  | _ => false
def excCB (K : PySem.W.Frag) (D : Addr) : Bool :=
  He.eqO (PySem.W.findIn K (.ref D) "__getattribute__") (some (some (.builtin "BaseException.__getattribute__"))) && (He.eqO (PySem.W.findIn K (.ref D) "__getattr__") (some none) && (decide (PySem.W.subIn K (.ref D) (.type "BaseException") = some true) && (PySem.W.hasDictIn K D &&
    (He.eqO (PySem.W.findIn K (.ref D) "__class__") (some (some (.builtin "object.__class__"))) && (He.eqO (PySem.W.specialIn K (.builtin "object.__class__") "__get__") (some (some (.builtin "getset_descriptor.__get__"))) && (decide (PySem.W.takesIn K (.builtin "object.__class__") = some true) && decide (PySem.W.mroIn K D (.type "object") = some true)))))))
theorem excCB_ok {K : PySem.W.Frag} {D : Addr} (h : excCB K D = true) : ExcC K D := by
  obtain ⟨h1, h⟩ := He.ba h
  obtain ⟨h2, h⟩ := He.ba h
  obtain ⟨h3, h⟩ := He.ba h
  obtain ⟨h4, h⟩ := He.ba h
  obtain ⟨h5, h⟩ := He.ba h
  obtain ⟨h6, h⟩ := He.ba h
  obtain ⟨h7, h8⟩ := He.ba h
  exact ⟨He.eqO_ok h1, He.eqO_ok h2, of_decide_eq_true h3, h4, He.eqO_ok h5, He.eqO_ok h6, of_decide_eq_true h7, of_decide_eq_true h8⟩
/-- what the head is asked beside -/
def moreB (Γ : Nm) (M : Md) (K : PySem.W.Frag) : Bool :=
  (Γ.con.all fun x => match M.con.lookup x with
    | some d => (match PySem.W.nsIn K mainGlobals x with
      | some (some u) => valB u d
      | _ => false)
    | none => true) &&
  ((Γ.bfn.all fun x => decide (x = "gcd") && He.eqO (PySem.W.nsIn K mainGlobals x) (some (some (.builtin "math.gcd")))) &&
  ((Γ.cls.all fun C => excCB K (He.ga K C)) &&
  ((Γ.cls.all fun C => Γ.cls.all fun C' => match M.sub C C' with
    | some b => decide (PySem.W.exmOne K (.ref (He.ga K C)) (.ref (He.ga K C')) = some b) && decide (PySem.W.kitOne K (.ref (He.ga K C)) (.ref (He.ga K C')) = some b)
    | none => true) &&
  (Lams.lams.all fun x => Lams.lams.all fun y => decide ((He.cT K (x, none)).2 = (He.cT K (y, none)).2 → x = y)))))
def tfOf : List He.Defn := Lams.lams.map fun x => (x, none)
abbrev hookOf (n : Nat) (Γ : Nm) (M : Md) (tab : List FT) (hts : List HT) : PySem.W.Hook := He.hookX n (fasOf Γ) (fnsOf tab hts) [] tfOf (moreB Γ M)
abbrev SaysOf (Γ : Nm) (M : Md) (tab : List FT) (hts : List HT) (w : World) (h : Heap) (K : PySem.W.Frag) : Prop := He.SaysX (fasOf Γ) (fnsOf tab hts) [] tfOf (moreB Γ M) w h K
/-- what is decided of the text alone -/
structure Text (Γ : Nm) (M : Md) (tab : List FT) (hts : List HT) : Prop where
  ok : ∀ t ∈ tab, t.Ok Γ ∧ Bd t.name t.st t.ps
  hk : ∀ t ∈ hts, t.ck Γ = true ∧ FnScope t.N [t.a] (defScope t.st) ∧ Bd t.name t.st [t.a]
  cov : ∀ f, Γ.fns.contains f = true → ∃ t ∈ tab, t.name = f ∧ M.at_ f = some t.fn
  hcov : ∀ f, Γ.hnd.contains f = true → ∃ t ∈ hts, t.name = f ∧ M.hnd f = t.tell Γ M
  hot : Γ.hot = false
  isx : Γ.isx = false
  lams : ∀ t ∈ tab, t.lam = true → t.name ∈ Lams.lams
  hin : ∀ t ∈ hts, Γ.hnd.contains t.name = true
section
variable {Γ : Nm} {M : Md} {tab : List FT} {hts : List HT} {P : Program} {w : World} {K : PySem.W.Frag} {mg : Str → Option Value} {base h : Heap}
theorem def_of (c : SaysOf Γ M tab hts w h K) {name : Str} {st : Stmt} (hm : ddOf name st ∈ fnsOf tab hts) : ∃ fd, FunD K name name (defArgs st) (defBody st) (defScope st) [] [] (He.ga K name) fd := c.t.d.defs hm
theorem mem_con {l : List Str} {x : Str} (h : l.contains x = true) : x ∈ l := List.contains_iff_mem.mp h
theorem facts_of (T : Text Γ M tab hts) (X : K.In h) (G : h.Ns mainGlobals mg) (c : SaysOf Γ M tab hts w h K) (tb : ∀ p ∈ tfOf.map (He.cT K), LamX.TabB base mg p.1 p.2) : Facts Γ M tab P w K mg base := by
  have fact : ∀ {f : He.Fa}, f ∈ fasOf Γ → f.ok K = true := fun h => c.t.d.facts h
  have more := c.more
  unfold moreB at more
  obtain ⟨m1, more⟩ := He.ba more
  obtain ⟨m2, more⟩ := He.ba more
  obtain ⟨m3, more⟩ := He.ba more
  obtain ⟨m4, m5⟩ := He.ba more
  have fns : ∀ x, Γ.fns.contains x = true → mg x = some (.ref (He.ga K x)) ∧ PySem.W.keepIn K (.ref (He.ga K x)) = true := fun x hx =>
    ⟨He.glo_ok X G (fact (f := .glo x) (by simp only [fasOf, List.mem_append, List.mem_map]; simp [mem_con hx])), He.keep_ok (fact (f := .keep x) (by simp only [fasOf, List.mem_append, List.mem_map]; simp [mem_con hx]))⟩
  have hnd : ∀ x, Γ.hnd.contains x = true → mg x = some (.ref (He.ga K x)) := fun x hx => He.glo_ok X G (fact (f := .glo x) (by simp only [fasOf, List.mem_append, List.mem_map]; simp [mem_con hx]))
  have free : ∀ x, Γ.free.contains x = true → mg x = none := fun x hx => He.free_ok X G (fact (f := .free x) (by simp only [fasOf, List.mem_append, List.mem_map]; simp [mem_con hx]))
  have cls : ∀ x, Γ.cls.contains x = true → mg x = some (.ref (He.ga K x)) := fun x hx => He.glo_ok X G (fact (f := .glo x) (by simp only [fasOf, List.mem_append, List.mem_map]; simp [mem_con hx]))
  have EF : ExcFacts Γ M K mg := by
    refine ⟨fun C hC => excCB_ok (List.all_eq_true.mp m3 C (mem_con hC)), fun C C' b hC hC' hb => ?_, cls, free⟩
    have q := List.all_eq_true.mp (List.all_eq_true.mp m4 C (mem_con hC)) C' (mem_con hC')
    rw [hb] at q
    obtain ⟨q1, q2⟩ := He.ba q
    exact ⟨of_decide_eq_true q1, of_decide_eq_true q2⟩
  refine ⟨fns, fun x d hx hd => ?_, free, fun b hb hx => ?_, fun x hx => ?_, T.hot, T.isx, cls, fun t ht => ?_, fun t ht => (T.ok t ht).1, T.cov, fun f hf => ?_, fun x hx => ?_, T.lams, fun x hx y hy e => ?_⟩
  · have q := List.all_eq_true.mp m1 x (mem_con hx)
    rw [hd] at q
    dsimp only at q
    split at q
    · rename_i u hu
      have hm := PySem.W.mg_of X G hu
      cases d <;> simp only [valB] at q <;> first | (cases q; done) | skip
      · split at q
        · exact ⟨.non, _, hm, rfl, fun _ _ _ => rd_non⟩
        · cases q
      · split at q
        · rename_i i j
          have e := of_decide_eq_true q
          subst e
          exact ⟨.bl _, _, hm, rfl, fun _ _ _ => rd_bl⟩
        · cases q
      · split at q
        · rename_i i j tk
          have e := of_decide_eq_true q
          subst e
          exact ⟨.int _, _, hm, ⟨_, rfl⟩, fun _ _ _ => rd_int⟩
        · cases q
      · split at q
        · rename_i i j tk
          have e := of_decide_eq_true q
          subst e
          exact ⟨.str _, _, hm, ⟨_, rfl⟩, fun _ _ _ => rd_str⟩
        · cases q
    · cases q
  · cases b <;> first | (cases hb; done) | skip
    have q := List.all_eq_true.mp m2 _ (mem_con hx)
    obtain ⟨_, q2⟩ := He.ba q
    exact PySem.W.mg_of X G (He.eqO_ok q2)
  · have g := He.glo_ok X G (fact (f := .glo x) (by simp only [fasOf, List.mem_append, List.mem_map]; simp [mem_con hx]))
    obtain ⟨e1, e2, e3, e4⟩ := He.exc_ok (fact (f := .exc x) (by simp only [fasOf, List.mem_append, List.mem_map]; simp [mem_con hx]))
    exact ⟨_, _, _, _, PySem.F.excBase_ValueError, e1, g, e2, e3, e4⟩
  · obtain ⟨fd, fu⟩ := def_of (name := t.name) (st := t.st) c (List.mem_append_left _ (List.mem_map.mpr ⟨t, ht, rfl⟩))
    exact ⟨fd, fu, fu.bindsN (T.ok t ht).2⟩
  · obtain ⟨t, ht, hn, e⟩ := T.hcov f hf
    subst hn
    obtain ⟨fd, fu⟩ := def_of (name := t.name) (st := t.st) c (List.mem_append_right _ (List.mem_map.mpr ⟨t, ht, rfl⟩))
    rw [e]
    exact hnd_ok EF (hnd _ hf) (T.hk t ht).1 (T.hk t ht).2.1 fu (fu.bindsN (T.hk t ht).2.2)
  · exact tb (He.cT K (x, none)) (List.mem_map.mpr ⟨(x, none), List.mem_map.mpr ⟨x, hx, rfl⟩, rfl⟩)
  · have q := List.all_eq_true.mp (List.all_eq_true.mp m5 x hx) y hy
    exact of_decide_eq_true q e
def spRun (K : PySem.W.Frag) (c : List D → Mem → R D) : Sp := fun vs H Q E => ∃ B φ μ ds, MemOk K H φ μ B ∧ RdL K H (Live φ μ B) φ ds vs ∧ DenV K E B H φ μ (c ds μ) Q
/-- the law's promise at the head's heap -/
theorem law_at {l : PySem.W.OpenLaw} {n k W : Nat} {x : Str} {fa : Addr} (T : Text Γ M tab hts) (X : K.In h) (G : h.Ns mainGlobals mg) (c : SaysOf Γ M tab hts w h K) (hmg : mg "law" = some (.ref fa)) {tl : FT} (ht : tl ∈ tab) (hn : tl.name = "law") (hp : tl.ps = [x]) (hat : M.at_ "law" = some tl.fn) (hf : Γ.fns.contains "law" = true)
    (plain : ∀ ns : List Int, ns.length ≤ n → (∀ z ∈ ns, Builtin.Int.intBits z ≤ 1048576) → ∃ μ', run M W (k + 1) "law" [.fls (ns.map .int)] [] = .ok (.bl true) μ') : LamX.LawAtS l w K (L2N.CX l.prog w) (k + 1) n x mg fa h := by
  obtain ⟨fd, fu⟩ := def_of (name := tl.name) (st := tl.st) c (List.mem_append_left _ (List.mem_map.mpr ⟨tl, ht, rfl⟩))
  have b := fu.bindsA (T.ok tl ht).2
  have g0 : mg "law" = some (.ref (He.ga K "law")) := He.glo_ok X G (c.t.d.facts (f := .glo "law") (by simp only [fasOf, List.mem_append, List.mem_map]; simp [mem_con hf]))
  have ea : fa = He.ga K "law" := by
    rw [hmg] at g0
    exact Value.ref.inj (Option.some.inj g0)
  subst ea
  refine ⟨fd, tfOf.map (He.cT K), spRun K (run M W (k + 1) "law"), fun p hp => ?_, fun p hp => ?_, fun p hp => ?_, fun s v => ?_, fun H a ns hl hb hT hS => ?_, fun base KB GB tb => ?_⟩
  rotate_left 5
  · have q := fn_law (P := l.prog) (w := w) (base := base) (facts_of T X G c tb) W k ht (by rw [hn]; exact hat) fu
    rw [hn, hp] at q
    exact q
  · obtain ⟨q, hq, rfl⟩ := List.mem_map.mp hp
    exact c.empty q hq
  · obtain ⟨q, hq, rfl⟩ := List.mem_map.mp hp
    exact c.out q hq
  · obtain ⟨q, hq, rfl⟩ := List.mem_map.mp hp
    exact PySem.W.codeHd_of_K X (c.hd q hq)
  · have z := b s [v] (by rw [hp]; rfl)
    rw [hp] at z
    exact z
  · obtain ⟨B, φ, μ, ds, ⟨m, rl⟩, e1, e2, dv⟩ := sp_law (K := K) (plain ns hl hb) (fun p hp => by
      obtain ⟨y, hy, rfl⟩ := List.mem_map.mp hp
      exact hT (He.cT K (y, none)) (List.mem_map.mpr ⟨(y, none), List.mem_map.mpr ⟨y, hy, rfl⟩, rfl⟩)) hS
    subst e1 e2
    exact ⟨B, φ, [], _, m, rl, dv⟩
end
end Den

/-! Den21: the interpreter, step by step. -/
namespace Den
open PySem PySem.Spec PyProof.Rows L2
section
variable {α β : Type} {μ : Mem} {g : G} {ρ : DEnv}
theorem bind_ok {a : α} {f : α → Mem → R β} : (R.ok a μ).bind f = f a μ := rfl
theorem bind_er {x : Exn} {f : α → Mem → R β} : (R.er x μ : R α).bind f = .er x μ := rfl
theorem bind_no {f : α → Mem → R β} : (R.no : R α).bind f = .no := rfl
theorem calm_ok {a : α} : (R.ok a μ).calm = .ok a μ := rfl
theorem b_add {i j : Int} : binD .Add (.int i) (.int j) μ = .ok (.int (i + j)) μ := rfl
theorem b_sub {i j : Int} : binD .Sub (.int i) (.int j) μ = .ok (.int (i - j)) μ := rfl
theorem b_mul {i j : Int} (h : mulOk i j = true) : binD .Mult (.int i) (.int j) μ = .ok (.int (i * j)) μ := by
  show (if mulOk i j then _ else _) = _
  rw [if_pos h]
theorem b_div {i j : Int} (h : j ≠ 0) (h2 : j.natAbs.log2 < 9000) : binD .FloorDiv (.int i) (.int j) μ = .ok (.int (i.fdiv j)) μ := by
  show (if decide (j ≠ 0) && decide (j.natAbs.log2 < 9000) then _ else _) = _
  rw [if_pos (by simp [h, h2])]
theorem b_mod {i j : Int} (h : j ≠ 0) : binD .Mod (.int i) (.int j) μ = .ok (.int (i.fmod j)) μ := by
  show (if j ≠ 0 then _ else _) = _
  rw [if_pos h]
theorem b_lst {xs ys : List D} (h : xs.length + ys.length ≤ 16777216) : binD .Add (.lst xs) (.lst ys) μ = .ok (.lst (xs ++ ys)) μ := by
  show (if fits (xs.length + ys.length) then _ else _) = _
  rw [if_pos (by simpa [fits] using h)]
theorem i_t0 {a : D} {l : List D} : idxD (.tup (a :: l)) (.int 0) μ = .ok a μ := by simp [idxD, asSeq, atI, ixN]
theorem i_t1 {a b : D} {l : List D} : idxD (.tup (a :: b :: l)) (.int 1) μ = .ok b μ := by
  have : (1 : Int) < (l.length : Int) + 1 + 1 := by omega
  simp [idxD, asSeq, atI, ixN, this]
theorem c_lt {i j : Int} : cmpD .Lt (.int i) (.int j) μ = .ok (decide (i < j)) μ := rfl
theorem c_le {i j : Int} : cmpD .LtE (.int i) (.int j) μ = .ok (decide (i ≤ j)) μ := rfl
theorem c_gt {i j : Int} : cmpD .Gt (.int i) (.int j) μ = .ok (decide (j < i)) μ := rfl
theorem c_ge {i j : Int} : cmpD .GtE (.int i) (.int j) μ = .ok (decide (j ≤ i)) μ := rfl
theorem c_eq {i j : Int} : cmpD .Eq (.int i) (.int j) μ = .ok (i == j) μ := by
  simp [cmpD, cmpB, eqD, pyM, D.py, SeqAt.shaped, PyData.eqv, PyData.canLay0, PyData.depth]
theorem c_ne {i j : Int} : cmpD .NotEq (.int i) (.int j) μ = .ok (!(i == j)) μ := by
  simp [cmpD, cmpB, eqD, pyM, D.py, SeqAt.shaped, PyData.eqv, PyData.canLay0, PyData.depth]
theorem t_bl {b : Bool} : tru (.bl b) μ = .ok b μ := rfl
theorem get0 {a : Option D} {l : DEnv} : (a :: l)[0]? = some a := rfl
theorem gets {a : Option D} {l : DEnv} {n : Nat} : (a :: l)[n + 1]? = l[n]? := rfl
end
end Den

namespace Law_k00
open PySem PySem.Spec PyProof.Rows L2 Den
instance lamsI : Lams := ⟨["_law_pair_right", "law"], 0⟩
/-- the i-th statement of the text -/
def at_ (i : Nat) : Stmt := PySem.Challenge.pw_benchbound_k00_whole_portions.main.body.getD i (.Pass ⟨0, 0, 0, 0⟩)
def Γ : Nm := { fns := ["is_whole", "need_whole", "is_tuple_of", "is_portion", "need_portion", "fair", "plus", "times", "lead", "portion", "portion_sum", "portion_product", "portion_by", "is_more", "_law_cup", "_law_roll", "_law_some", "_law_sort", "_law_like", "_law_divisor", "_law_plain", "_law_great", "_law_portion", "_law_pair_right", "law"], con := ["GREAT"], bfn := ["gcd"], free := ["abs", "bool", "int", "isinstance", "len", "list", "range", "str", "tuple", "zip"], exs := ["InvalidNumber", "InvalidPortion", "NotFound"], hnd := ["_law_error"], lam := false, cls := ["BenchError", "InvalidNumber", "InvalidPortion", "NotFound"] }
def anc : List (Str × List Str) := [("BenchError", ["BenchError"]), ("InvalidNumber", ["InvalidNumber", "BenchError"]), ("InvalidPortion", ["InvalidPortion", "BenchError"]), ("NotFound", ["NotFound", "BenchError"])]
def sub (a b : Str) : Option Bool := (anc.lookup a).map fun l => l.contains b
def c_is_whole : S := (.cons (.ret (.and (.isi (.var 0) .int) (.and (.not (.isi (.var 0) .bool)) (.one (.chn .LtE .LtE (.var 1) (.var 0) (.var 2))))))
 .nil)
def t_is_whole : FT := ⟨"is_whole", ["value", "low", "high"], ["value", "low", "high"], at_ 7, c_is_whole, false⟩
def c_need_whole : S := (.cons (.ife (.not (.cal "is_whole" (.cons (.var 0) (.cons (.var 1) (.cons (.var 2) .nil))))) (.cons (.rai "InvalidNumber")
 .nil) .nil)
 .nil)
def t_need_whole : FT := ⟨"need_whole", ["value", "low", "high"], ["value", "low", "high"], at_ 8, c_need_whole, false⟩
def c_is_tuple_of : S := (.cons (.ret (.and (.isi (.var 0) .tuple) (.one (.chn .LtE .LtE (.var 1) (.bif .len (.cons (.var 0) .nil)) (.var 2)))))
 .nil)
def t_is_tuple_of : FT := ⟨"is_tuple_of", ["value", "low", "high"], ["value", "low", "high"], at_ 9, c_is_tuple_of, false⟩
def c_is_portion : S := (.cons (.ife (.or (.not (.cal "is_tuple_of" (.cons (.var 0) (.cons (.num 2) (.cons (.num 2) .nil))))) (.or (.not (.cal "is_whole" (.cons (.idx (.var 0) (.num 0)) (.cons (.neg (.con "GREAT")) (.cons (.con "GREAT") .nil))))) (.one (.not (.cal "is_whole" (.cons (.idx (.var 0) (.num 1)) (.cons (.num 1) (.cons (.con "GREAT") .nil)))))))) (.cons (.ret (.bl false))
 .nil) .nil)
 (.cons (.ret (.cmp .Eq (.bif .gcd (.cons (.idx (.var 0) (.num 0)) (.cons (.idx (.var 0) (.num 1)) .nil))) (.num 1)))
 .nil))
def t_is_portion : FT := ⟨"is_portion", ["value"], ["value"], at_ 12, c_is_portion, false⟩
def c_need_portion : S := (.cons (.ife (.not (.cal "is_portion" (.cons (.var 0) .nil))) (.cons (.rai "InvalidPortion")
 .nil) .nil)
 .nil)
def t_need_portion : FT := ⟨"need_portion", ["value"], ["value"], at_ 13, c_need_portion, false⟩
def c_fair : S := (.cons (.set 2 (.bif .gcd (.cons (.var 0) (.cons (.var 1) .nil))))
 (.cons (.set 2 (.ite (.cmp .Gt (.var 1) (.num 0)) (.var 2) (.neg (.var 2))))
 (.cons (.ret (.tup (.cons (.bin .FloorDiv (.var 0) (.var 2)) (.cons (.bin .FloorDiv (.var 1) (.var 2)) .nil))))
 .nil)))
def t_fair : FT := ⟨"fair", ["top", "bottom"], ["top", "bottom", "shared"], at_ 14, c_fair, false⟩
def c_plus : S := (.cons (.ret (.cal "fair" (.cons (.bin .Add (.bin .Mult (.idx (.var 0) (.num 0)) (.idx (.var 1) (.num 1))) (.bin .Mult (.idx (.var 1) (.num 0)) (.idx (.var 0) (.num 1)))) (.cons (.bin .Mult (.idx (.var 0) (.num 1)) (.idx (.var 1) (.num 1))) .nil))))
 .nil)
def t_plus : FT := ⟨"plus", ["one", "other"], ["one", "other"], at_ 15, c_plus, false⟩
def c_times : S := (.cons (.ret (.cal "fair" (.cons (.bin .Mult (.idx (.var 0) (.num 0)) (.idx (.var 1) (.num 0))) (.cons (.bin .Mult (.idx (.var 0) (.num 1)) (.idx (.var 1) (.num 1))) .nil))))
 .nil)
def t_times : FT := ⟨"times", ["one", "other"], ["one", "other"], at_ 16, c_times, false⟩
def c_lead : S := (.cons (.ret (.bin .Sub (.bin .Mult (.idx (.var 0) (.num 0)) (.idx (.var 1) (.num 1))) (.bin .Mult (.idx (.var 1) (.num 0)) (.idx (.var 0) (.num 1)))))
 .nil)
def t_lead : FT := ⟨"lead", ["one", "other"], ["one", "other"], at_ 17, c_lead, false⟩
def c_portion : S := (.cons (.exp (.cal "need_whole" (.cons (.var 0) (.cons (.neg (.con "GREAT")) (.cons (.con "GREAT") .nil)))))
 (.cons (.exp (.cal "need_whole" (.cons (.var 1) (.cons (.neg (.con "GREAT")) (.cons (.con "GREAT") .nil)))))
 (.cons (.ife (.cmp .Eq (.var 1) (.num 0)) (.cons (.rai "InvalidNumber")
 .nil) .nil)
 (.cons (.ret (.cal "fair" (.cons (.var 0) (.cons (.var 1) .nil))))
 .nil))))
def t_portion : FT := ⟨"portion", ["top", "bottom"], ["top", "bottom"], at_ 18, c_portion, false⟩
def c_portion_sum : S := (.cons (.exp (.cal "need_portion" (.cons (.var 0) .nil)))
 (.cons (.exp (.cal "need_portion" (.cons (.var 1) .nil)))
 (.cons (.ret (.cal "plus" (.cons (.var 0) (.cons (.var 1) .nil))))
 .nil)))
def t_portion_sum : FT := ⟨"portion_sum", ["one", "other"], ["one", "other"], at_ 19, c_portion_sum, false⟩
def c_portion_product : S := (.cons (.exp (.cal "need_portion" (.cons (.var 0) .nil)))
 (.cons (.exp (.cal "need_portion" (.cons (.var 1) .nil)))
 (.cons (.ret (.cal "times" (.cons (.var 0) (.cons (.var 1) .nil))))
 .nil)))
def t_portion_product : FT := ⟨"portion_product", ["one", "other"], ["one", "other"], at_ 20, c_portion_product, false⟩
def c_portion_by : S := (.cons (.exp (.cal "need_portion" (.cons (.var 0) .nil)))
 (.cons (.exp (.cal "need_portion" (.cons (.var 1) .nil)))
 (.cons (.ife (.cmp .Eq (.idx (.var 1) (.num 0)) (.num 0)) (.cons (.rai "NotFound")
 .nil) .nil)
 (.cons (.ret (.cal "fair" (.cons (.bin .Mult (.idx (.var 0) (.num 0)) (.idx (.var 1) (.num 1))) (.cons (.bin .Mult (.idx (.var 0) (.num 1)) (.idx (.var 1) (.num 0))) .nil))))
 .nil))))
def t_portion_by : FT := ⟨"portion_by", ["one", "other"], ["one", "other"], at_ 21, c_portion_by, false⟩
def c_is_more : S := (.cons (.exp (.cal "need_portion" (.cons (.var 0) .nil)))
 (.cons (.exp (.cal "need_portion" (.cons (.var 1) .nil)))
 (.cons (.ret (.cmp .Gt (.cal "lead" (.cons (.var 0) (.cons (.var 1) .nil))) (.num 0)))
 .nil)))
def t_is_more : FT := ⟨"is_more", ["one", "other"], ["one", "other"], at_ 22, c_is_more, false⟩
def c__law_cup : S := (.cons (.set 1 (.bif .abs (.cons (.idx (.bin .Add (.bif .list (.cons (.var 0) .nil)) (.lst (.cons (.num 0) .nil))) (.num 0)) .nil)))
 (.cons (.ret (.cel (.cons (.ite (.cmp .GtE (.var 1) (.bin .Pow (.num 10) (.num 18))) (.bin .FloorDiv (.var 1) (.num 139)) (.num 0)) (.cons (.bin .Add (.bin .Mod (.bif .int (.cons (.bin .Add (.bin .Mult (.var 1) (.num 389)) (.num 5717)) .nil)) (.num 1944129511)) (.num 241)) .nil))))
 .nil))
def t__law_cup : FT := ⟨"_law_cup", ["script"], ["script", "cell"], at_ 24, c__law_cup, false⟩
def c__law_roll : S := (.cons (.ife (.cmp .Gt (.idx (.var 0) (.num 0)) (.num 0)) (.cons (.set 2 (.bin .Mod (.bif .int (.cons (.idx (.var 0) (.num 0)) .nil)) (.var 1)))
 (.cons (.sub (.var 0) (.num 0) (.bin .FloorDiv (.idx (.var 0) (.num 0)) (.var 1)))
 (.cons (.ret (.var 2))
 .nil))) .nil)
 (.cons (.sub (.var 0) (.num 1) (.bin .Mod (.bif .int (.cons (.bin .Add (.bin .Mult (.idx (.var 0) (.num 1)) (.num 29629)) (.num 9403)) .nil)) (.num 2147483543)))
 (.cons (.set 3 (.bin .Mod (.bif .int (.cons (.bin .Mult (.idx (.var 0) (.num 1)) (.bin .Add (.idx (.var 0) (.num 1)) (.num 317))) .nil)) (.num 2147483587)))
 (.cons (.ret (.bin .Mod (.bif .int (.cons (.bin .FloorDiv (.var 3) (.num 919)) .nil)) (.var 1)))
 .nil))))
def t__law_roll : FT := ⟨"_law_roll", ["cup", "many"], ["cup", "many", "found", "deep"], at_ 25, c__law_roll, false⟩
def c__law_some : S := (.cons (.ret (.idx (.var 1) (.cal "_law_roll" (.cons (.var 0) (.cons (.bif .len (.cons (.var 1) .nil)) .nil)))))
 .nil)
def t__law_some : FT := ⟨"_law_some", ["cup", "things"], ["cup", "things"], at_ 26, c__law_some, false⟩
def c__law_sort : S := (.cons (.ife (.or (.cmp .Is (.var 0) (.non)) (.one (.isi (.var 0) .bool))) (.cons (.ret (.ite (.cmp .Is (.var 0) (.non)) (.num 0) (.num 1)))
 .nil) .nil)
 (.cons (.ife (.or (.isi (.var 0) .int) (.one (.isi (.var 0) .str))) (.cons (.ret (.ite (.isi (.var 0) .int) (.num 2) (.num 3)))
 .nil) .nil)
 (.cons (.ret (.ite (.isi (.var 0) .tuple) (.num 4) (.ite (.isi (.var 0) .list) (.num 5) (.num 6))))
 .nil)))
def t__law_sort : FT := ⟨"_law_sort", ["value"], ["value"], at_ 27, c__law_sort, false⟩
def c__law_like : S := (.cons (.set 2 (.cal "_law_sort" (.cons (.var 1) .nil)))
 (.cons (.ife (.or (.cmp .NotEq (.cal "_law_sort" (.cons (.var 0) .nil)) (.var 2)) (.one (.cmp .Eq (.var 2) (.num 6)))) (.cons (.ret (.bl false))
 .nil) .nil)
 (.cons (.ife (.cmp .In (.var 2) (.tup (.cons (.num 4) (.cons (.num 5) .nil)))) (.cons (.ret (.and (.cmp .Eq (.bif .len (.cons (.var 0) .nil)) (.bif .len (.cons (.var 1) .nil))) (.one (.cmp .Eq (.cmpn [("first", 3), ("second", 4)] (.cons (.nm 3) (.cons (.nm 4) .nil)) (.zip (.var 0) (.var 1)) (.not (.cal "_law_like" (.cons (.var 3) (.cons (.var 4) .nil)))) (.num 1)) (.lst .nil)))))
 .nil) .nil)
 (.cons (.ret (.cmp .Eq (.var 0) (.var 1)))
 .nil))))
def t__law_like : FT := ⟨"_law_like", ["one", "other"], ["one", "other", "sort", "first", "second"], at_ 28, c__law_like, false⟩
def c__law_divisor : S := (.cons (.for (.nm 2) (.rng1 (.num 1200)) (.cons (.ife (.cmp .Eq (.var 1) (.num 0)) (.cons (.ret (.var 0))
 .nil) .nil)
 (.cons (.par 0 1 (.var 1) (.bin .Mod (.var 0) (.var 1)))
 .nil)))
 (.cons (.ret (.var 0))
 .nil))
def t__law_divisor : FT := ⟨"_law_divisor", ["one", "other"], ["one", "other", "turn"], at_ 29, c__law_divisor, false⟩
def c__law_plain : S := (.cons (.set 2 (.cal "_law_divisor" (.cons (.bif .abs (.cons (.var 0) .nil)) (.cons (.bif .abs (.cons (.var 1) .nil)) .nil))))
 (.cons (.set 2 (.ite (.cmp .Gt (.var 1) (.num 0)) (.var 2) (.neg (.var 2))))
 (.cons (.ret (.tup (.cons (.bin .FloorDiv (.var 0) (.var 2)) (.cons (.bin .FloorDiv (.var 1) (.var 2)) .nil))))
 .nil)))
def t__law_plain : FT := ⟨"_law_plain", ["top", "bottom"], ["top", "bottom", "shared"], at_ 30, c__law_plain, false⟩
def c__law_great : S := (.cons (.set 2 (.num 0))
 (.cons (.for (.nm 3) (.rng1 (.num 4)) (.cons (.set 2 (.bin .Mod (.bif .int (.cons (.bin .Add (.bin .Add (.bin .Mult (.var 2) (.bin .Pow (.num 10) (.num 18))) (.bin .Mult (.cal "_law_roll" (.cons (.var 0) (.cons (.bin .Pow (.num 10) (.num 9)) .nil))) (.bin .Pow (.num 10) (.num 9)))) (.cal "_law_roll" (.cons (.var 0) (.cons (.bin .Pow (.num 10) (.num 9)) .nil)))) .nil)) (.bin .Add (.var 1) (.num 1))))
 .nil))
 (.cons (.ret (.var 2))
 .nil)))
def t__law_great : FT := ⟨"_law_great", ["cup", "size"], ["cup", "size", "found", "turn"], at_ 31, c__law_great, false⟩
def c__law_portion : S := (.cons (.set 1 (.cal "_law_some" (.cons (.var 0) (.cons (.lst (.cons (.num 1) (.cons (.num 8) (.cons (.bin .Pow (.num 10) (.num 12)) (.cons (.bin .Pow (.num 10) (.num 60)) .nil))))) .nil))))
 (.cons (.ret (.cal "_law_plain" (.cons (.bin .Mult (.cal "_law_great" (.cons (.var 0) (.cons (.var 1) .nil))) (.cal "_law_some" (.cons (.var 0) (.cons (.lst (.cons (.num 1) (.cons (.neg (.num 1)) .nil))) .nil)))) (.cons (.bin .Add (.num 1) (.cal "_law_great" (.cons (.var 0) (.cons (.bin .Sub (.var 1) (.num 1)) .nil)))) .nil))))
 .nil))
def t__law_portion : FT := ⟨"_law_portion", ["cup"], ["cup", "size"], at_ 32, c__law_portion, false⟩
def c__law_pair_right : S := (.cons (.par 2 3 (.bin .Mult (.idx (.var 0) (.num 0)) (.idx (.var 1) (.num 1))) (.bin .Mult (.idx (.var 1) (.num 0)) (.idx (.var 0) (.num 1))))
 (.cons (.set 4 (.lst (.cons (.cal "portion_sum" (.cons (.var 0) (.cons (.var 1) .nil))) (.cons (.cal "portion_product" (.cons (.var 0) (.cons (.var 1) .nil))) (.cons (.cal "is_more" (.cons (.var 0) (.cons (.var 1) .nil))) (.cons (.cal "is_portion" (.cons (.var 0) .nil)) .nil))))))
 (.cons (.set 5 (.lst (.cons (.cal "_law_plain" (.cons (.bin .Add (.var 2) (.var 3)) (.cons (.bin .Mult (.idx (.var 0) (.num 1)) (.idx (.var 1) (.num 1))) .nil))) (.cons (.cal "_law_plain" (.cons (.bin .Mult (.idx (.var 0) (.num 0)) (.idx (.var 1) (.num 0))) (.cons (.bin .Mult (.idx (.var 0) (.num 1)) (.idx (.var 1) (.num 1))) .nil))) (.cons (.cmp .Gt (.var 2) (.var 3)) (.cons (.bl true) .nil))))))
 (.cons (.ife (.not (.cal "_law_like" (.cons (.var 4) (.cons (.var 5) .nil)))) (.cons (.ret (.bl false))
 .nil) .nil)
 (.cons (.ife (.cmp .Eq (.idx (.var 1) (.num 0)) (.num 0)) (.cons (.ret (.cmp .Eq (.err "_law_error" (.cal "portion_by" (.cons (.var 0) (.cons (.var 1) .nil)))) (.txt "no")))
 .nil) .nil)
 (.cons (.ret (.cal "_law_like" (.cons (.cal "portion_by" (.cons (.var 0) (.cons (.var 1) .nil))) (.cons (.cal "_law_plain" (.cons (.bin .Mult (.idx (.var 0) (.num 0)) (.idx (.var 1) (.num 1))) (.cons (.bin .Mult (.idx (.var 0) (.num 1)) (.idx (.var 1) (.num 0))) .nil))) .nil))))
 .nil))))))
def t__law_pair_right : FT := ⟨"_law_pair_right", ["one", "other"], ["one", "other", "first", "second", "told", "due"], at_ 34, c__law_pair_right, true⟩
def c_law : S := (.cons (.set 1 (.cal "_law_cup" (.cons (.var 0) .nil)))
 (.cons (.set 2 (.cal "_law_portion" (.cons (.var 1) .nil)))
 (.cons (.for (.nm 3) (.rng1 (.num 10)) (.cons (.set 4 (.cal "_law_portion" (.cons (.var 1) .nil)))
 (.cons (.ife (.or (.not (.cal "_law_pair_right" (.cons (.var 4) (.cons (.var 2) .nil)))) (.or (.not (.cal "_law_pair_right" (.cons (.var 2) (.cons (.var 4) .nil)))) (.one (.not (.cal "_law_pair_right" (.cons (.var 4) (.cons (.var 4) .nil))))))) (.cons (.ret (.bl false))
 .nil) .nil)
 (.cons (.set 2 (.var 4))
 .nil))))
 (.cons (.set 5 (.bin .Pow (.num 10) (.num 60)))
 (.cons (.set 6 (.lst (.cons (.cal "portion" (.cons (.num 6) (.cons (.neg (.num 4)) .nil))) (.cons (.cal "portion" (.cons (.num 0) (.cons (.neg (.var 5)) .nil))) (.cons (.cal "portion" (.cons (.var 5) (.cons (.var 5) .nil))) (.cons (.cal "portion_sum" (.cons (.tup (.cons (.num 1) (.cons (.num 2) .nil))) (.cons (.tup (.cons (.num 1) (.cons (.num 3) .nil))) .nil))) (.cons (.cal "portion_by" (.cons (.tup (.cons (.num 1) (.cons (.num 2) .nil))) (.cons (.tup (.cons (.neg (.num 3)) (.cons (.num 1) .nil))) .nil))) .nil)))))))
 (.cons (.set 6 (.bin .Add (.var 6) (.lst (.cons (.cal "portion_product" (.cons (.tup (.cons (.var 5) (.cons (.num 1) .nil))) (.cons (.tup (.cons (.var 5) (.cons (.num 1) .nil))) .nil))) (.cons (.cal "portion_product" (.cons (.tup (.cons (.num 2) (.cons (.num 3) .nil))) (.cons (.tup (.cons (.neg (.num 3)) (.cons (.num 4) .nil))) .nil))) (.cons (.cal "is_more" (.cons (.tup (.cons (.num 2) (.cons (.num 3) .nil))) (.cons (.tup (.cons (.num 3) (.cons (.num 4) .nil))) .nil))) (.cons (.cal "is_more" (.cons (.tup (.cons (.neg (.num 1)) (.cons (.num 2) .nil))) (.cons (.tup (.cons (.neg (.num 2)) (.cons (.num 3) .nil))) .nil))) .nil)))))))
 (.cons (.ife (.not (.cal "_law_like" (.cons (.var 6) (.cons (.lst (.cons (.tup (.cons (.neg (.num 3)) (.cons (.num 2) .nil))) (.cons (.tup (.cons (.num 0) (.cons (.num 1) .nil))) (.cons (.tup (.cons (.num 1) (.cons (.num 1) .nil))) (.cons (.tup (.cons (.num 5) (.cons (.num 6) .nil))) (.cons (.tup (.cons (.neg (.num 1)) (.cons (.num 6) .nil))) (.cons (.tup (.cons (.bin .Mult (.var 5) (.var 5)) (.cons (.num 1) .nil))) (.cons (.tup (.cons (.neg (.num 1)) (.cons (.num 2) .nil))) (.cons (.bl false) (.cons (.bl true) .nil)))))))))) .nil)))) (.cons (.ret (.bl false))
 .nil) .nil)
 (.cons (.set 7 (.lst (.cons (.tup (.cons (.num 1) (.cons (.num 2) .nil))) (.cons (.tup (.cons (.num 0) (.cons (.num 1) .nil))) (.cons (.tup (.cons (.var 5) (.cons (.num 1) .nil))) (.cons (.tup (.cons (.num 1) (.cons (.var 5) .nil))) (.cons (.tup (.cons (.bin .Add (.var 5) (.num 1)) (.cons (.num 1) .nil))) (.cons (.tup (.cons (.bin .Sub (.neg (.var 5)) (.num 1)) (.cons (.num 1) .nil))) (.cons (.tup (.cons (.num 1) (.cons (.bin .Add (.var 5) (.num 1)) .nil))) (.cons (.tup (.cons (.num 2) (.cons (.num 4) .nil))) (.cons (.tup (.cons (.num 0) (.cons (.num 2) .nil))) (.cons (.tup (.cons (.num 1) (.cons (.num 0) .nil))) (.cons (.tup (.cons (.num 1) (.cons (.neg (.num 2)) .nil))) (.cons (.lst (.cons (.num 1) (.cons (.num 2) .nil))) .nil))))))))))))))
 (.cons (.set 7 (.bin .Add (.var 7) (.lst (.cons (.tup (.cons (.num 1) .nil)) (.cons (.tup (.cons (.num 1) (.cons (.num 2) (.cons (.num 3) .nil)))) (.cons (.tup (.cons (.bl true) (.cons (.num 2) .nil))) (.cons (.tup (.cons (.num 1) (.cons (.bl true) .nil))) (.cons (.non) (.cons (.num 1) (.cons (.txt "1/2") (.cons (.tup (.cons (.tup (.cons (.num 1) .nil)) (.cons (.num 2) .nil))) .nil)))))))))))
 (.cons (.ife (.not (.cal "_law_like" (.cons (.cmpn [("odd", 12)] (.nm 12) (.itr (.var 7)) .nop (.cal "is_portion" (.cons (.var 12) .nil))) (.cons (.bin .Add (.bin .Mult (.lst (.cons (.bl true) .nil)) (.num 4)) (.bin .Mult (.lst (.cons (.bl false) .nil)) (.num 16))) .nil)))) (.cons (.ret (.bl false))
 .nil) .nil)
 (.cons (.tgt (.cons (.nm 8) (.cons (.nm 9) .nil)) (.tup (.cons (.cal "_law_some" (.cons (.var 1) (.cons (.sli (.var 7) (.num 4) .nop) .nil))) (.cons (.lst .nil) .nil))))
 (.cons (.for (.nm 10) (.itr (.tup (.cons (.glo "portion_sum") (.cons (.glo "portion_product") (.cons (.glo "portion_by") (.cons (.glo "is_more") .nil)))))) (.cons (.set 9 (.bin .Add (.var 9) (.lst (.cons (.err "_law_error" (.cav 10 ["portion_sum", "portion_product", "portion_by", "is_more"] (.cons (.var 8) (.cons (.var 8) .nil)))) .nil))))
 (.cons (.set 9 (.bin .Add (.var 9) (.lst (.cons (.err "_law_error" (.cav 10 ["portion_sum", "portion_product", "portion_by", "is_more"] (.cons (.tup (.cons (.num 0) (.cons (.num 1) .nil))) (.cons (.var 8) .nil)))) .nil))))
 .nil)))
 (.cons (.for (.nm 11) (.itr (.tup (.cons (.tup (.cons (.bin .Add (.var 5) (.num 1)) (.cons (.num 1) .nil))) (.cons (.tup (.cons (.num 1) (.cons (.bin .Add (.var 5) (.num 1)) .nil))) (.cons (.tup (.cons (.num 1) (.cons (.num 0) .nil))) (.cons (.tup (.cons (.bl true) (.cons (.num 1) .nil))) (.cons (.tup (.cons (.num 1) (.cons (.non) .nil))) (.cons (.tup (.cons (.non) (.cons (.num 0) .nil))) .nil)))))))) (.cons (.set 9 (.bin .Add (.var 9) (.lst (.cons (.err "_law_error" (.cal "portion" (.cons (.idx (.var 11) (.num 0)) (.cons (.idx (.var 11) (.num 1)) .nil)))) .nil))))
 .nil))
 (.cons (.ret (.cmp .Eq (.var 9) (.bin .Add (.bin .Mult (.lst (.cons (.txt "portion") .nil)) (.num 8)) (.bin .Mult (.lst (.cons (.txt "number") .nil)) (.num 6)))))
 .nil))))))))))))))
def t_law : FT := ⟨"law", ["script"], ["script", "cup", "last", "turn", "one", "great", "told", "odds", "bad", "words", "name", "pair", "odd"], at_ 35, c_law, true⟩
def s__law_error : S := (.cons (.set 2 (.lst (.cons (.tup (.cons (.txt "portion") (.cons (.isx 1 "InvalidPortion") .nil))) (.cons (.tup (.cons (.txt "number") (.cons (.isx 1 "InvalidNumber") .nil))) .nil))))
 (.cons (.ret (.joi (.txt "") (.cmpl [("word", 3), ("is_so", 4)] (.cons (.nm 3) (.cons (.nm 4) .nil)) (.bin .Add (.var 2) (.lst (.cons (.tup (.cons (.txt "no") (.cons (.isx 1 "NotFound") .nil))) .nil))) (.var 4) (.var 3))))
 .nil))
def r__law_error : S := (.cons (.ret (.txt "none"))
 .nil)
def h__law_error : HT := ⟨"_law_error", "call", ["call", "e", "pairs", "word", "is_so"], at_ 33, "BenchError", 1, s__law_error, r__law_error⟩
def tab : List FT := [t_is_whole, t_need_whole, t_is_tuple_of, t_is_portion, t_need_portion, t_fair, t_plus, t_times, t_lead, t_portion, t_portion_sum, t_portion_product, t_portion_by, t_is_more, t__law_cup, t__law_roll, t__law_some, t__law_sort, t__law_like, t__law_divisor, t__law_plain, t__law_great, t__law_portion, t__law_pair_right, t_law]
def hts : List HT := [h__law_error]
def M0 : Md := { fns := tab.map FT.fn, con := [("GREAT", .int (1000000000000000000000000000000000000000000000000000000000000))], hnd := fun _ _ => none, sub := sub }
def M : Md := { M0 with hnd := fun f => if f = "_law_error" then h__law_error.tell Γ M0 else fun _ => none }
theorem ok_is_whole : t_is_whole.Ok Γ ∧ Bd t_is_whole.name t_is_whole.st t_is_whole.ps := ⟨⟨⟨rfl, rfl, rfl, by decide +kernel, rfl, by decide +kernel, by decide +kernel⟩, by decide +kernel⟩, fun _ _ _ _ _ _ us hl => match us, hl with | [_, _, _], _ => rfl⟩
theorem ok_need_whole : t_need_whole.Ok Γ ∧ Bd t_need_whole.name t_need_whole.st t_need_whole.ps := ⟨⟨⟨rfl, rfl, rfl, by decide +kernel, rfl, by decide +kernel, by decide +kernel⟩, by decide +kernel⟩, fun _ _ _ _ _ _ us hl => match us, hl with | [_, _, _], _ => rfl⟩
theorem ok_is_tuple_of : t_is_tuple_of.Ok Γ ∧ Bd t_is_tuple_of.name t_is_tuple_of.st t_is_tuple_of.ps := ⟨⟨⟨rfl, rfl, rfl, by decide +kernel, rfl, by decide +kernel, by decide +kernel⟩, by decide +kernel⟩, fun _ _ _ _ _ _ us hl => match us, hl with | [_, _, _], _ => rfl⟩
theorem ok_is_portion : t_is_portion.Ok Γ ∧ Bd t_is_portion.name t_is_portion.st t_is_portion.ps := ⟨⟨⟨rfl, rfl, rfl, by decide +kernel, rfl, by decide +kernel, by decide +kernel⟩, by decide +kernel⟩, fun _ _ _ _ _ _ us hl => match us, hl with | [_], _ => rfl⟩
theorem ok_need_portion : t_need_portion.Ok Γ ∧ Bd t_need_portion.name t_need_portion.st t_need_portion.ps := ⟨⟨⟨rfl, rfl, rfl, by decide +kernel, rfl, by decide +kernel, by decide +kernel⟩, by decide +kernel⟩, fun _ _ _ _ _ _ us hl => match us, hl with | [_], _ => rfl⟩
theorem ok_fair : t_fair.Ok Γ ∧ Bd t_fair.name t_fair.st t_fair.ps := ⟨⟨⟨rfl, rfl, rfl, by decide +kernel, rfl, by decide +kernel, by decide +kernel⟩, by decide +kernel⟩, fun _ _ _ _ _ _ us hl => match us, hl with | [_, _], _ => rfl⟩
theorem ok_plus : t_plus.Ok Γ ∧ Bd t_plus.name t_plus.st t_plus.ps := ⟨⟨⟨rfl, rfl, rfl, by decide +kernel, rfl, by decide +kernel, by decide +kernel⟩, by decide +kernel⟩, fun _ _ _ _ _ _ us hl => match us, hl with | [_, _], _ => rfl⟩
theorem ok_times : t_times.Ok Γ ∧ Bd t_times.name t_times.st t_times.ps := ⟨⟨⟨rfl, rfl, rfl, by decide +kernel, rfl, by decide +kernel, by decide +kernel⟩, by decide +kernel⟩, fun _ _ _ _ _ _ us hl => match us, hl with | [_, _], _ => rfl⟩
theorem ok_lead : t_lead.Ok Γ ∧ Bd t_lead.name t_lead.st t_lead.ps := ⟨⟨⟨rfl, rfl, rfl, by decide +kernel, rfl, by decide +kernel, by decide +kernel⟩, by decide +kernel⟩, fun _ _ _ _ _ _ us hl => match us, hl with | [_, _], _ => rfl⟩
theorem ok_portion : t_portion.Ok Γ ∧ Bd t_portion.name t_portion.st t_portion.ps := ⟨⟨⟨rfl, rfl, rfl, by decide +kernel, rfl, by decide +kernel, by decide +kernel⟩, by decide +kernel⟩, fun _ _ _ _ _ _ us hl => match us, hl with | [_, _], _ => rfl⟩
theorem ok_portion_sum : t_portion_sum.Ok Γ ∧ Bd t_portion_sum.name t_portion_sum.st t_portion_sum.ps := ⟨⟨⟨rfl, rfl, rfl, by decide +kernel, rfl, by decide +kernel, by decide +kernel⟩, by decide +kernel⟩, fun _ _ _ _ _ _ us hl => match us, hl with | [_, _], _ => rfl⟩
theorem ok_portion_product : t_portion_product.Ok Γ ∧ Bd t_portion_product.name t_portion_product.st t_portion_product.ps := ⟨⟨⟨rfl, rfl, rfl, by decide +kernel, rfl, by decide +kernel, by decide +kernel⟩, by decide +kernel⟩, fun _ _ _ _ _ _ us hl => match us, hl with | [_, _], _ => rfl⟩
theorem ok_portion_by : t_portion_by.Ok Γ ∧ Bd t_portion_by.name t_portion_by.st t_portion_by.ps := ⟨⟨⟨rfl, rfl, rfl, by decide +kernel, rfl, by decide +kernel, by decide +kernel⟩, by decide +kernel⟩, fun _ _ _ _ _ _ us hl => match us, hl with | [_, _], _ => rfl⟩
theorem ok_is_more : t_is_more.Ok Γ ∧ Bd t_is_more.name t_is_more.st t_is_more.ps := ⟨⟨⟨rfl, rfl, rfl, by decide +kernel, rfl, by decide +kernel, by decide +kernel⟩, by decide +kernel⟩, fun _ _ _ _ _ _ us hl => match us, hl with | [_, _], _ => rfl⟩
theorem ok__law_cup : t__law_cup.Ok Γ ∧ Bd t__law_cup.name t__law_cup.st t__law_cup.ps := ⟨⟨⟨rfl, rfl, rfl, by decide +kernel, rfl, by decide +kernel, by decide +kernel⟩, by decide +kernel⟩, fun _ _ _ _ _ _ us hl => match us, hl with | [_], _ => rfl⟩
theorem ok__law_roll : t__law_roll.Ok Γ ∧ Bd t__law_roll.name t__law_roll.st t__law_roll.ps := ⟨⟨⟨rfl, rfl, rfl, by decide +kernel, rfl, by decide +kernel, by decide +kernel⟩, by decide +kernel⟩, fun _ _ _ _ _ _ us hl => match us, hl with | [_, _], _ => rfl⟩
theorem ok__law_some : t__law_some.Ok Γ ∧ Bd t__law_some.name t__law_some.st t__law_some.ps := ⟨⟨⟨rfl, rfl, rfl, by decide +kernel, rfl, by decide +kernel, by decide +kernel⟩, by decide +kernel⟩, fun _ _ _ _ _ _ us hl => match us, hl with | [_, _], _ => rfl⟩
theorem ok__law_sort : t__law_sort.Ok Γ ∧ Bd t__law_sort.name t__law_sort.st t__law_sort.ps := ⟨⟨⟨rfl, rfl, rfl, by decide +kernel, rfl, by decide +kernel, by decide +kernel⟩, by decide +kernel⟩, fun _ _ _ _ _ _ us hl => match us, hl with | [_], _ => rfl⟩
theorem ok__law_like : t__law_like.Ok Γ ∧ Bd t__law_like.name t__law_like.st t__law_like.ps := ⟨⟨⟨rfl, rfl, rfl, by decide +kernel, rfl, by decide +kernel, by decide +kernel⟩, by decide +kernel⟩, fun _ _ _ _ _ _ us hl => match us, hl with | [_, _], _ => rfl⟩
theorem ok__law_divisor : t__law_divisor.Ok Γ ∧ Bd t__law_divisor.name t__law_divisor.st t__law_divisor.ps := ⟨⟨⟨rfl, rfl, rfl, by decide +kernel, rfl, by decide +kernel, by decide +kernel⟩, by decide +kernel⟩, fun _ _ _ _ _ _ us hl => match us, hl with | [_, _], _ => rfl⟩
theorem ok__law_plain : t__law_plain.Ok Γ ∧ Bd t__law_plain.name t__law_plain.st t__law_plain.ps := ⟨⟨⟨rfl, rfl, rfl, by decide +kernel, rfl, by decide +kernel, by decide +kernel⟩, by decide +kernel⟩, fun _ _ _ _ _ _ us hl => match us, hl with | [_, _], _ => rfl⟩
theorem ok__law_great : t__law_great.Ok Γ ∧ Bd t__law_great.name t__law_great.st t__law_great.ps := ⟨⟨⟨rfl, rfl, rfl, by decide +kernel, rfl, by decide +kernel, by decide +kernel⟩, by decide +kernel⟩, fun _ _ _ _ _ _ us hl => match us, hl with | [_, _], _ => rfl⟩
theorem ok__law_portion : t__law_portion.Ok Γ ∧ Bd t__law_portion.name t__law_portion.st t__law_portion.ps := ⟨⟨⟨rfl, rfl, rfl, by decide +kernel, rfl, by decide +kernel, by decide +kernel⟩, by decide +kernel⟩, fun _ _ _ _ _ _ us hl => match us, hl with | [_], _ => rfl⟩
theorem ok__law_pair_right : t__law_pair_right.Ok Γ ∧ Bd t__law_pair_right.name t__law_pair_right.st t__law_pair_right.ps := ⟨⟨⟨rfl, rfl, rfl, by decide +kernel, rfl, by decide +kernel, by decide +kernel⟩, by decide +kernel⟩, fun _ _ _ _ _ _ us hl => match us, hl with | [_, _], _ => rfl⟩
theorem ok_law : t_law.Ok Γ ∧ Bd t_law.name t_law.st t_law.ps := ⟨⟨⟨rfl, rfl, rfl, by decide +kernel, rfl, by decide +kernel, by decide +kernel⟩, by decide +kernel⟩, fun _ _ _ _ _ _ us hl => match us, hl with | [_], _ => rfl⟩
theorem hk__law_error : h__law_error.ck Γ = true ∧ FnScope h__law_error.N [h__law_error.a] (defScope h__law_error.st) ∧ Bd h__law_error.name h__law_error.st [h__law_error.a] := ⟨by decide +kernel, ⟨rfl, rfl, rfl, by decide +kernel, rfl, by decide +kernel, by decide +kernel⟩, fun _ _ _ _ _ _ us hl => match us, hl with | [_], _ => rfl⟩
theorem cov : ∀ f ∈ Γ.fns, tab.any (fun t => decide (t.name = f) && (match M.at_ f with | some x => decide (x.name = t.fn.name) | none => false)) = true := by decide +kernel
theorem text : Text Γ M tab hts where
  ok := fun t ht => by
    simp only [tab, List.mem_cons, List.not_mem_nil, or_false] at ht
    rcases ht with rfl | rfl | rfl | rfl | rfl | rfl | rfl | rfl | rfl | rfl | rfl | rfl | rfl | rfl | rfl | rfl | rfl | rfl | rfl | rfl | rfl | rfl | rfl | rfl | rfl
    · exact ok_is_whole
    · exact ok_need_whole
    · exact ok_is_tuple_of
    · exact ok_is_portion
    · exact ok_need_portion
    · exact ok_fair
    · exact ok_plus
    · exact ok_times
    · exact ok_lead
    · exact ok_portion
    · exact ok_portion_sum
    · exact ok_portion_product
    · exact ok_portion_by
    · exact ok_is_more
    · exact ok__law_cup
    · exact ok__law_roll
    · exact ok__law_some
    · exact ok__law_sort
    · exact ok__law_like
    · exact ok__law_divisor
    · exact ok__law_plain
    · exact ok__law_great
    · exact ok__law_portion
    · exact ok__law_pair_right
    · exact ok_law
  hk := fun t ht => by
    simp only [hts, List.mem_cons, List.not_mem_nil, or_false] at ht
    subst ht
    · exact hk__law_error
  cov := fun f hf => by
    have hf := List.contains_iff_mem.mp hf
    simp only [Γ, List.mem_cons, List.not_mem_nil, or_false] at hf
    rcases hf with rfl | rfl | rfl | rfl | rfl | rfl | rfl | rfl | rfl | rfl | rfl | rfl | rfl | rfl | rfl | rfl | rfl | rfl | rfl | rfl | rfl | rfl | rfl | rfl | rfl
    · exact ⟨t_is_whole, by simp [tab], rfl, rfl⟩
    · exact ⟨t_need_whole, by simp [tab], rfl, rfl⟩
    · exact ⟨t_is_tuple_of, by simp [tab], rfl, rfl⟩
    · exact ⟨t_is_portion, by simp [tab], rfl, rfl⟩
    · exact ⟨t_need_portion, by simp [tab], rfl, rfl⟩
    · exact ⟨t_fair, by simp [tab], rfl, rfl⟩
    · exact ⟨t_plus, by simp [tab], rfl, rfl⟩
    · exact ⟨t_times, by simp [tab], rfl, rfl⟩
    · exact ⟨t_lead, by simp [tab], rfl, rfl⟩
    · exact ⟨t_portion, by simp [tab], rfl, rfl⟩
    · exact ⟨t_portion_sum, by simp [tab], rfl, rfl⟩
    · exact ⟨t_portion_product, by simp [tab], rfl, rfl⟩
    · exact ⟨t_portion_by, by simp [tab], rfl, rfl⟩
    · exact ⟨t_is_more, by simp [tab], rfl, rfl⟩
    · exact ⟨t__law_cup, by simp [tab], rfl, rfl⟩
    · exact ⟨t__law_roll, by simp [tab], rfl, rfl⟩
    · exact ⟨t__law_some, by simp [tab], rfl, rfl⟩
    · exact ⟨t__law_sort, by simp [tab], rfl, rfl⟩
    · exact ⟨t__law_like, by simp [tab], rfl, rfl⟩
    · exact ⟨t__law_divisor, by simp [tab], rfl, rfl⟩
    · exact ⟨t__law_plain, by simp [tab], rfl, rfl⟩
    · exact ⟨t__law_great, by simp [tab], rfl, rfl⟩
    · exact ⟨t__law_portion, by simp [tab], rfl, rfl⟩
    · exact ⟨t__law_pair_right, by simp [tab], rfl, rfl⟩
    · exact ⟨t_law, by simp [tab], rfl, rfl⟩
  hcov := fun f hf => by
    have hf := List.contains_iff_mem.mp hf
    simp only [Γ, List.mem_cons, List.not_mem_nil, or_false] at hf
    subst hf
    · exact ⟨h__law_error, by simp [hts], rfl, rfl⟩
  hot := rfl
  isx := rfl
  lams := fun t ht hl => by
    simp only [tab, List.mem_cons, List.not_mem_nil, or_false] at ht
    rcases ht with rfl | rfl | rfl | rfl | rfl | rfl | rfl | rfl | rfl | rfl | rfl | rfl | rfl | rfl | rfl | rfl | rfl | rfl | rfl | rfl | rfl | rfl | rfl | rfl | rfl
    · cases hl
    · cases hl
    · cases hl
    · cases hl
    · cases hl
    · cases hl
    · cases hl
    · cases hl
    · cases hl
    · cases hl
    · cases hl
    · cases hl
    · cases hl
    · cases hl
    · cases hl
    · cases hl
    · cases hl
    · cases hl
    · cases hl
    · cases hl
    · cases hl
    · cases hl
    · cases hl
    · exact List.mem_of_elem_eq_true (by decide +kernel)
    · exact List.mem_of_elem_eq_true (by decide +kernel)
  hin := fun t ht => by
    simp only [hts, List.mem_cons, List.not_mem_nil, or_false] at ht
    subst ht
    · rfl
end Law_k00

namespace Law_k00
open PySem PySem.Spec PyProof.Rows L2 Den
abbrev R0 : PySem.W.OpenRow := PySem.W.OpenLaw.row PySem.Challenge.rw_benchbound_k00_whole_portions
abbrev hk : PySem.W.Hook := hookOf 4 Γ M tab hts
def ob (s : PySem.W.SharedT) : He.AlX := He.obsX 4 (fasOf Γ) (fnsOf tab hts) [] tfOf (moreB Γ M) (HandSHeadRun.getT s)
theorem ob_eq (s : PySem.W.SharedT) : ob s = hk.obs s.abs := He.obsX_eq (HandSHeadRun.getT_eq s)
def loose : List Str := ["__name__", "BenchError", "InvalidNumber", "InvalidPortion", "NotFound", "is_whole", "need_whole", "is_tuple_of", "GREAT", "is_portion", "need_portion", "fair", "plus", "times", "lead", "portion", "portion_sum", "portion_product", "portion_by", "is_more", "_law_cup", "_law_roll", "_law_some", "_law_sort", "_law_like", "_law_divisor", "_law_plain", "_law_great", "_law_portion", "_law_error", "_law_pair_right"]
theorem run_ok (w : World) : HandSHeadRun.RunEqI R0 (PySem.W.view R0.prog [0, 35]) hk ob 4000 loose w := by
  unfold HandSHeadRun.RunEqI
  kernel_rfl
end Law_k00

namespace Law_k00
open PySem PySem.Spec PyProof.Rows L2 Den
theorem bgcd {a b : Int} {μ : Mem} : bifD .gcd [.int a, .int b] μ = .ok (.int ((Nat.gcd a.natAbs b.natAbs : Nat) : Int)) μ := rfl
theorem babs {a : Int} {μ : Mem} : bifD .abs [.int a] μ = .ok (.int (if a < 0 then -a else a)) μ := rfl
theorem gcal (k : Nat) (f : Str) (ds : List D) (μ : Mem) : (gAt M 0 k).cal f ds μ = run M 0 k f ds μ := rfl
local macro_rules | `(tactic| walk_at "den") => `(tactic| simp only [run_succ, callM, runB, FT.fn, startD, evS, evE, evT, bind_ok, bind_er, bind_no, b_add, b_sub, i_t0, i_t1, c_lt, c_le, c_gt, c_ge, c_eq, c_ne, t_bl, get0, gets, List.length_cons, List.length_nil, List.map_cons, List.map_nil, List.replicate, List.cons_append, List.nil_append, List.set_cons_zero, List.set_cons_succ, List.append_nil, if_true, if_false, Nat.reduceAdd, Nat.reduceSub, Nat.zero_add, reduceIte, Bool.false_eq_true, bgcd, babs, fits, Nat.reduceLeDiff, decide_true, decide_false, Bool.not_true, Bool.not_false, *])
local macro_rules | `(tactic| walk_at "fun") => `(tactic| (rw [run_succ]; simp only [callM, runB, FT.fn, startD, evS, evE, evT, gcal, bind_ok, bind_er, bind_no, b_add, b_sub, i_t0, i_t1, c_lt, c_le, c_gt, c_ge, c_eq, c_ne, t_bl, get0, gets, List.length_cons, List.length_nil, List.map_cons, List.map_nil, List.replicate, List.cons_append, List.nil_append, List.set_cons_zero, List.set_cons_succ, List.append_nil, if_true, if_false, Nat.reduceAdd, Nat.reduceSub, Nat.sub_self, Nat.zero_add, reduceIte, Bool.false_eq_true, bgcd, babs, fits, Nat.reduceLeDiff, decide_true, decide_false, Bool.not_true, Bool.not_false, *]))
/-! ### numbers -/
def Lt2 (e : Nat) (i : Int) : Prop := i.natAbs < 2 ^ e
theorem Lt2.mono {e f : Nat} {i : Int} (h : Lt2 e i) (l : e ≤ f) : Lt2 f i := Nat.lt_of_lt_of_le h (Nat.pow_le_pow_right (by decide) l)
theorem Lt2.mul {e f : Nat} {i j : Int} (h : Lt2 e i) (g : Lt2 f j) : Lt2 (e + f) (i * j) := by
  unfold Lt2 at *
  rw [Int.natAbs_mul, Nat.pow_add]
  exact Nat.mul_lt_mul'' h g
theorem Lt2.add {e : Nat} {i j : Int} (h : Lt2 e i) (g : Lt2 e j) : Lt2 (e + 1) (i + j) := by
  unfold Lt2 at *
  have := Int.natAbs_add_le i j
  rw [Nat.pow_succ]
  omega
theorem Lt2.neg {e : Nat} {i : Int} (h : Lt2 e i) : Lt2 e (-i) := by
  unfold Lt2 at *
  rwa [Int.natAbs_neg]
theorem Lt2.log {e : Nat} {i : Int} (h : Lt2 e i) : i.natAbs.log2 < e ∨ i.natAbs = 0 := by
  by_cases z : i.natAbs = 0
  · exact .inr z
  · exact .inl ((Nat.log2_lt z).mpr h)
theorem Lt2.log' {e : Nat} {i : Int} (h : Lt2 e i) (he : 0 < e) : i.natAbs.log2 < e := by
  rcases h.log with h | h
  · exact h
  · rw [h, Nat.log2_zero]; exact he
theorem mulOk_of {e f : Nat} {i j : Int} (h : Lt2 e i) (g : Lt2 f j) (he : 0 < e) (hf : 0 < f) (l : e + f < 1000000) : mulOk i j = true := by
  have a := h.log' he
  have b := g.log' hf
  unfold mulOk
  simp only [Bool.or_eq_true, decide_eq_true_eq]
  left; left
  omega
theorem mulOk_small {i j : Int} (h : -(2 ^ 64) < j) (g : j < 2 ^ 64) : mulOk i j = true := by
  unfold mulOk
  simp only [Bool.or_eq_true, Bool.and_eq_true, decide_eq_true_eq]
  exact .inr ⟨h, g⟩
/-! ### fair -/
def sgn (t b : Int) : Int := if 0 < b then (Nat.gcd t.natAbs b.natAbs : Nat) else -((Nat.gcd t.natAbs b.natAbs : Nat) : Int)
def fr (t b : Int) : D := .tup [.int (t.fdiv (sgn t b)), .int (b.fdiv (sgn t b))]
theorem gcd_pos' {t b : Int} (hb : b ≠ 0) : 0 < Nat.gcd t.natAbs b.natAbs := Nat.gcd_pos_of_pos_right _ (Int.natAbs_pos.mpr hb)
theorem sgn_ne {t b : Int} (hb : b ≠ 0) : sgn t b ≠ 0 := by
  have := gcd_pos' (t := t) hb
  unfold sgn
  split <;> omega
theorem gcd_lt {e : Nat} {t b : Int} (hb : b ≠ 0) (h : Lt2 e b) : Lt2 e ((Nat.gcd t.natAbs b.natAbs : Nat) : Int) := by
  unfold Lt2 at *
  exact Nat.lt_of_le_of_lt (Nat.gcd_le_right _ (Int.natAbs_pos.mpr hb)) h
theorem sgn_lt {e : Nat} {t b : Int} (hb : b ≠ 0) (h : Lt2 e b) : Lt2 e (sgn t b) := by
  unfold sgn
  split
  · exact gcd_lt hb h
  · exact (gcd_lt hb h).neg
theorem r_fair {e : Nat} (k : Nat) (μ : Mem) (t b : Int) (hb : b ≠ 0) (h : Lt2 e b) (he : e < 9000) : run M 0 (k + 1) "fair" [.int t, .int b] μ = .ok (fr t b) μ := by
  have hat : M.at_ "fair" = some t_fair.fn := by rfl
  have l : (sgn t b).natAbs.log2 < 9000 := by
    rcases (sgn_lt (t := t) hb h).log with z | z
    · omega
    · exact absurd (Int.natAbs_eq_zero.mp z) (sgn_ne hb)
  have d1 := @b_div μ t (sgn t b) (sgn_ne hb) l
  have d2 := @b_div μ b (sgn t b) (sgn_ne hb) l
  clear l
  simp only [t_fair, c_fair] at hat
  by_cases c : 0 < b
  · have e1 : sgn t b = (Nat.gcd t.natAbs b.natAbs : Nat) := if_pos c
    unfold fr
    rw [e1] at d1 d2 ⊢
    walk_at "den"
  · have e1 : sgn t b = -((Nat.gcd t.natAbs b.natAbs : Nat) : Int) := if_neg c
    unfold fr
    rw [e1] at d1 d2 ⊢
    walk_at "den"
/-! ### portions -/
structure Po (p q : Int) : Prop where
  one : 1 ≤ q
  top : q ≤ 10 ^ 60
  lo : -(10 ^ 60) ≤ p
  hi : p ≤ 10 ^ 60
  gcd : Nat.gcd p.natAbs q.natAbs = 1
def po (p q : Int) : D := .tup [.int p, .int q]
theorem lt2_big {i : Int} (h : -(10 ^ 60) ≤ i) (g : i ≤ 10 ^ 60) : Lt2 200 i := by
  unfold Lt2
  have : (10 : Nat) ^ 60 < 2 ^ 200 := by decide
  omega
theorem Po.p {p q : Int} (h : Po p q) : Lt2 200 p := lt2_big h.lo h.hi
theorem Po.q {p q : Int} (h : Po p q) : Lt2 200 q := lt2_big (by have := h.one; omega) h.top
theorem r_is_whole (k : Nat) (μ : Mem) (v lo hi : Int) (h1 : lo ≤ v) (h2 : v ≤ hi) : run M 0 (k + 1) "is_whole" [.int v, .int lo, .int hi] μ = .ok (.bl true) μ := by
  have hat : M.at_ "is_whole" = some t_is_whole.fn := by rfl
  simp only [t_is_whole, c_is_whole] at hat
  walk_at "den"
  simp [isTy, tru, truB, bind_ok]
theorem g_great (k : Nat) : (gAt M 0 k).con "GREAT" = some (.int (10 ^ 60)) := rfl
theorem r_is_tuple (k : Nat) (μ : Mem) (a b : D) : run M 0 (k + 1) "is_tuple_of" [.tup [a, b], .int 2, .int 2] μ = .ok (.bl true) μ := by rw [run_succ]; rfl
theorem r_is_portion (k : Nat) (μ : Mem) (p q : Int) (h : Po p q) : run M 0 (k + 2) "is_portion" [po p q] μ = .ok (.bl true) μ := by
  have hat : M.at_ "is_portion" = some t_is_portion.fn := by rfl
  simp only [t_is_portion, c_is_portion] at hat
  have e1 := r_is_tuple k μ (.int p) (.int q)
  have e2 := r_is_whole k μ p (-(10 ^ 60)) (10 ^ 60) h.lo h.hi
  have e3 := r_is_whole k μ q 1 (10 ^ 60) h.one h.top
  have e4 := h.gcd
  unfold po
  rw [run_succ]
  simp only [callM, runB, FT.fn, startD, evS, evE, evT, bind_ok, get0, gets, gcal, g_great, hat]
  simp only [List.length_cons, List.length_nil, List.map_cons, List.map_nil, List.replicate, List.cons_append, List.nil_append, List.append_nil, Nat.reduceAdd, Nat.reduceSub, Nat.sub_self, get0, gets, bind_ok, if_true, e1, i_t0, i_t1, e2, e3, t_bl, Bool.not_true, Bool.false_eq_true, if_false, bgcd, e4]
  rfl
theorem r_need_portion (k : Nat) (μ : Mem) (p q : Int) (h : Po p q) : run M 0 (k + 3) "need_portion" [po p q] μ = .ok .non μ := by
  have hat : M.at_ "need_portion" = some t_need_portion.fn := by rfl
  simp only [t_need_portion, c_need_portion] at hat
  have e1 := r_is_portion k μ p q h
  rw [run_succ]
  simp only [callM, runB, FT.fn, startD, evS, evE, evT, bind_ok, get0, gets, gcal, g_great, hat]
  simp only [List.length_cons, List.length_nil, List.map_cons, List.map_nil, List.replicate, List.cons_append, List.nil_append, List.append_nil, Nat.reduceAdd, Nat.reduceSub, Nat.sub_self, get0, gets, bind_ok, if_true, e1, t_bl, Bool.not_true, Bool.false_eq_true, if_false]
theorem r_plus (k : Nat) (μ : Mem) (a b c d : Int) (h1 : Po a b) (h2 : Po c d) : run M 0 (k + 2) "plus" [po a b, po c d] μ = .ok (fr (a * d + c * b) (b * d)) μ := by
  have hat : M.at_ "plus" = some t_plus.fn := by rfl
  simp only [t_plus, c_plus] at hat
  have n1 : b * d ≠ 0 := by
    have := h1.one
    have := h2.one
    exact Int.mul_ne_zero (by omega) (by omega)
  have e1 := @b_mul μ a d (mulOk_of h1.p h2.q (by decide) (by decide) (by decide))
  have e2 := @b_mul μ c b (mulOk_of h2.p h1.q (by decide) (by decide) (by decide))
  have e3 := @b_mul μ b d (mulOk_of h1.q h2.q (by decide) (by decide) (by decide))
  have e4 := r_fair k μ (a * d + c * b) (b * d) n1 (h1.q.mul h2.q) (by decide)
  clear h1 h2 n1
  unfold po
  walk_at "fun"
theorem r_times (k : Nat) (μ : Mem) (a b c d : Int) (h1 : Po a b) (h2 : Po c d) : run M 0 (k + 2) "times" [po a b, po c d] μ = .ok (fr (a * c) (b * d)) μ := by
  have hat : M.at_ "times" = some t_times.fn := by rfl
  simp only [t_times, c_times] at hat
  have n1 : b * d ≠ 0 := by
    have := h1.one
    have := h2.one
    exact Int.mul_ne_zero (by omega) (by omega)
  have e1 := @b_mul μ a c (mulOk_of h1.p h2.p (by decide) (by decide) (by decide))
  have e3 := @b_mul μ b d (mulOk_of h1.q h2.q (by decide) (by decide) (by decide))
  have e4 := r_fair k μ (a * c) (b * d) n1 (h1.q.mul h2.q) (by decide)
  clear h1 h2 n1
  unfold po
  walk_at "fun"
theorem r_sum (k : Nat) (μ : Mem) (a b c d : Int) (h1 : Po a b) (h2 : Po c d) : run M 0 (k + 4) "portion_sum" [po a b, po c d] μ = .ok (fr (a * d + c * b) (b * d)) μ := by
  have hat : M.at_ "portion_sum" = some t_portion_sum.fn := by rfl
  simp only [t_portion_sum, c_portion_sum] at hat
  have e1 := r_need_portion k μ a b h1
  have e2 := r_need_portion k μ c d h2
  have e3 := r_plus (k + 1) μ a b c d h1 h2
  walk_at "fun"
theorem r_product (k : Nat) (μ : Mem) (a b c d : Int) (h1 : Po a b) (h2 : Po c d) : run M 0 (k + 4) "portion_product" [po a b, po c d] μ = .ok (fr (a * c) (b * d)) μ := by
  have hat : M.at_ "portion_product" = some t_portion_product.fn := by rfl
  simp only [t_portion_product, c_portion_product] at hat
  have e1 := r_need_portion k μ a b h1
  have e2 := r_need_portion k μ c d h2
  have e3 := r_times (k + 1) μ a b c d h1 h2
  walk_at "fun"
theorem r_more (k : Nat) (μ : Mem) (a b c d : Int) (h1 : Po a b) (h2 : Po c d) : run M 0 (k + 4) "is_more" [po a b, po c d] μ = .ok (.bl (decide (0 < a * d - c * b))) μ := by
  have hat : M.at_ "is_more" = some t_is_more.fn := by rfl
  simp only [t_is_more, c_is_more] at hat
  have e1 := r_need_portion k μ a b h1
  have e2 := r_need_portion k μ c d h2
  have e3 : run M 0 (k + 3) "lead" [po a b, po c d] μ = .ok (.int (a * d - c * b)) μ := by
    have hat : M.at_ "lead" = some t_lead.fn := by rfl
    simp only [t_lead, c_lead] at hat
    have e1 := @b_mul μ a d (mulOk_of h1.p h2.q (by decide) (by decide) (by decide))
    have e2 := @b_mul μ c b (mulOk_of h2.p h1.q (by decide) (by decide) (by decide))
    clear h1 h2
    unfold po
    walk_at "fun"
  walk_at "fun"
theorem r_by (k : Nat) (μ : Mem) (a b c d : Int) (h1 : Po a b) (h2 : Po c d) (hc : c ≠ 0) : run M 0 (k + 4) "portion_by" [po a b, po c d] μ = .ok (fr (a * d) (b * c)) μ := by
  have hat : M.at_ "portion_by" = some t_portion_by.fn := by rfl
  simp only [t_portion_by, c_portion_by] at hat
  have n1 : b * c ≠ 0 := by
    have := h1.one
    exact Int.mul_ne_zero (by omega) hc
  have e1 := r_need_portion k μ a b h1
  have e2 := r_need_portion k μ c d h2
  have e3 := @b_mul μ a d (mulOk_of h1.p h2.q (by decide) (by decide) (by decide))
  have e4 := @b_mul μ b c (mulOk_of h1.q h2.p (by decide) (by decide) (by decide))
  have e5 := r_fair (k + 2) μ (a * d) (b * c) n1 (h1.q.mul h2.p) (by decide)
  have e6 : (c == 0) = false := by simpa using hc
  unfold po at e1 e2 ⊢
  clear h1 h2 n1 hc
  walk_at "fun"
theorem r_by0 (k : Nat) (μ : Mem) (a b d : Int) (h1 : Po a b) (h2 : Po 0 d) : run M 0 (k + 4) "portion_by" [po a b, po 0 d] μ = .er ⟨"NotFound", []⟩ μ := by
  have hat : M.at_ "portion_by" = some t_portion_by.fn := by rfl
  simp only [t_portion_by, c_portion_by] at hat
  have e1 := r_need_portion k μ a b h1
  have e2 := r_need_portion k μ 0 d h2
  have e6 : ((0 : Int) == 0) = true := rfl
  unfold po at e1 e2 ⊢
  clear h1 h2
  walk_at "fun"
end Law_k00

namespace Law_k00
open PySem PySem.Spec PyProof.Rows L2 Den
local macro_rules | `(tactic| walk_at "den") => `(tactic| simp only [run_succ, callM, runB, FT.fn, startD, evS, evE, evT, bind_ok, bind_er, bind_no, b_add, b_sub, i_t0, i_t1, c_lt, c_le, c_gt, c_ge, c_eq, c_ne, t_bl, get0, gets, List.length_cons, List.length_nil, List.map_cons, List.map_nil, List.replicate, List.cons_append, List.nil_append, List.set_cons_zero, List.set_cons_succ, List.append_nil, if_true, if_false, Nat.reduceAdd, Nat.reduceSub, Nat.zero_add, reduceIte, Bool.false_eq_true, bgcd, babs, fits, Nat.reduceLeDiff, decide_true, decide_false, Bool.not_true, Bool.not_false, *])
local macro_rules | `(tactic| walk_at "fun") => `(tactic| (rw [run_succ]; simp only [callM, runB, FT.fn, startD, evS, evE, evT, gcal, bind_ok, bind_er, bind_no, b_add, b_sub, i_t0, i_t1, c_lt, c_le, c_gt, c_ge, c_eq, c_ne, t_bl, get0, gets, List.length_cons, List.length_nil, List.map_cons, List.map_nil, List.replicate, List.cons_append, List.nil_append, List.set_cons_zero, List.set_cons_succ, List.append_nil, if_true, if_false, Nat.reduceAdd, Nat.reduceSub, Nat.sub_self, Nat.zero_add, reduceIte, Bool.false_eq_true, bgcd, babs, fits, Nat.reduceLeDiff, decide_true, decide_false, Bool.not_true, Bool.not_false, *]))
/-! ### Euclid -/
def divB : S := .cons (.ife (.cmp .Eq (.var 1) (.num 0)) (.cons (.ret (.var 0)) .nil) .nil) (.cons (.par 0 1 (.var 1) (.bin .Mod (.var 0) (.var 1))) .nil)
def divT (k : Nat) : D → DEnv → Mem → R Fl := fun d ρ μ => match asg (.nm 2) d ρ with
  | some ρ' => evS (gAt M 0 k) divB ρ' μ
  | none => .no
theorem div_turn (k : Nat) (μ : Mem) (a b : Nat) (x : Option D) (d : D) : divT k d [some (.int a), some (.int b), x] μ = if b = 0 then .ok (.rt (.int a)) μ else .ok (.nx [some (.int b), some (.int ((a % b : Nat) : Int)), some d]) μ := by
  by_cases hb : b = 0
  · subst hb
    rw [if_pos rfl]
    rfl
  · rw [if_neg hb]
    have e0 : (((b : Int) == 0)) = false := by simpa using hb
    have e1 := @b_mod μ (a : Int) (b : Int) (by omega)
    have e2 : ((a : Int)).fmod (b : Int) = ((a % b : Nat) : Int) := by
      rw [Int.fmod_eq_emod_of_nonneg _ (by omega)]
      rfl
    rw [e2] at e1
    unfold divT divB
    simp only [asg, evS, evE, evT, List.set_cons_zero, List.set_cons_succ, get0, gets, bind_ok, c_eq, e0, t_bl, Bool.false_eq_true, if_false, e1]
theorem div_loop (k : Nat) (μ : Mem) : ∀ (m : Nat) (l : List D) (a b : Nat) (x : Option D), b < 2 ^ m → 2 * m + 1 ≤ l.length → forL (divT k) l [some (.int a), some (.int b), x] μ = .ok (.rt (.int (Nat.gcd a b : Nat))) μ
  | 0, d :: l, a, b, x, hb, hl => by
    have : b = 0 := by simpa using hb
    subst this
    simp only [forL, div_turn, if_true, bind_ok, Nat.gcd_zero_right]
  | m + 1, [], a, b, x, hb, hl => by simp at hl
  | m + 1, [_], a, b, x, hb, hl => by simp at hl
  | m + 1, d :: d' :: l, a, b, x, hb, hl => by
    simp only [forL, div_turn]
    by_cases hz : b = 0
    · subst hz
      simp only [if_true, bind_ok, Nat.gcd_zero_right]
    · simp only [hz, if_false, bind_ok, div_turn]
      by_cases hr : a % b = 0
      · simp only [hr, if_true, bind_ok]
        have : Nat.gcd a b = b := by
          rw [Nat.gcd_comm, Nat.gcd_rec, hr, Nat.gcd_zero_left]
        rw [this]
      · simp only [hr, if_false, bind_ok]
        have lt : a % b < b := Nat.mod_lt _ (Nat.pos_of_ne_zero hz)
        have half : b % (a % b) < 2 ^ m := by
          have p : 0 < a % b := Nat.pos_of_ne_zero hr
          have q : b % (a % b) < a % b := Nat.mod_lt _ p
          have r : b % (a % b) + (a % b) ≤ b := by
            have := Nat.div_add_mod b (a % b)
            have h1 : 1 ≤ b / (a % b) := Nat.div_pos (Nat.le_of_lt lt) p
            have h2 : (a % b) * 1 ≤ (a % b) * (b / (a % b)) := Nat.mul_le_mul_left _ h1
            omega
          rw [Nat.pow_succ] at hb
          omega
        have := div_loop k μ m l (a % b) (b % (a % b)) (some d') half (by simp at hl; omega)
        rw [this]
        have e : Nat.gcd a b = Nat.gcd (a % b) (b % (a % b)) := ((Nat.gcd_comm a b).trans (Nat.gcd_rec b a)).trans ((Nat.gcd_rec (a % b) b).trans (Nat.gcd_comm _ _))
        rw [e]
theorem r_divisor (k : Nat) (μ : Mem) (a b : Nat) (hb : b < 2 ^ 590) : run M 0 (k + 1) "_law_divisor" [.int a, .int b] μ = .ok (.int (Nat.gcd a b : Nat)) μ := by
  have hat : M.at_ "_law_divisor" = some t__law_divisor.fn := by rfl
  have hl := div_loop k μ 590 (rngL 0 1200) a b none hb (by rw [rngL_length]; decide)
  have e : evS (gAt M 0 k) (.for (.nm 2) (.rng1 (.num 1200)) divB) [some (.int a), some (.int b), none] μ = forL (divT k) (rngL 0 1200) [some (.int a), some (.int b), none] μ := rfl
  have ec : c__law_divisor = .cons (.for (.nm 2) (.rng1 (.num 1200)) divB) (.cons (.ret (.var 0)) .nil) := rfl
  rw [hl] at e
  simp only [t__law_divisor, ec] at hat
  rw [run_succ]
  simp only [callM, hat, runB, FT.fn, startD, List.length_cons, List.length_nil, List.map_cons, List.map_nil, Nat.reduceAdd, Nat.reduceSub, List.replicate, List.cons_append, List.nil_append, if_true]
  have e2 : evS (gAt M 0 k) (.cons (.for (.nm 2) (.rng1 (.num 1200)) divB) (.cons (.ret (.var 0)) .nil)) [some (.int a), some (.int b), none] μ = .ok (.rt (.int (Nat.gcd a b : Nat))) μ := by
    show (evS (gAt M 0 k) (.for (.nm 2) (.rng1 (.num 1200)) divB) [some (.int a), some (.int b), none] μ).bind _ = _
    rw [e]
    rfl
  rw [e2]
  rfl
theorem r_plain {e : Nat} (k : Nat) (μ : Mem) (t b : Int) (hb : b ≠ 0) (h : Lt2 e b) (he : e ≤ 590) : run M 0 (k + 2) "_law_plain" [.int t, .int b] μ = .ok (fr t b) μ := by
  have hat : M.at_ "_law_plain" = some t__law_plain.fn := by rfl
  have l : (sgn t b).natAbs.log2 < 9000 := by
    rcases (sgn_lt (t := t) hb h).log with z | z
    · omega
    · exact absurd (Int.natAbs_eq_zero.mp z) (sgn_ne hb)
  have d1 := @b_div μ t (sgn t b) (sgn_ne hb) l
  have d2 := @b_div μ b (sgn t b) (sgn_ne hb) l
  have ab : ∀ x : Int, (if x < 0 then -x else x) = ((x.natAbs : Nat) : Int) := fun x => by split <;> omega
  have dv := r_divisor k μ t.natAbs b.natAbs (Nat.lt_of_lt_of_le h (Nat.pow_le_pow_right (by decide) he))
  clear l
  simp only [t__law_plain, c__law_plain] at hat
  by_cases c : 0 < b
  · have e1 : sgn t b = (Nat.gcd t.natAbs b.natAbs : Nat) := if_pos c
    unfold fr
    rw [e1] at d1 d2 ⊢
    walk_at "fun"
  · have e1 : sgn t b = -((Nat.gcd t.natAbs b.natAbs : Nat) : Int) := if_neg c
    unfold fr
    rw [e1] at d1 d2 ⊢
    walk_at "fun"
end Law_k00

namespace Law_k00
open PySem PySem.Spec PyProof.Rows L2 Den
/-! ### the cup -/
def cupM (a b : Int) : Mem := [some (.lst [.int a, .int b])]
theorem i_c0 {a b : Int} : idxD (.cel 0) (.int 0) (cupM a b) = .ok (.int a) (cupM a b) := rfl
theorem i_c1 {a b : Int} : idxD (.cel 0) (.int 1) (cupM a b) = .ok (.int b) (cupM a b) := rfl
theorem s_c0 {a b x : Int} : subD (.cel 0) (.int 0) (.int x) (cupM a b) = .ok () (cupM x b) := rfl
theorem s_c1 {a b x : Int} : subD (.cel 0) (.int 1) (.int x) (cupM a b) = .ok () (cupM a x) := rfl
theorem bint {a : Int} {μ : Mem} : bifD .int [.int a] μ = .ok (.int a) μ := rfl
local macro_rules | `(tactic| walk_at "fun") => `(tactic| (rw [run_succ]; simp only [callM, runB, FT.fn, startD, evS, evE, evT, gcal, bind_ok, bind_er, bind_no, b_add, b_sub, i_t0, i_t1, c_lt, c_le, c_gt, c_ge, c_eq, c_ne, t_bl, get0, gets, List.length_cons, List.length_nil, List.map_cons, List.map_nil, List.replicate, List.cons_append, List.nil_append, List.set_cons_zero, List.set_cons_succ, List.append_nil, if_true, if_false, Nat.reduceAdd, Nat.reduceSub, Nat.sub_self, Nat.zero_add, reduceIte, Bool.false_eq_true, bgcd, babs, fits, Nat.reduceLeDiff, decide_true, decide_false, Bool.not_true, Bool.not_false, i_c0, i_c1, s_c0, s_c1, bint, *]))
/-- a cup in order -/
def Cup (μ : Mem) : Prop := ∃ a b : Int, μ = cupM a b ∧ 0 ≤ a ∧ 0 ≤ b ∧ b < 2 ^ 31
theorem fmod_in {a m : Int} (h : 0 < m) : 0 ≤ a.fmod m ∧ a.fmod m < m := by
  rw [Int.fmod_eq_emod_of_nonneg _ (by omega)]
  exact ⟨Int.emod_nonneg _ (by omega), Int.emod_lt_of_pos _ h⟩
theorem fdiv_nn {a m : Int} (h : 0 ≤ a) (g : 0 < m) : 0 ≤ a.fdiv m := by
  rw [Int.fdiv_eq_ediv_of_nonneg _ (by omega)]
  exact Int.ediv_nonneg h (by omega)
theorem r_roll {e : Nat} (k : Nat) (μ : Mem) (hμ : Cup μ) (m : Int) (hm : 0 < m) (hl : Lt2 e m) (he : e < 9000) :
    ∃ v μ', 0 ≤ v ∧ v < m ∧ Cup μ' ∧ run M 0 (k + 1) "_law_roll" [.cel 0, .int m] μ = .ok (.int v) μ' := by
  obtain ⟨a, b, rfl, ha, hb, hb2⟩ := hμ
  have hat : M.at_ "_law_roll" = some t__law_roll.fn := by rfl
  simp only [t__law_roll, c__law_roll] at hat
  have m0 : m ≠ 0 := by omega
  have lm : m.natAbs.log2 < 9000 := by
    rcases hl.log with z | z
    · omega
    · omega
  by_cases c : 0 < a
  · have e1 := @b_mod (cupM a b) a m m0
    have e2 := @b_div (cupM a b) a m m0 lm
    refine ⟨a.fmod m, cupM (a.fdiv m) b, (fmod_in hm).1, (fmod_in hm).2, ⟨_, b, rfl, fdiv_nn ha hm, hb, hb2⟩, ?_⟩
    clear hm hl lm ha hb hb2 m0
    walk_at "fun"
  · have e1 := @b_mul (cupM a b) b 29629 (mulOk_small (by decide) (by decide))
    have e2 := @b_mod (cupM a b) (b * 29629 + 9403) 2147483543 (by decide)
    have q := fmod_in (a := b * 29629 + 9403) (m := 2147483543) (by decide)
    generalize (b * 29629 + 9403).fmod 2147483543 = b' at e2 q
    have e3 := @b_mul (cupM a b') b' (b' + 317) (mulOk_small (by omega) (by omega))
    have e4 := @b_mod (cupM a b') (b' * (b' + 317)) 2147483587 (by decide)
    have e5 := @b_div (cupM a b') ((b' * (b' + 317)).fmod 2147483587) 919 (by decide) (by decide)
    have e6 := @b_mod (cupM a b') (((b' * (b' + 317)).fmod 2147483587).fdiv 919) m m0
    refine ⟨(((b' * (b' + 317)).fmod 2147483587).fdiv 919).fmod m, cupM a b', (fmod_in hm).1, (fmod_in hm).2, ⟨a, b', rfl, ha, q.1, by omega⟩, ?_⟩
    clear hm hl lm ha hb hb2 m0 q
    walk_at "fun"
end Law_k00

namespace Law_k00
open PySem PySem.Spec PyProof.Rows L2 Den
theorem blen {xs : List D} {μ : Mem} : bifD .len [.lst xs] μ = .ok (.int xs.length) μ := rfl
theorem i_lst {xs : List D} {v : Int} {μ : Mem} (h0 : 0 ≤ v) (h : v.toNat < xs.length) : idxD (.lst xs) (.int v) μ = .ok xs[v.toNat] μ := by
  have h1 : v < (xs.length : Int) := by omega
  simp [idxD, asSeq, asLst, atI, ixN, h0, h1, List.getElem?_eq_getElem h]
theorem p18 {μ : Mem} : binD .Pow (.int 10) (.int 18) μ = .ok (.int (10 ^ 18)) μ := rfl
theorem p9 {μ : Mem} : binD .Pow (.int 10) (.int 9) μ = .ok (.int (10 ^ 9)) μ := rfl
theorem p12 {μ : Mem} : binD .Pow (.int 10) (.int 12) μ = .ok (.int (10 ^ 12)) μ := rfl
theorem p60 {μ : Mem} : binD .Pow (.int 10) (.int 60) μ = .ok (.int (10 ^ 60)) μ := rfl
local macro_rules | `(tactic| walk_at "fun") => `(tactic| (rw [run_succ]; simp only [callM, runB, FT.fn, startD, evS, evE, evT, gcal, bind_ok, bind_er, bind_no, b_add, b_sub, i_t0, i_t1, c_lt, c_le, c_gt, c_ge, c_eq, c_ne, t_bl, get0, gets, List.length_cons, List.length_nil, List.map_cons, List.map_nil, List.replicate, List.cons_append, List.nil_append, List.set_cons_zero, List.set_cons_succ, List.append_nil, if_true, if_false, Nat.reduceAdd, Nat.reduceSub, Nat.sub_self, Nat.zero_add, reduceIte, Bool.false_eq_true, bgcd, babs, fits, Nat.reduceLeDiff, decide_true, decide_false, Bool.not_true, Bool.not_false, i_c0, i_c1, s_c0, s_c1, bint, blen, p18, p9, p12, p60, *]))
theorem r_some (k : Nat) (μ : Mem) (hμ : Cup μ) (xs : List D) (hx : 0 < xs.length) (hl : xs.length < 1000) :
    ∃ (i : Nat) (μ' : Mem) (h : i < xs.length), Cup μ' ∧ run M 0 (k + 2) "_law_some" [.cel 0, .lst xs] μ = .ok xs[i] μ' := by
  have hat : M.at_ "_law_some" = some t__law_some.fn := by rfl
  simp only [t__law_some, c__law_some] at hat
  have hx2 : Lt2 100 (xs.length : Int) := by
    unfold Lt2
    have : (1000 : Nat) < 2 ^ 100 := by decide
    omega
  obtain ⟨v, μ', h0, h1, hc, e1⟩ := r_roll (e := 100) k μ hμ (xs.length : Int) (by omega) hx2 (by decide)
  clear hx2
  have hv : v.toNat < xs.length := by omega
  refine ⟨v.toNat, μ', hv, hc, ?_⟩
  have e2 := @i_lst xs v μ' h0 hv
  clear hx hl h0 h1 hc
  walk_at "fun"
def greatB : S := match c__law_great with
  | .cons _ (.cons (.for _ _ b) _) => b
  | _ => .nil
def greatT (k : Nat) : D → DEnv → Mem → R Fl := fun d ρ μ => match asg (.nm 3) d ρ with
  | some ρ' => evS (gAt M 0 k) greatB ρ' μ
  | none => .no
theorem great_turn (k : Nat) (μ : Mem) (hμ : Cup μ) (s f : Int) (x : Option D) (d : D) (hs : 0 ≤ s) (hs2 : s ≤ 10 ^ 60) :
    ∃ f' μ', 0 ≤ f' ∧ f' ≤ s ∧ Cup μ' ∧ greatT (k + 1) d [some (.cel 0), some (.int s), some (.int f), x] μ = .ok (.nx [some (.cel 0), some (.int s), some (.int f'), some d]) μ' := by
  obtain ⟨v1, μ1, a0, a1, hc1, e1⟩ := r_roll (e := 100) k μ hμ (10 ^ 9) (by decide) (by unfold Lt2; decide) (by decide)
  obtain ⟨v2, μ2, b0, b1, hc2, e2⟩ := r_roll (e := 100) k μ1 hc1 (10 ^ 9) (by decide) (by unfold Lt2; decide) (by decide)
  have e3 := @b_mul μ f (10 ^ 18) (mulOk_small (by decide) (by decide))
  have e4 := @b_mul μ1 v1 (10 ^ 9) (mulOk_small (by decide) (by decide))
  have e5 := @b_mod μ2 (f * 10 ^ 18 + v1 * 10 ^ 9 + v2) (s + 1) (by omega)
  have q := fmod_in (a := f * 10 ^ 18 + v1 * 10 ^ 9 + v2) (m := s + 1) (by omega)
  refine ⟨(f * 10 ^ 18 + v1 * 10 ^ 9 + v2).fmod (s + 1), μ2, q.1, by omega, hc2, ?_⟩
  have eb : greatB = (.cons (.set 2 (.bin .Mod (.bif .int (.cons (.bin .Add (.bin .Add (.bin .Mult (.var 2) (.bin .Pow (.num 10) (.num 18))) (.bin .Mult (.cal "_law_roll" (.cons (.var 0) (.cons (.bin .Pow (.num 10) (.num 9)) .nil))) (.bin .Pow (.num 10) (.num 9)))) (.cal "_law_roll" (.cons (.var 0) (.cons (.bin .Pow (.num 10) (.num 9)) .nil)))) .nil)) (.bin .Add (.var 1) (.num 1)))) .nil) := rfl
  clear a0 a1 b0 b1 hc1 hc2 q hs hs2 hμ
  unfold greatT
  rw [eb]
  simp only [asg, evS, evE, evT, gcal, List.set_cons_zero, List.set_cons_succ, get0, gets, bind_ok, p18, p9, e1, e2, e3, e4, e5, bint, b_add]
theorem great_loop (k : Nat) (s : Int) (hs : 0 ≤ s) (hs2 : s ≤ 10 ^ 60) : ∀ (l : List D) (μ : Mem) (f : Int) (x : Option D), Cup μ → 0 ≤ f → f ≤ s →
    ∃ f' x' μ', 0 ≤ f' ∧ f' ≤ s ∧ Cup μ' ∧ forL (greatT (k + 1)) l [some (.cel 0), some (.int s), some (.int f), x] μ = .ok (.nx [some (.cel 0), some (.int s), some (.int f'), x']) μ'
  | [], μ, f, x, hc, h0, h1 => ⟨f, x, μ, h0, h1, hc, rfl⟩
  | d :: l, μ, f, x, hc, h0, h1 => by
    obtain ⟨f1, μ1, g0, g1, hc1, e1⟩ := great_turn k μ hc s f x d hs hs2
    obtain ⟨f2, x2, μ2, q0, q1, hc2, e2⟩ := great_loop k s hs hs2 l μ1 f1 (some d) hc1 g0 g1
    exact ⟨f2, x2, μ2, q0, q1, hc2, by simp only [forL, e1, bind_ok, e2]⟩
theorem r_great (k : Nat) (μ : Mem) (hμ : Cup μ) (s : Int) (hs : 0 ≤ s) (hs2 : s ≤ 10 ^ 60) : ∃ f μ', 0 ≤ f ∧ f ≤ s ∧ Cup μ' ∧ run M 0 (k + 2) "_law_great" [.cel 0, .int s] μ = .ok (.int f) μ' := by
  have hat : M.at_ "_law_great" = some t__law_great.fn := by rfl
  obtain ⟨f, x, μ', h0, h1, hc, e⟩ := great_loop k s hs hs2 (rngL 0 4) μ 0 none hμ (by omega) hs
  refine ⟨f, μ', h0, h1, hc, ?_⟩
  have ec : c__law_great = .cons (.set 2 (.num 0)) (.cons (.for (.nm 3) (.rng1 (.num 4)) greatB) (.cons (.ret (.var 2)) .nil)) := rfl
  have e0 : evS (gAt M 0 (k + 1)) (.for (.nm 3) (.rng1 (.num 4)) greatB) [some (.cel 0), some (.int s), some (.int 0), none] μ = forL (greatT (k + 1)) (rngL 0 4) [some (.cel 0), some (.int s), some (.int 0), none] μ := rfl
  rw [e] at e0
  simp only [t__law_great, ec] at hat
  rw [run_succ]
  simp only [callM, hat, runB, FT.fn, startD, List.length_cons, List.length_nil, List.map_cons, List.map_nil, Nat.reduceAdd, Nat.reduceSub, List.replicate, List.cons_append, List.nil_append, if_true]
  have e2 : evS (gAt M 0 (k + 1)) (.cons (.set 2 (.num 0)) (.cons (.for (.nm 3) (.rng1 (.num 4)) greatB) (.cons (.ret (.var 2)) .nil))) [some (.cel 0), some (.int s), none, none] μ = .ok (.rt (.int f)) μ' := by
    show (evS (gAt M 0 (k + 1)) (.for (.nm 3) (.rng1 (.num 4)) greatB) [some (.cel 0), some (.int s), some (.int 0), none] μ).bind _ = _
    rw [e0]
    rfl
  rw [e2]
  rfl
theorem fr_po {t b : Int} (h1 : 1 ≤ b) (h2 : b ≤ 10 ^ 60) (h3 : -(10 ^ 60) ≤ t) (h4 : t ≤ 10 ^ 60) : ∃ p q, Po p q ∧ fr t b = po p q := by
  have e : sgn t b = ((Nat.gcd t.natAbs b.natAbs : Nat) : Int) := if_pos (by omega)
  have g0 := gcd_pos' (t := t) (b := b) (by omega)
  refine ⟨t.fdiv (sgn t b), b.fdiv (sgn t b), ?_, rfl⟩
  rw [e]
  generalize hg : Nat.gcd t.natAbs b.natAbs = g at g0
  have dt : (g : Int) ∣ t := by rw [← hg]; exact Int.ofNat_dvd_left.mpr (Nat.gcd_dvd_left _ _)
  have db : (g : Int) ∣ b := by rw [← hg]; exact Int.ofNat_dvd_left.mpr (Nat.gcd_dvd_right _ _)
  obtain ⟨p, hp⟩ := dt
  obtain ⟨q, hq⟩ := db
  have gi : (1 : Int) ≤ g := by omega
  have ep : t.fdiv (g : Int) = p := by rw [hp]; exact Int.mul_fdiv_cancel_left _ (by omega)
  have eq : b.fdiv (g : Int) = q := by rw [hq]; exact Int.mul_fdiv_cancel_left _ (by omega)
  rw [ep, eq]
  have aq : 1 ≤ q := by
    rcases Int.lt_or_le q 1 with z | z
    · have : (g : Int) * q ≤ 0 := Int.mul_nonpos_of_nonneg_of_nonpos (by omega) (by omega)
      omega
    · exact z
  have lq : q ≤ (g : Int) * q := by
    have := Int.mul_le_mul_of_nonneg_right gi (by omega : (0 : Int) ≤ q)
    omega
  have ap : p.natAbs ≤ t.natAbs := by
    rw [hp, Int.natAbs_mul]
    exact Nat.le_mul_of_pos_left _ (by omega)
  refine ⟨aq, by omega, by omega, by omega, ?_⟩
  have hh : Nat.gcd (g * p.natAbs) (g * q.natAbs) = g := by
    have e1 : t.natAbs = g * p.natAbs := by rw [hp, Int.natAbs_mul]; rfl
    have e2 : b.natAbs = g * q.natAbs := by rw [hq, Int.natAbs_mul]; rfl
    rw [← e1, ← e2, hg]
  rw [Nat.gcd_mul_left] at hh
  exact Nat.eq_of_mul_eq_mul_left g0 (by omega)
end Law_k00

namespace Law_k00
open PySem PySem.Spec PyProof.Rows L2 Den
local macro_rules | `(tactic| walk_at "fun") => `(tactic| (rw [run_succ]; simp only [callM, runB, FT.fn, startD, evS, evE, evT, gcal, bind_ok, bind_er, bind_no, b_add, b_sub, i_t0, i_t1, c_lt, c_le, c_gt, c_ge, c_eq, c_ne, t_bl, get0, gets, List.length_cons, List.length_nil, List.map_cons, List.map_nil, List.replicate, List.cons_append, List.nil_append, List.set_cons_zero, List.set_cons_succ, List.append_nil, if_true, if_false, Nat.reduceAdd, Nat.reduceSub, Nat.sub_self, Nat.zero_add, reduceIte, Bool.false_eq_true, bgcd, babs, fits, Nat.reduceLeDiff, decide_true, decide_false, Bool.not_true, Bool.not_false, i_c0, i_c1, s_c0, s_c1, bint, blen, p18, p9, p12, p60, *]))
theorem r_lawportion (k : Nat) (μ : Mem) (hμ : Cup μ) : ∃ p q μ', Po p q ∧ Cup μ' ∧ run M 0 (k + 3) "_law_portion" [.cel 0] μ = .ok (po p q) μ' := by
  have hat : M.at_ "_law_portion" = some t__law_portion.fn := by rfl
  simp only [t__law_portion, c__law_portion] at hat
  obtain ⟨i, μ1, hi, hc1, e1⟩ := r_some k μ hμ [.int 1, .int 8, .int (10 ^ 12), .int (10 ^ 60)] (by decide) (by decide)
  have hs : ∃ s : Int, 1 ≤ s ∧ s ≤ 10 ^ 60 ∧ [D.int 1, .int 8, .int (10 ^ 12), .int (10 ^ 60)][i] = .int s := by
    match i, hi with
    | 0, _ => exact ⟨1, by decide, by decide, rfl⟩
    | 1, _ => exact ⟨8, by decide, by decide, rfl⟩
    | 2, _ => exact ⟨10 ^ 12, by decide, by decide, rfl⟩
    | 3, _ => exact ⟨10 ^ 60, by decide, by decide, rfl⟩
  obtain ⟨s, s1, s2, es⟩ := hs
  rw [es] at e1
  obtain ⟨f, μ2, f0, f1, hc2, e2⟩ := r_great k μ1 hc1 s (by omega) s2
  obtain ⟨j, μ3, hj, hc3, e3⟩ := r_some k μ2 hc2 [.int 1, .int (-1)] (by decide) (by decide)
  have hg : ∃ x : Int, (x = 1 ∨ x = -1) ∧ [D.int 1, .int (-1)][j] = .int x := by
    match j, hj with
    | 0, _ => exact ⟨1, .inl rfl, rfl⟩
    | 1, _ => exact ⟨-1, .inr rfl, rfl⟩
  obtain ⟨x, hx, ex⟩ := hg
  rw [ex] at e3
  obtain ⟨f', μ4, f2, f3, hc4, e4⟩ := r_great k μ3 hc3 (s - 1) (by omega) (by omega)
  have e5 := @b_mul μ3 f x (mulOk_small (by rcases hx with h | h <;> omega) (by rcases hx with h | h <;> omega))
  have hb : Lt2 200 (1 + f') := lt2_big (by omega) (by omega)
  have e6 := r_plain k μ4 (f * x) (1 + f') (by omega) hb (by decide)
  obtain ⟨p, q, hpo, efr⟩ := fr_po (t := f * x) (b := 1 + f') (by omega) (by omega) (by rcases hx with h | h <;> subst h <;> omega) (by rcases hx with h | h <;> subst h <;> omega)
  rw [efr] at e6
  refine ⟨p, q, μ4, hpo, hc4, ?_⟩
  have e7 : evE (gAt M 0 (k + 2)) (.neg (.num 1)) = fun _ μ => .ok (.int (-1)) μ := rfl
  clear hpo efr hb hc1 hc2 hc3 hc4 f0 f1 f2 f3 s1 s2 hμ es ex hx
  walk_at "fun"
theorem r_lawcup (k : Nat) (ns : List Int) (hl : ns.length ≤ 63) : ∃ μ', Cup μ' ∧ run M 0 (k + 1) "_law_cup" [.fls (ns.map .int)] [] = .ok (.cel 0) μ' := by
  have hat : M.at_ "_law_cup" = some t__law_cup.fn := by rfl
  simp only [t__law_cup, c__law_cup] at hat
  have e1 : bifD .list [.fls (ns.map .int)] [] = .ok (.lst (ns.map .int)) [] := rfl
  have e2 := @b_lst [] (ns.map .int) [.int 0] (by simp; omega)
  have e3 : ∃ x : Int, idxD (.lst (ns.map .int ++ [.int 0])) (.int 0) [] = .ok (.int x) [] := by
    cases ns with
    | nil => exact ⟨0, rfl⟩
    | cons n ns => exact ⟨n, by
        have := @i_lst (D.int n :: (ns.map .int ++ [.int 0])) 0 [] (by decide) (by simp)
        simpa using this⟩
  obtain ⟨x, e3⟩ := e3
  have e4 : (if x < 0 then -x else x) = ((x.natAbs : Nat) : Int) := by split <;> omega
  generalize hc : ((x.natAbs : Nat) : Int) = c at e4
  have c0 : 0 ≤ c := by omega
  have e5 := @b_mul [] c 389 (mulOk_small (by decide) (by decide))
  have e6 := @b_mod [] (c * 389 + 5717) 1944129511 (by decide)
  have q := fmod_in (a := c * 389 + 5717) (m := 1944129511) (by decide)
  have e7 := @b_div [] c 139 (by decide) (by decide)
  by_cases h : (10 : Int) ^ 18 ≤ c
  · refine ⟨cupM (c.fdiv 139) ((c * 389 + 5717).fmod 1944129511 + 241), ⟨_, _, rfl, fdiv_nn c0 (by decide), by omega, by omega⟩, ?_⟩
    clear hc c0 q hl
    walk_at "fun"
    rfl
  · refine ⟨cupM 0 ((c * 389 + 5717).fmod 1944129511 + 241), ⟨_, _, rfl, by decide, by omega, by omega⟩, ?_⟩
    clear hc c0 q hl
    walk_at "fun"
    rfl
end Law_k00

namespace Law_k00
open PySem PySem.Spec PyProof.Rows L2 Den
local macro_rules | `(tactic| walk_at "fun") => `(tactic| (rw [run_succ]; simp only [callM, runB, FT.fn, startD, evS, evE, evT, gcal, bind_ok, bind_er, bind_no, b_add, b_sub, i_t0, i_t1, c_lt, c_le, c_gt, c_ge, c_eq, c_ne, t_bl, get0, gets, List.length_cons, List.length_nil, List.map_cons, List.map_nil, List.replicate, List.cons_append, List.nil_append, List.set_cons_zero, List.set_cons_succ, List.append_nil, if_true, if_false, Nat.reduceAdd, Nat.reduceSub, Nat.sub_self, Nat.zero_add, reduceIte, Bool.false_eq_true, bgcd, babs, fits, Nat.reduceLeDiff, decide_true, decide_false, Bool.not_true, Bool.not_false, i_c0, i_c1, s_c0, s_c1, bint, blen, p18, p9, p12, p60, *]))
/-! ### like -/
def Lk : Nat → D → Prop
  | 0, d => (∃ i, d = .int i) ∨ ∃ b, d = .bl b
  | n + 1, d => ((∃ i, d = .int i) ∨ ∃ b, d = .bl b) ∨ ∃ xs, (d = .tup xs ∨ d = .lst xs) ∧ ∀ x ∈ xs, Lk n x
def likeC : C := .not (.cal "_law_like" (.cons (.var 3) (.cons (.var 4) .nil)))
theorem like_comp (k : Nat) (ρ : DEnv) (x0 x1 x2 : Option D) (μ : Mem) : ∀ (xs : List D), (∀ x ∈ xs, run M 0 k "_law_like" [x, x] μ = .ok (.bl true) μ) →
    compL (turnT (gAt M 0 k) (.cons (.nm 3) (.cons (.nm 4) .nil)) likeC (.num 1) [x0, x1, x2, none, none]) (pairL xs xs) [] μ = .ok [] μ
  | [], _ => rfl
  | x :: xs, h => by
    have e : turnT (gAt M 0 k) (.cons (.nm 3) (.cons (.nm 4) .nil)) likeC (.num 1) [x0, x1, x2, none, none] (.tup [x, x]) μ = .ok none μ := by
      have h0 := h x List.mem_cons_self
      unfold turnT likeC
      simp only [asg, Option.bind_some, List.set_cons_zero, List.set_cons_succ, turnD, evE, get0, gets, bind_ok, gcal, h0, t_bl, Bool.not_true, Bool.false_eq_true, if_false]
    have ih := like_comp k ρ x0 x1 x2 μ xs fun y hy => h y (List.mem_cons_of_mem _ hy)
    show (((turnT _ _ _ _ _ (.tup [x, x]) μ).calm).bind _) = _
    rw [e]
    exact ih
theorem s_int (k : Nat) (i : Int) (μ : Mem) : run M 0 (k + 1) "_law_sort" [.int i] μ = .ok (.int 2) μ := by rw [run_succ]; rfl
theorem s_bl (k : Nat) (i : Bool) (μ : Mem) : run M 0 (k + 1) "_law_sort" [.bl i] μ = .ok (.int 1) μ := by rw [run_succ]; rfl
theorem s_tup (k : Nat) (i : List D) (μ : Mem) : run M 0 (k + 1) "_law_sort" [.tup i] μ = .ok (.int 4) μ := by rw [run_succ]; rfl
theorem s_lst (k : Nat) (i : List D) (μ : Mem) : run M 0 (k + 1) "_law_sort" [.lst i] μ = .ok (.int 5) μ := by rw [run_succ]; rfl
theorem in2 {μ : Mem} : cmpD .In (.int 2) (.tup [.int 4, .int 5]) μ = .ok false μ := rfl
theorem in1 {μ : Mem} : cmpD .In (.int 1) (.tup [.int 4, .int 5]) μ = .ok false μ := rfl
theorem in4 {μ : Mem} : cmpD .In (.int 4) (.tup [.int 4, .int 5]) μ = .ok true μ := rfl
theorem in5 {μ : Mem} : cmpD .In (.int 5) (.tup [.int 4, .int 5]) μ = .ok true μ := rfl
theorem eqbl {b : Bool} {μ : Mem} : cmpD .Eq (.bl b) (.bl b) μ = .ok true μ := by cases b <;> rfl
theorem eqnil {μ : Mem} : cmpD .Eq (.lst []) (.lst []) μ = .ok true μ := rfl
theorem tlen {xs : List D} {μ : Mem} : bifD .len [.tup xs] μ = .ok (.int xs.length) μ := rfl
theorem r_like (k : Nat) (μ : Mem) : ∀ (n : Nat) (d : D), Lk n d → run M 0 (k + n + 2) "_law_like" [d, d] μ = .ok (.bl true) μ := by
  have hat : M.at_ "_law_like" = some t__law_like.fn := by rfl
  have flat : ∀ (j : Nat) (d : D), ((∃ i, d = .int i) ∨ ∃ b, d = .bl b) → run M 0 (j + 2) "_law_like" [d, d] μ = .ok (.bl true) μ := fun j d h => by
    simp only [t__law_like, c__law_like] at hat
    rcases h with ⟨i, rfl⟩ | ⟨b, rfl⟩
    · have e1 := s_int j i μ
      have e2 : (i == i) = true := by simp
      have e3 : ((2 : Int) == 2) = true := rfl
      have e4 : ((2 : Int) == 6) = false := rfl
      have e5 := @in2 μ
      walk_at "fun"
    · have e1 := s_bl j b μ
      have e3 : ((1 : Int) == 1) = true := rfl
      have e4 : ((1 : Int) == 6) = false := rfl
      have e5 := @in1 μ
      have e6 := @eqbl b μ
      walk_at "fun"
  intro n
  induction n with
  | zero => exact fun d h => flat k d h
  | succ n ih =>
    intro d h
    rcases h with h | ⟨xs, h, hx⟩
    · exact flat (k + (n + 1)) d h
    · have hc := fun x0 x1 x2 => like_comp (k + n + 2) [] x0 x1 x2 μ xs fun x hm => ih x (hx x hm)
      have e2 : ((xs.length : Int) == (xs.length : Int)) = true := by simp
      have e6 := @eqnil μ
      simp only [t__law_like, c__law_like] at hat
      simp only [likeC] at hc
      rcases h with rfl | rfl
      · have e1 := s_tup (k + n + 1) xs μ
        have e3 : ((4 : Int) == 4) = true := rfl
        have e4 : ((4 : Int) == 6) = false := rfl
        have e5 := @in4 μ
        have e7 := @tlen xs μ
        rw [show k + (n + 1) + 2 = (k + n + 2) + 1 from by omega, run_succ]
        simp only [callM, hat, runB, FT.fn, startD, evS, evT, evE_cmpn, evE, gcal, bind_ok, get0, gets, List.length_cons, List.length_nil, List.map_cons, List.map_nil, List.replicate, List.cons_append, List.nil_append, List.set_cons_zero, List.set_cons_succ, List.append_nil, if_true, if_false, Nat.reduceAdd, Nat.reduceSub, e1, e2, e3, e4, e5, e6, e7, c_eq, c_ne, t_bl, Bool.not_true, Bool.false_eq_true, wipeD, fits, Nat.reduceLeDiff, decide_true, hc]
      · have e1 := s_lst (k + n + 1) xs μ
        have e3 : ((5 : Int) == 5) = true := rfl
        have e4 : ((5 : Int) == 6) = false := rfl
        have e5 := @in5 μ
        have e7 := @blen xs μ
        rw [show k + (n + 1) + 2 = (k + n + 2) + 1 from by omega, run_succ]
        simp only [callM, hat, runB, FT.fn, startD, evS, evT, evE_cmpn, evE, gcal, bind_ok, get0, gets, List.length_cons, List.length_nil, List.map_cons, List.map_nil, List.replicate, List.cons_append, List.nil_append, List.set_cons_zero, List.set_cons_succ, List.append_nil, if_true, if_false, Nat.reduceAdd, Nat.reduceSub, e1, e2, e3, e4, e5, e6, e7, c_eq, c_ne, t_bl, Bool.not_true, Bool.false_eq_true, wipeD, fits, Nat.reduceLeDiff, decide_true, hc]
/-! ### a pair -/
theorem hnd_no : M.hnd "_law_error" (some ⟨"NotFound", []⟩) = some (.str "no") := by kernel_rfl
theorem eqno {μ : Mem} : cmpD .Eq (.str "no") (.str "no") μ = .ok true μ := by kernel_rfl
theorem lk_fr (t b : Int) (n : Nat) : Lk (n + 1) (fr t b) := .inr ⟨_, .inl rfl, fun x hx => by
  simp only [List.mem_cons, List.not_mem_nil, or_false] at hx
  cases n with
  | zero => rcases hx with rfl | rfl <;> exact .inl ⟨_, rfl⟩
  | succ n => rcases hx with rfl | rfl <;> exact .inl (.inl ⟨_, rfl⟩)⟩
theorem lk_bl (b : Bool) (n : Nat) : Lk n (.bl b) := by cases n <;> first | exact .inr ⟨_, rfl⟩ | exact .inl (.inr ⟨_, rfl⟩)
theorem r_pair (k : Nat) (μ : Mem) (a b c d : Int) (h1 : Po a b) (h2 : Po c d) : run M 0 (k + 9) "_law_pair_right" [po a b, po c d] μ = .ok (.bl true) μ := by
  have hat : M.at_ "_law_pair_right" = some t__law_pair_right.fn := by rfl
  simp only [t__law_pair_right, c__law_pair_right] at hat
  have n1 : b * d ≠ 0 := by
    have := h1.one
    have := h2.one
    exact Int.mul_ne_zero (by omega) (by omega)
  have e1 := r_sum (k + 4) μ a b c d h1 h2
  have e2 := r_product (k + 4) μ a b c d h1 h2
  have e3 := r_more (k + 4) μ a b c d h1 h2
  have e4 := r_is_portion (k + 6) μ a b h1
  have m1 := @b_mul μ a d (mulOk_of h1.p h2.q (by decide) (by decide) (by decide))
  have m2 := @b_mul μ c b (mulOk_of h2.p h1.q (by decide) (by decide) (by decide))
  have m3 := @b_mul μ b d (mulOk_of h1.q h2.q (by decide) (by decide) (by decide))
  have m4 := @b_mul μ a c (mulOk_of h1.p h2.p (by decide) (by decide) (by decide))
  have e5 := r_plain (k + 6) μ (a * d + c * b) (b * d) n1 (h1.q.mul h2.q) (by decide)
  have e6 := r_plain (k + 6) μ (a * c) (b * d) n1 (h1.q.mul h2.q) (by decide)
  have cmp : decide (0 < a * d - c * b) = decide (c * b < a * d) := by
    congr 1
    exact propext ⟨fun h => by omega, fun h => by omega⟩
  rw [cmp] at e3
  have e7 := r_like (k + 4) μ 2 (.lst [fr (a * d + c * b) (b * d), fr (a * c) (b * d), .bl (decide (c * b < a * d)), .bl true]) (.inr ⟨_, .inr rfl, fun x hx => by
    simp only [List.mem_cons, List.not_mem_nil, or_false] at hx
    rcases hx with rfl | rfl | rfl | rfl
    · exact lk_fr _ _ 0
    · exact lk_fr _ _ 0
    · exact lk_bl _ _
    · exact lk_bl _ _⟩)
  by_cases hc : c = 0
  · subst hc
    have g1 := r_by0 (k + 2) μ a b d h1 h2
    have g2 : ((0 : Int) == 0) = true := rfl
    have g3 : (gAt M 0 (k + 8)).dp = true := by simp [gAt, gOf]
    have g4 : ∀ ds μ, (gAt M 0 (k + 8)).low.cal "portion_by" ds μ = run M 0 (k + 6) "portion_by" ds μ := fun _ _ => rfl
    have g5 : (gAt M 0 (k + 8)).hnd "_law_error" (some ⟨"NotFound", []⟩) = some (.str "no") := hnd_no
    have g6 := @eqno μ
    unfold po at e1 e2 e3 e4 g1 ⊢
    clear h1 h2 n1 cmp
    rw [run_succ]
    simp only [callM, hat, runB, FT.fn, startD, evS, evT, evE, gcal, bind_ok, bind_er, get0, gets, List.length_cons, List.length_nil, List.map_cons, List.map_nil, List.replicate, List.cons_append, List.nil_append, List.set_cons_zero, List.set_cons_succ, List.append_nil, if_true, if_false, Nat.reduceAdd, Nat.reduceSub, i_t0, i_t1, m1, m2, m3, m4, e1, e2, e3, e4, e5, e6, e7, g1, g2, g3, g4, g5, g6, b_add, c_gt, c_eq, c_ne, t_bl, Bool.not_true, Bool.false_eq_true, fits, Nat.reduceLeDiff, decide_true, told, flat]
  · have n2 : b * c ≠ 0 := by
      have := h1.one
      exact Int.mul_ne_zero (by omega) hc
    have g1 := r_by (k + 4) μ a b c d h1 h2 hc
    have g2 : (c == 0) = false := by simpa using hc
    have m5 := @b_mul μ b c (mulOk_of h1.q h2.p (by decide) (by decide) (by decide))
    have g3 := r_plain (k + 6) μ (a * d) (b * c) n2 (h1.q.mul h2.p) (by decide)
    have g4 := r_like (k + 5) μ 1 (fr (a * d) (b * c)) (lk_fr _ _ 0)
    unfold po at e1 e2 e3 e4 g1 ⊢
    clear h1 h2 n1 n2 cmp hc
    rw [run_succ]
    simp only [callM, hat, runB, FT.fn, startD, evS, evT, evE, gcal, bind_ok, bind_er, get0, gets, List.length_cons, List.length_nil, List.map_cons, List.map_nil, List.replicate, List.cons_append, List.nil_append, List.set_cons_zero, List.set_cons_succ, List.append_nil, if_true, if_false, Nat.reduceAdd, Nat.reduceSub, i_t0, i_t1, m1, m2, m3, m4, m5, e1, e2, e3, e4, e5, e6, e7, g1, g2, g3, g4, b_add, c_gt, c_eq, c_ne, t_bl, Bool.not_true, Bool.false_eq_true, fits, Nat.reduceLeDiff, decide_true]
end Law_k00

namespace Law_k00
open PySem PySem.Spec PyProof.Rows L2 Den
def takeS : Nat → S → S
  | n + 1, .cons a r => .cons a (takeS n r)
  | _, _ => .nil
def dropS : Nat → S → S
  | n + 1, .cons _ r => dropS n r
  | _, s => s
def oddsT : List D := [.tup [.int (10 ^ 60 + 1), .int 1], .tup [.int (-10 ^ 60 - 1), .int 1], .tup [.int 1, .int (10 ^ 60 + 1)], .tup [.int 2, .int 4], .tup [.int 0, .int 2], .tup [.int 1, .int 0], .tup [.int 1, .int (-2)], .lst [.int 1, .int 2],
  .tup [.int 1], .tup [.int 1, .int 2, .int 3], .tup [.bl true, .int 2], .tup [.int 1, .bl true], .non, .int 1, .str "1/2", .tup [.tup [.int 1], .int 2]]
def odds : List D := [.tup [.int 1, .int 2], .tup [.int 0, .int 1], .tup [.int (10 ^ 60), .int 1], .tup [.int 1, .int (10 ^ 60)]] ++ oddsT
def toldD : D := .lst [.tup [.int (-3), .int 2], .tup [.int 0, .int 1], .tup [.int 1, .int 1], .tup [.int 5, .int 6], .tup [.int (-1), .int 6], .tup [.int (10 ^ 120), .int 1], .tup [.int (-1), .int 2], .bl false, .bl true]
def restS : S := dropS 3 c_law
def partB : S := takeS 7 restS
def partC : S := dropS 8 restS
theorem okB (s l x3 x4 : Option D) (a b : Int) : evS (gAt M 0 40) partB [s, some (.cel 0), l, x3, x4, none, none, none, none, none, none, none, none] (cupM a b) =
    .ok (.nx [s, some (.cel 0), l, x3, x4, some (.int (10 ^ 60)), some toldD, some (.lst odds), none, none, none, none, none]) (cupM a b) := by kernel_rfl
theorem okC (s l x3 x4 : Option D) (a b : Int) (i : Nat) (hi : i < 16) : evS (gAt M 0 40) partC [s, some (.cel 0), l, x3, x4, some (.int (10 ^ 60)), some toldD, some (.lst odds), some (oddsT.getD i .non), some (.lst []), none, none, none] (cupM a b) = .ok (.rt (.bl true)) (cupM a b) := by
  have h : i = 0 ∨ i = 1 ∨ i = 2 ∨ i = 3 ∨ i = 4 ∨ i = 5 ∨ i = 6 ∨ i = 7 ∨ i = 8 ∨ i = 9 ∨ i = 10 ∨ i = 11 ∨ i = 12 ∨ i = 13 ∨ i = 14 ∨ i = 15 := by omega
  rcases h with rfl | rfl | rfl | rfl | rfl | rfl | rfl | rfl | rfl | rfl | rfl | rfl | rfl | rfl | rfl | rfl <;> kernel_rfl
theorem ev_cut {g : G} : ∀ (n : Nat) (s : S) (ρ : DEnv) (μ : Mem) (ρ' : DEnv) (μ' : Mem), evS g (takeS n s) ρ μ = .ok (.nx ρ') μ' → evS g s ρ μ = evS g (dropS n s) ρ' μ'
  | 0, s, ρ, μ, ρ', μ', h => by
    have h' : R.ok (Fl.nx ρ) μ = R.ok (.nx ρ') μ' := by cases s <;> exact h
    cases h'
    cases s <;> rfl
  | n + 1, s, ρ, μ, ρ', μ', h => by
    cases s with
    | cons a r =>
      have h' : (evS g a ρ μ).bind (fun f μ1 => match f with | .nx ρ1 => evS g (takeS n r) ρ1 μ1 | f => .ok f μ1) = .ok (.nx ρ') μ' := h
      show (evS g a ρ μ).bind (fun f μ1 => match f with | .nx ρ1 => evS g r ρ1 μ1 | f => .ok f μ1) = evS g (dropS n r) ρ' μ'
      cases e : evS g a ρ μ with
      | ok f μ1 =>
        rw [e] at h'
        cases f with
        | nx ρ1 => exact ev_cut n r ρ1 μ1 ρ' μ' h'
        | _ => cases h'
      | er x m => rw [e] at h'; cases h'
      | no => rw [e] at h'; cases h'
    | _ => cases h; rfl
/-! ### the loop -/
def lawB : S := match c_law with
  | .cons _ (.cons _ (.cons (.for _ _ b) _)) => b
  | _ => .nil
def lawT : D → DEnv → Mem → R Fl := fun d ρ μ => match asg (.nm 3) d ρ with
  | some ρ' => evS (gAt M 0 40) lawB ρ' μ
  | none => .no
theorem law_turn (μ : Mem) (hμ : Cup μ) (s x3 x4 : Option D) (p q : Int) (h : Po p q) (d : D) :
    ∃ p' q' μ', Po p' q' ∧ Cup μ' ∧ lawT d [s, some (.cel 0), some (po p q), x3, x4, none, none, none, none, none, none, none, none] μ = .ok (.nx [s, some (.cel 0), some (po p' q'), some d, some (po p' q'), none, none, none, none, none, none, none, none]) μ' := by
  obtain ⟨p', q', μ', h', hc, e1⟩ := r_lawportion 37 μ hμ
  have e2 := r_pair 31 μ' p' q' p q h' h
  have e3 := r_pair 31 μ' p q p' q' h h'
  have e4 := r_pair 31 μ' p' q' p' q' h' h'
  refine ⟨p', q', μ', h', hc, ?_⟩
  have eb : lawB = (.cons (.set 4 (.cal "_law_portion" (.cons (.var 1) .nil))) (.cons (.ife (.or (.not (.cal "_law_pair_right" (.cons (.var 4) (.cons (.var 2) .nil)))) (.or (.not (.cal "_law_pair_right" (.cons (.var 2) (.cons (.var 4) .nil)))) (.one (.not (.cal "_law_pair_right" (.cons (.var 4) (.cons (.var 4) .nil))))))) (.cons (.ret (.bl false)) .nil) .nil) (.cons (.set 2 (.var 4)) .nil))) := rfl
  unfold lawT
  rw [eb]
  clear h h' hc hμ
  simp only [asg, evS, evE, evT, gcal, List.set_cons_zero, List.set_cons_succ, get0, gets, bind_ok, e1, e2, e3, e4, t_bl, Bool.not_true, Bool.false_eq_true, if_false]
theorem law_loop (s : Option D) : ∀ (l : List D) (μ : Mem) (x3 x4 : Option D) (p q : Int), Cup μ → Po p q →
    ∃ p' q' y3 y4 μ', Cup μ' ∧ forL lawT l [s, some (.cel 0), some (po p q), x3, x4, none, none, none, none, none, none, none, none] μ = .ok (.nx [s, some (.cel 0), some (po p' q'), y3, y4, none, none, none, none, none, none, none, none]) μ'
  | [], μ, x3, x4, p, q, hc, _ => ⟨p, q, x3, x4, μ, hc, rfl⟩
  | d :: l, μ, x3, x4, p, q, hc, h => by
    obtain ⟨p1, q1, μ1, h1, hc1, e1⟩ := law_turn μ hc s x3 x4 p q h d
    obtain ⟨p2, q2, y3, y4, μ2, hc2, e2⟩ := law_loop s l μ1 (some d) (some (po p1 q1)) p1 q1 hc1 h1
    exact ⟨p2, q2, y3, y4, μ2, hc2, by simp only [forL, e1, bind_ok, e2]⟩
theorem tgt_eq (s l x3 x4 : Option D) (μ μ' : Mem) (bad : D) (h : run M 0 40 "_law_some" [.cel 0, .lst oddsT] μ = .ok bad μ') :
    evS (gAt M 0 40) (takeS 1 (dropS 7 restS)) [s, some (.cel 0), l, x3, x4, some (.int (10 ^ 60)), some toldD, some (.lst odds), none, none, none, none, none] μ =
      .ok (.nx [s, some (.cel 0), l, x3, x4, some (.int (10 ^ 60)), some toldD, some (.lst odds), some bad, some (.lst []), none, none, none]) μ' := by
  have e : evS (gAt M 0 40) (takeS 1 (dropS 7 restS)) [s, some (.cel 0), l, x3, x4, some (.int (10 ^ 60)), some toldD, some (.lst odds), none, none, none, none, none] μ =
      (((run M 0 40 "_law_some" [.cel 0, .lst oddsT] μ).bind fun x μ2 => (R.ok (.tup [x, .lst []]) μ2 : R D)).bind fun x μ1 => match asg (.cons (.nm 8) (.cons (.nm 9) .nil)) x [s, some (.cel 0), l, x3, x4, some (.int (10 ^ 60)), some toldD, some (.lst odds), none, none, none, none, none] with
        | some ρ' => (.ok (.nx ρ') μ1 : R Fl)
        | none => .no) := by
    rw [h]
    have e2 : evE (gAt M 0 40) (.cal "_law_some" (.cons (.var 1) (.cons (.sli (.var 7) (.num 4) .nop) .nil))) [s, some (.cel 0), l, x3, x4, some (.int (10 ^ 60)), some toldD, some (.lst odds), none, none, none, none, none] μ = .ok bad μ' := by
      rw [← h]
      kernel_rfl
    have e3 : takeS 1 (dropS 7 restS) = .cons (.tgt (.cons (.nm 8) (.cons (.nm 9) .nil)) (.tup (.cons (.cal "_law_some" (.cons (.var 1) (.cons (.sli (.var 7) (.num 4) .nop) .nil))) (.cons (.lst .nil) .nil)))) .nil := rfl
    rw [e3]
    simp only [evS, evE] at e2 ⊢
    rw [e2]
    rfl
  rw [e, h]
  rfl
theorem plain (ns : List Int) (hl : ns.length ≤ 63) (hb : ∀ z ∈ ns, Builtin.Int.intBits z ≤ 1048576) : ∃ μ', run M 0 (40 + 1) "law" [.fls (ns.map .int)] [] = .ok (.bl true) μ' := by
  have hat : M.at_ "law" = some t_law.fn := by rfl
  obtain ⟨μ1, hc1, e1⟩ := r_lawcup 39 ns hl
  obtain ⟨p, q, μ2, hpo, hc2, e2⟩ := r_lawportion 37 μ1 hc1
  obtain ⟨p', q', y3, y4, μ3, hc3, e3⟩ := law_loop (some (.fls (ns.map .int))) (rngL 0 10) μ2 none none p q hc2 hpo
  obtain ⟨a, b, rfl, _⟩ := id hc3
  obtain ⟨i, μ4, hi, hc4, e4⟩ := r_some 38 (cupM a b) hc3 oddsT (by decide) (by decide)
  obtain ⟨a', b', rfl, _⟩ := id hc4
  have hi' : i < 16 := hi
  have hbad : oddsT[i] = oddsT.getD i .non := by rw [List.getD_eq_getElem?_getD, List.getElem?_eq_getElem hi]; rfl
  have e4 : run M 0 40 "_law_some" [.cel 0, .lst oddsT] (cupM a b) = .ok (oddsT.getD i .non) (cupM a' b') := e4.trans (congrArg (fun x => R.ok x (cupM a' b')) hbad)
  refine ⟨cupM a' b', ?_⟩
  have step : evS (gAt M 0 40) c_law [some (.fls (ns.map .int)), none, none, none, none, none, none, none, none, none, none, none, none] [] = .ok (.rt (.bl true)) (cupM a' b') := by
    have f1 : evS (gAt M 0 40) (takeS 3 c_law) [some (.fls (ns.map .int)), none, none, none, none, none, none, none, none, none, none, none, none] [] = .ok (.nx [some (.fls (ns.map .int)), some (.cel 0), some (po p' q'), y3, y4, none, none, none, none, none, none, none, none]) (cupM a b) := by
      have ec : takeS 3 c_law = .cons (.set 1 (.cal "_law_cup" (.cons (.var 0) .nil))) (.cons (.set 2 (.cal "_law_portion" (.cons (.var 1) .nil))) (.cons (.for (.nm 3) (.rng1 (.num 10)) lawB) .nil)) := rfl
      have e0 : evS (gAt M 0 40) (.for (.nm 3) (.rng1 (.num 10)) lawB) [some (.fls (ns.map .int)), some (.cel 0), some (po p q), none, none, none, none, none, none, none, none, none, none] μ2 = forL lawT (rngL 0 10) [some (.fls (ns.map .int)), some (.cel 0), some (po p q), none, none, none, none, none, none, none, none, none, none] μ2 := rfl
      rw [e3] at e0
      rw [ec]
      generalize S.for (.nm 3) (.rng1 (.num 10)) lawB = F at e0 ⊢
      simp only [evS, evE, gcal, get0, gets, bind_ok, e1, e2, List.set_cons_zero, List.set_cons_succ, e0]
    rw [ev_cut 3 c_law _ _ _ _ f1]
    rw [show dropS 3 c_law = restS from rfl, ev_cut 7 restS _ _ _ _ (okB _ _ _ _ a b), ev_cut 1 (dropS 7 restS) _ _ _ _ (tgt_eq _ _ _ _ _ _ _ e4)]
    exact okC _ _ _ _ a' b' i hi'
  rw [run_succ]
  simp only [callM, hat, runB, FT.fn, t_law]
  change (evS (gAt M 0 40) c_law [some (.fls (ns.map .int)), none, none, none, none, none, none, none, none, none, none, none, none] []).bind _ = _
  rw [step]
  rfl
end Law_k00

namespace Law_k00
open PySem PySem.Spec PyProof.Rows L2 Den
end Law_k00
open PySem PySem.W PyProof.Rows
set_option maxRecDepth 100000 in
set_option maxHeartbeats 8000000 in
theorem PySem.Challenge.cw_benchbound_k00_whole_portions_holds : PySem.Challenge.rw_benchbound_k00_whole_portions.Holds := by
  w_on; o_law
  refine HandSHeadRun.head_imp (r := Law_k00.R0) (q := view Law_k00.R0.prog [0, 35]) (H := Law_k00.hk) (ob := Law_k00.ob) (M := 4000) (loose := Law_k00.loose) (d := HandSHeadRun.topDef Law_k00.R0.prog 35) (kwd := []) Law_k00.ob_eq Law_k00.run_ok (by kernel_rfl) (by kernel_rfl) (by kernel_rfl) (by rfl) (by first | assumption | decide +kernel) (by decide +kernel) ⟨rfl, rfl, rfl, rfl, rfl, by decide +kernel⟩ ?hw ?hc
  case hw => w_witness2
  case hc =>
    refine LamX.walk_ofTsE (l := PySem.Challenge.rw_benchbound_k00_whole_portions) (n := 63) (k := 40 + 1) (x := "script") (CX := fun w => L2N.CX (PySem.Challenge.rw_benchbound_k00_whole_portions).prog w) rfl (by decide) (by kernel_rfl) ⟨rfl, by decide, by decide⟩ ?F (fun w H s e s' h => ?_)
    · intro w mg fa h Y G hmg0
      obtain ⟨K, KX, c⟩ := Y
      have hmg : mg ("law" : PySem.Str) = some (.ref fa) := by
        have e : (HandSHeadRun.topDef Law_k00.R0.prog 35).name = ("law" : PySem.Str) := by kernel_rfl
        rw [← e]
        exact hmg0
      exact ⟨K, KX, Den.law_at (W := 0) Law_k00.text KX G c hmg (tl := Law_k00.t_law) (by simp [Law_k00.tab]) rfl rfl rfl (by decide +kernel) Law_k00.plain⟩
    · obtain ⟨a, B, H', cls, d, _, _, _, _, _, _, _, z⟩ := h
      exact z
