import PyProof.Rows.All
import Wide.All
import OpenK.AllK
import Wide.FinOn
import HandS.ForMost
import HandS.ForExc
import HandS.Flow
import HandS.TupAny
import HandS.Deep
import HandS.StrMore
import HandS.IsInst
import HandS.Zip
import HandS.Walk
import HandS.CallSlots
import HandS.TupMul
import HandS.Conv
import HandS.ExcOwn
import HandS.WordsExc
import HandS.ReplaceList
import Wide.Txt
import KE.GoesMore
import HandS.TryOnly
import HandS.Ends
import PyProof.ExcBaseAll.ValueError
import PySem.Challenge.RW_ticktree_k25_whole_texts
set_option maxRecDepth 100000
set_option maxHeartbeats 8000000
/-! TA: the data, the M-language and its meaning (plain Lean, no machine in sight). -/
namespace TT

/-- Python data as values. `lst o`, `dct o`: o = true where the list (dict) is owned by the place that holds it and may be changed there;
    false where it is only read from now on. `dct o k es`: k = true where the keys are tuples; es: entries `tup [key, value]`.
    `scr ns`: the law's script. `obj c fs`: an instance (always owned), fs: `tup [str f, value]`. `glo x`: what the module's name x holds (a def, a class). -/
inductive D where
  | non
  | bl (b : Bool)
  | int (i : Int)
  | str (s : String)
  | tup (xs : List D)
  | lst (o : Bool) (xs : List D)
  | dct (o : Bool) (k : Bool) (es : List D)
  | obj (c : String) (fs : List D)
  | glo (x : String)
  | ty (n : String)
  | scr (ns : List Int)
  | hole
  deriving Inhabited

mutual
/-- nothing owned within -/
def D.pur : D → Bool
  | .non => true | .bl _ => true | .int _ => true | .str _ => true | .glo _ => true | .ty _ => true | .scr _ => true
  | .tup xs => purL xs
  | .lst o xs => !o && purL xs
  | .dct o _ es => !o && purL es
  | .obj _ _ => false
  | .hole => false
def purL : List D → Bool
  | [] => true
  | d :: ds => d.pur && purL ds
end
mutual
/-- read only from now on -/
def D.frz : D → D
  | .non => .non | .bl b => .bl b | .int i => .int i | .str s => .str s | .glo x => .glo x | .ty n => .ty n | .scr ns => .scr ns
  | .tup xs => .tup (frzL xs)
  | .lst _ xs => .lst false (frzL xs)
  | .dct _ k es => .dct false k (frzL es)
  | .obj c fs => .obj c fs
  | .hole => .hole
def frzL : List D → List D
  | [] => []
  | d :: ds => d.frz :: frzL ds
end
mutual
theorem D.frz_pur : ∀ d : D, d.pur = true → d.frz = d
  | .non, _ => rfl | .bl _, _ => rfl | .int _, _ => rfl | .str _, _ => rfl | .glo _, _ => rfl | .ty _, _ => rfl | .scr _, _ => rfl
  | .tup xs, h => by rw [D.frz, frzL_pur xs (by simpa [D.pur] using h)]
  | .lst o xs, h => by
    simp only [D.pur, Bool.and_eq_true, Bool.not_eq_true'] at h
    rw [D.frz, frzL_pur xs h.2, h.1]
  | .dct o k es, h => by
    simp only [D.pur, Bool.and_eq_true, Bool.not_eq_true'] at h
    rw [D.frz, frzL_pur es h.2, h.1]
  | .obj _ _, _ => rfl
  | .hole, _ => rfl
theorem frzL_pur : ∀ ds : List D, purL ds = true → frzL ds = ds
  | [], _ => rfl
  | d :: ds, h => by
    simp only [purL, Bool.and_eq_true] at h
    rw [frzL, D.frz_pur d h.1, frzL_pur ds h.2]
end
theorem purL_iff (ds : List D) : purL ds = true ↔ ∀ d ∈ ds, d.pur = true := by
  induction ds with
  | nil => simp [purL]
  | cons d ds ih => simp [purL, ih]
theorem purL_append (a b : List D) : purL (a ++ b) = (purL a && purL b) := by
  induction a with
  | nil => simp [purL]
  | cons d ds ih => simp [purL, ih, Bool.and_assoc]
theorem purL_map {α : Type} (f : α → D) (h : ∀ a, (f a).pur = true) (l : List α) : purL (l.map f) = true := by
  rw [purL_iff]; intro d hd; obtain ⟨a, _, rfl⟩ := List.mem_map.mp hd; exact h a

abbrev Env := List (Option D)
/-- a result: a value and the slots behind it; an exception of a class and the slots at it; or nothing is said -/
inductive Res (α : Type) where
  | ok (a : α) (r : Env)
  | exc (c : String) (r : Env)
  | err
abbrev M (α : Type) := Env → Res α
@[inline] def M.ret {α : Type} (a : α) : M α := fun r => .ok a r
@[inline] def M.andThen {α β : Type} (x : M α) (f : α → M β) : M β := fun r => match x r with
  | .ok a r' => f a r'
  | .exc c r' => .exc c r'
  | .err => .err
instance : Monad M where
  pure := M.ret
  bind := M.andThen
@[simp] theorem M.bind_def {α β : Type} (x : M α) (f : α → M β) (r : Env) : (x >>= f) r = (match x r with
  | .ok a r' => f a r'
  | .exc c r' => .exc c r'
  | .err => .err) := rfl
@[simp] theorem M.pure_def {α : Type} (a : α) (r : Env) : (pure a : M α) r = .ok a r := rfl
def M.err {α : Type} : M α := fun _ => .err
def M.lift {α : Type} (o : Option α) : M α := fun r => match o with
  | some a => .ok a r
  | none => .err
@[simp] theorem M.err_def {α : Type} (r : Env) : (M.err : M α) r = .err := rfl
@[simp] theorem M.lift_some {α : Type} (a : α) (r : Env) : (M.lift (some a) : M α) r = .ok a r := rfl
@[simp] theorem M.lift_none {α : Type} (r : Env) : (M.lift (none : Option α) : M α) r = .err := rfl
/-- how a call ends: its value, what the handed-in changeable things are then -/
inductive Fin where
  | ok (d : D) (outs : List D)
  | exc (c : String) (outs : List D)
  | err
abbrev Cl := String → List D → Fin

/-! ### equality, truth, order -/
def b2i (b : Bool) : Int := if b then 1 else 0
mutual
def pyEq : D → D → Bool
  | .non, .non => true
  | .bl a, .bl b => a == b
  | .bl a, .int b => b2i a == b
  | .int a, .bl b => a == b2i b
  | .int a, .int b => a == b
  | .str a, .str b => a == b
  | .tup a, .tup b => pyEqL a b
  | .lst _ a, .lst _ b => pyEqL a b
  | _, _ => false
def pyEqL : List D → List D → Bool
  | [], [] => true
  | a :: as, b :: bs => pyEq a b && pyEqL as bs
  | _, _ => false
end
mutual
/-- data that == walks: no dicts, no instances -/
def D.dat : D → Bool
  | .non => true | .bl _ => true | .int _ => true | .str _ => true
  | .tup xs => datL xs
  | .lst _ xs => datL xs
  | _ => false
def datL : List D → Bool
  | [] => true
  | d :: ds => d.dat && datL ds
end
mutual
def D.depth : D → Nat
  | .tup xs => depthL xs + 1
  | .lst _ xs => depthL xs + 1
  | _ => 0
def depthL : List D → Nat
  | [] => 0
  | d :: ds => max d.depth (depthL ds)
end
def D.truth : D → Option Bool
  | .non => some false
  | .bl b => some b
  | .int i => some (i != 0)
  | .str s => some (s != "")
  | .tup xs => some (!xs.isEmpty)
  | .lst _ xs => some (!xs.isEmpty)
  | .dct _ _ es => some (!es.isEmpty)
  | _ => none
/-- a value without parts -/
def D.flat : D → Bool
  | .non => true | .bl _ => true | .int _ => true | .str _ => true
  | _ => false

/-! ### lists by index and slices -/
def ixD {α : Type} (xs : List α) (i : Int) : Option α := if 0 ≤ i then xs[i.toNat]? else if -(xs.length : Int) ≤ i then xs[(i + xs.length).toNat]? else none
def clip (n d : Nat) : Option Int → Nat
  | none => d
  | some v => if v < 0 then (v + (n : Int)).toNat else min v.toNat n
def cut {α : Type} (xs : List α) (lo hi : Option Int) : List α := (xs.drop (clip xs.length 0 lo)).take (clip xs.length xs.length hi - clip xs.length 0 lo)
def most : Nat := 100000
end TT
/-! TB: the M-language and its meaning -/
namespace TT
open PySem

/-- built-in functions, built-in methods that look, built-in methods that change -/
inductive Bl where
  | len | tuple | list | int | str | isinstance | all | any | sum | max | sortset | sorted | dict
  deriving DecidableEq
inductive Bm where
  | strip | split | join | find | count | index | get | items
  deriving DecidableEq
inductive Mu where
  | append | extend | pop | dpop | setL | setD
  deriving DecidableEq
/-! a place that may be changed: slot i; the field f of the object at slot i; the entry of a key in the dict at slot i -/
mutual
inductive ME where
  | var (i : Nat)
  | mv (i : Nat)
  | con (d : D)
  | glob (x : String) (d : D)
  | bin (op : Operator) (a b : ME)
  | cmp (op : CmpOp) (a b : ME)
  | chn (op op' : CmpOp) (a b c : ME)
  | inv (a : ME)
  | neg (a : ME)
  | and_ (a b : ME)
  | or_ (a b : ME)
  | ite (c a b : ME)
  | tup (es : MEs)
  | lst (es : MEs)
  | dnew (k : Bool)
  | ddis (ks vs : MEs)
  | ix (a b : ME)
  | sl (a : ME) (lo hi : MO)
  | rev (a : ME)
  | blt (x : Bl) (es : MEs)
  | bmt (m : Bm) (o : ME) (es : MEs)
  | fld (i : Nat) (f : String)
  | mut (m : Mu) (p : MP) (es : MEs)
  | call (x : String) (as : MAs)
  | meth (i : Nat) (x : String) (as : MAs)
  | make (c x : String) (as : MAs)
  | lc (own : List Nat) (ts : List Nat) (one : Bool) (it : MI) (c : MO) (e : ME)
  | bor (a : ME)
inductive MEs where
  | nil
  | cons (e : ME) (es : MEs)
inductive MO where
  | no
  | so (e : ME)
/-- an argument: by value; a new thing to be changed there; a slot's thing; a field's thing -/
inductive MAs where
  | nil
  | val (e : ME) (as : MAs)
  | tmp (e : ME) (as : MAs)
  | io (i : Nat) (as : MAs)
  | iof (i : Nat) (f : String) (as : MAs)
inductive MP where
  | sl (i : Nat)
  | fl (i : Nat) (f : String)
  | ky (i : Nat) (e : ME)
/-- what is walked -/
inductive MI where
  | seq (e : ME)
  | rng1 (a : ME)
  | rng2 (a b : ME)
  | enum (e : ME)
  | zip (a b : ME)
end

inductive MT where
  | sl (i : Nat)
  | fl (i : Nat) (f : String)
mutual
inductive MS where
  | ret (e : ME)
  | retN
  | set (i : Nat) (e : ME)
  | tupset (ts : List MT) (e : ME)
  | par (i j : Nat) (a b : ME)
  | setix (p : MP) (k e : ME)
  | setf (i : Nat) (f : String) (e : ME)
  | exp (e : ME)
  | ite (c : ME) (a b : MSs)
  | for_ (ts : List Nat) (one : Bool) (it : MI) (b : MSs)
  | whl (c : ME) (b : MSs)
  | raise (c : String)
  | pass
inductive MSs where
  | nil
  | cons (s : MS) (ss : MSs)
end

/-! ### places -/
inductive RP where
  | sl (i : Nat)
  | fl (i : Nat) (f : String)
  | ky (i : Nat) (k : D)
def entKey : D → D
  | .tup (k :: _) => k
  | _ => .hole
def entVal : D → D
  | .tup (_ :: v :: _) => v
  | _ => .hole
def ent (k v : D) : D := .tup [k, v]
def dGet (k : D) : List D → Option D
  | [] => none
  | e :: es => if pyEq (entKey e) k then some (entVal e) else dGet k es
/-- a key's value is another one, where it is there -/
def dPut (k v : D) : List D → List D
  | [] => []
  | e :: es => if pyEq (entKey e) k then ent (entKey e) v :: es else e :: dPut k v es
def dSet (k v : D) (es : List D) : List D := if (dGet k es).isSome then dPut k v es else es ++ [ent k v]
def dDel (k : D) : List D → List D
  | [] => []
  | e :: es => if pyEq (entKey e) k then es else e :: dDel k es
def fGet (f : String) (fs : List D) : Option D := dGet (.str f) fs
def fSet (f : String) (v : D) (fs : List D) : List D := dSet (.str f) v fs
def setS (r : Env) (i : Nat) (d : D) : Env := r.set i (some d)
def getS (r : Env) (i : Nat) : Option D := (r[i]?).join
/-- the thing at a place, and the slots with a hole there -/
def takeP : RP → Env → Option (D × Env)
  | .sl i, r => (getS r i).map fun d => (d, setS r i .hole)
  | .fl i f, r => match getS r i with
    | some (.obj c fs) => (fGet f fs).map fun d => (d, setS r i (.obj c (fSet f .hole fs)))
    | _ => none
  | .ky i k, r => match getS r i with
    | some (.dct true kk es) => (dGet k es).map fun d => (d, setS r i (.dct true kk (dPut k .hole es)))
    | _ => none
def putP : RP → D → Env → Env
  | .sl i, d, r => setS r i d
  | .fl i f, d, r => match getS r i with
    | some (.obj c fs) => setS r i (.obj c (fSet f d fs))
    | _ => r
  | .ky i k, d, r => match getS r i with
    | some (.dct true kk es) => setS r i (.dct true kk (dPut k d es))
    | _ => r

/-! ### operators -/
def small (n : Nat) : Bool := decide (n ≤ most)
def big64 : Int := 18446744073709551616
def binF : Operator → D → D → Option D
  | .Add, .int a, .int b => some (.int (a + b))
  | .Sub, .int a, .int b => some (.int (a - b))
  | .Mult, .int a, .int b => if (decide (-big64 < a) && decide (a < big64)) || (decide (-big64 < b) && decide (b < big64)) then some (.int (a * b)) else none
  | .Mod, .int a, .int b => if 0 < b then some (.int (a % b)) else none
  | .FloorDiv, .int a, .int b => if 0 < b && b < 1073741824 then some (.int (a / b)) else none
  | .Add, .str a, .str b => if small (a.length + b.length) then some (.str (a ++ b)) else none
  | .Add, .tup a, .tup b => if small (a.length + b.length) && purL a && purL b then some (.tup (a ++ b)) else none
  | .Add, .lst _ a, .lst _ b => if small (a.length + b.length) && purL a && purL b then some (.lst true (a ++ b)) else none
  | .Mult, .lst _ a, .int k => if small (a.length * k.toNat) && decide (k < 1000000) && decide (-1000000 < k) && purL a then some (.lst true (List.replicate k.toNat a).flatten) else none
  | .Mult, .tup a, .int k => if decide (a.length ≤ 100) && decide (1 ≤ k) && decide (k ≤ 1000) && !a.isEmpty && purL a then some (.tup (List.replicate k.toNat a).flatten) else none
  | .Mult, .str a, .int k => if k = 0 then some (.str "") else if k = 1 then some (.str a) else none
  | _, _, _ => none
def D.okEq (d : D) : Bool := d.dat && decide (d.depth ≤ 60)
/-- one sign in a text -/
def signIn (a b : String) : Option Bool := match a.toList with
  | [c] => some (b.toList.contains c)
  | _ => none
def strLt (a b : String) : Bool := decide (a.toList.map Char.toNat < b.toList.map Char.toNat)
def cmpF : CmpOp → D → D → Option Bool
  | .Is, a, .non => match a with
    | .non => some true
    | .hole => none
    | _ => some false
  | .IsNot, a, .non => match a with
    | .non => some false
    | .hole => none
    | _ => some true
  | .Lt, .int a, .int b => some (decide (a < b))
  | .LtE, .int a, .int b => some (decide (a ≤ b))
  | .Gt, .int a, .int b => some (decide (b < a))
  | .GtE, .int a, .int b => some (decide (b ≤ a))
  | .Lt, .str a, .str b => some (strLt a b)
  | .LtE, .str a, .str b => some (!strLt b a)
  | .In, .str a, .str b => signIn a b
  | .NotIn, .str a, .str b => (signIn a b).map (!·)
  | .In, x, .tup ys => if x.okEq && ys.all D.okEq then some (ys.any fun y => pyEq y x) else none
  | .NotIn, x, .tup ys => if x.okEq && ys.all D.okEq then some (!ys.any fun y => pyEq y x) else none
  | .In, x, .lst _ ys => if x.okEq && ys.all D.okEq then some (ys.any fun y => pyEq y x) else none
  | .NotIn, x, .lst _ ys => if x.okEq && ys.all D.okEq then some (!ys.any fun y => pyEq y x) else none
  | .In, .str x, .dct _ false es => some (dGet (.str x) es).isSome
  | .NotIn, .str x, .dct _ false es => some (!(dGet (.str x) es).isSome)
  | .In, .tup x, .dct _ true es => some (dGet (.tup x) es).isSome
  | .NotIn, .tup x, .dct _ true es => some (!(dGet (.tup x) es).isSome)
  | .Eq, .scr ns, .lst _ b => if b.isEmpty then some ns.isEmpty else none
  | .Eq, a, b => if a.okEq && b.okEq then some (pyEq a b) else none
  | .NotEq, a, b => if a.okEq && b.okEq then some (!pyEq a b) else none
  | _, _, _ => none
def ixF : D → D → Option D
  | .scr ns, .int i => (ixD ns i).map .int
  | .tup xs, .int i => ixD xs i
  | .lst _ xs, .int i => ixD xs i
  | .str s, .int i => (ixD s.toList i).map fun c => .str (String.ofList [c])
  | .dct _ false es, .str k => dGet (.str k) es
  | .dct _ true es, .tup k => dGet (.tup k) es
  | _, _ => none
def ixP (x y : D) : Option D := (ixF x y).filter D.pur
def slF : D → Option Int → Option Int → Option D
  | .tup xs, lo, hi => if purL xs then some (.tup (cut xs lo hi)) else none
  | .lst _ xs, lo, hi => if purL xs then some (.lst true (cut xs lo hi)) else none
  | .str s, lo, hi => some (.str (String.ofList (cut s.toList lo hi)))
  | _, _, _ => none
def allB : List D → Option (List Bool)
  | [] => some []
  | .bl b :: r => (allB r).map (b :: ·)
  | _ => none
def allI : List D → Option (List Int)
  | [] => some []
  | .int b :: r => (allI r).map (b :: ·)
  | _ => none
def allS : List D → Option (List String)
  | [] => some []
  | .str b :: r => (allS r).map (b :: ·)
  | _ => none
/-- the name of a value's own class -/
def tyOf : D → Option String
  | .non => some "NoneType"
  | .bl _ => some "bool"
  | .int _ => some "int"
  | .str _ => some "str"
  | .tup _ => some "tuple"
  | .lst _ _ => some "list"
  | .scr _ => some "list"
  | _ => none
def isTy (d : D) (t : String) : Option Bool := match t with
  | "int" => (tyOf d).map fun n => n == "int" || n == "bool"
  | "bool" => (tyOf d).map (· == "bool")
  | "str" => (tyOf d).map (· == "str")
  | "tuple" => (tyOf d).map (· == "tuple")
  | "list" => (tyOf d).map (· == "list")
  | _ => none
def natStr (n : Nat) : String := toString n
def digit : Char → Option Int
  | '0' => some 0 | '1' => some 1 | '2' => some 2 | '3' => some 3 | '4' => some 4
  | '5' => some 5 | '6' => some 6 | '7' => some 7 | '8' => some 8 | '9' => some 9
  | _ => none
def insS (x : String) : List String → List String
  | [] => [x]
  | y :: r => if strLt x y then x :: y :: r else if x = y then y :: r else y :: insS x r
/-- sorted(set(xs)) of texts -/
def sortSet (xs : List String) : List String := xs.foldr insS []
def lenF : List D → Option D
  | [.scr ns] => some (.int ns.length)
  | [.str s] => some (.int s.length)
  | [.tup xs] => some (.int xs.length)
  | [.lst _ xs] => some (.int xs.length)
  | [.dct _ _ es] => some (.int es.length)
  | _ => none
def tupleF : List D → Option D
  | [.tup xs] => if purL xs then some (.tup xs) else none
  | [.lst _ xs] => if purL xs then some (.tup xs) else none
  | _ => none
def listF : List D → Option D
  | [.tup xs] => if purL xs then some (.lst true xs) else none
  | [.lst _ xs] => if purL xs then some (.lst true xs) else none
  | [.dct _ _ es] => some (.lst true (es.map entKey))
  | _ => none
def intF : List D → Option D
  | [.bl b] => some (.int (b2i b))
  | [.int i] => some (.int i)
  | [.str s] => match s.toList with
    | [c] => (digit c).map .int
    | _ => none
  | _ => none
def strF : List D → Option D
  | [.int i] => if 0 ≤ i && i ≤ 99 then some (.str (natStr i.toNat)) else none
  | _ => none
def isiF : List D → Option D
  | [x, .ty t] => (isTy x t).map .bl
  | _ => none
def allF : List D → Option D
  | [.lst _ xs] => (allB xs).map fun bs => .bl (bs.all id)
  | _ => none
def anyF : List D → Option D
  | [.lst _ xs] => (allB xs).map fun bs => .bl (bs.any id)
  | _ => none
def sumF : List D → Option D
  | [.lst _ xs] => (allI xs).map fun ns => .int ns.sum
  | _ => none
def maxF : List D → Option D
  | [.lst _ xs] => (allI xs).bind fun ns => match ns with
    | [] => none
    | n :: r => some (.int (r.foldl max n))
  | _ => none
def sortsetF : List D → Option D
  | [.lst _ xs] => (allS xs).map fun ss => .lst true ((sortSet ss).map .str)
  | _ => none
def dictF : List D → Option D
  | [.dct _ k es] => if purL es then some (.dct true k es) else none
  | _ => none
def bltF : Bl → List D → Option D
  | .len => lenF
  | .tuple => tupleF
  | .list => listF
  | .int => intF
  | .str => strF
  | .isinstance => isiF
  | .all => allF
  | .any => anyF
  | .sum => sumF
  | .max => maxF
  | .sortset => sortsetF
  | .sorted => fun _ => none
  | .dict => dictF
def splitOn (c : Char) : List Char → List (List Char)
  | [] => [[]]
  | d :: r => if d = c then [] :: splitOn c r else match splitOn c r with
    | [] => [[d]]
    | w :: ws => (d :: w) :: ws
def joinS (sep : String) : List String → String
  | [] => ""
  | [a] => a
  | a :: b :: r => a ++ sep ++ joinS sep (b :: r)
def findS (a b : List Char) (at_ : Nat) : Int := match b with
  | [] => if a.isEmpty then at_ else -1
  | c :: r => if a.isPrefixOf (c :: r) then at_ else findS a r (at_ + 1)
def stripB (cs : List Char) (s : List Char) : List Char := (s.drop (s.takeWhile cs.contains).length).take (s.length - ((s.drop (s.takeWhile cs.contains).length).reverse.takeWhile cs.contains).length - (s.takeWhile cs.contains).length)
def countD (x : D) (ys : List D) : Nat := ys.countP fun y => pyEq y x
def indexD (x : D) : List D → Nat → Option Nat
  | [], _ => none
  | y :: r, i => if pyEq y x then some i else indexD x r (i + 1)
def stripF : D → List D → Option D
  | .str s, [.str cs] => some (.str (String.ofList (stripB cs.toList s.toList)))
  | _, _ => none
def splitF : D → List D → Option D
  | .str s, [.str sep] => match sep.toList with
    | [c] => if c.toNat < 256 && small (s.length + 1) then some (.lst true ((splitOn c s.toList).map fun w => .str (String.ofList w))) else none
    | _ => none
  | _, _ => none
def joinF : D → List D → Option D
  | .str s, [.lst _ xs] => (allS xs).bind fun ss => if small ((ss.map String.length).sum + ss.length * s.length) then some (.str (joinS s ss)) else none
  | .str s, [.tup xs] => (allS xs).bind fun ss => if small ((ss.map String.length).sum + ss.length * s.length) then some (.str (joinS s ss)) else none
  | _, _ => none
def findF : D → List D → Option D
  | .str s, [.str a] => some (.int (findS a.toList s.toList 0))
  | _, _ => none
def countF : D → List D → Option D
  | .lst _ ys, [x] => if x.flat && ys.all D.flat then some (.int (countD x ys)) else none
  | _, _ => none
def indexF : D → List D → Option D
  | .lst _ ys, [x] => if x.okEq && ys.all D.okEq then (indexD x ys 0).map fun i => .int i else none
  | _, _ => none
def getF : D → List D → Option D
  | .dct _ _ es, [k] => some ((dGet k es).getD .non)
  | .dct _ _ es, [k, v] => some ((dGet k es).getD v)
  | _, _ => none
def bmtF : Bm → D → List D → Option D
  | .strip => stripF
  | .split => splitF
  | .join => joinF
  | .find => findF
  | .count => countF
  | .index => indexF
  | .get => getF
  | .items => fun _ _ => none
/-- of what kind a method's object is -/
def bmTy : Bm → D → Option Unit
  | .strip, .str _ => some ()
  | .split, .str _ => some ()
  | .join, .str _ => some ()
  | .find, .str _ => some ()
  | .count, .lst _ _ => some ()
  | .index, .lst _ _ => some ()
  | .get, .dct _ _ _ => some ()
  | .items, .dct _ _ _ => some ()
  | _, _ => none
def appendF : D → List D → Option (D × D)
  | .lst true xs, [y] => if small (xs.length + 1) then some (.non, .lst true (xs ++ [y])) else none
  | _, _ => none
def extendF : D → List D → Option (D × D)
  | .lst true xs, [.lst _ ys] => if small (xs.length + ys.length) && purL ys then some (.non, .lst true (xs ++ ys)) else none
  | _, _ => none
def popF : D → List D → Option (D × D)
  | .lst true xs, [] => match xs.getLast? with
    | some y => some (y, .lst true xs.dropLast)
    | none => none
  | .lst true xs, [.int i] => if i = 0 then (match xs with
    | y :: r => some (y, .lst true r)
    | [] => none) else none
  | _, _ => none
def dpopF : D → List D → Option (D × D)
  | .dct true k es, [x] => (dGet x es).map fun v => (v, .dct true k (dDel x es))
  | .dct true k es, [x, w] => some ((dGet x es).getD w, .dct true k (dDel x es))
  | _, _ => none
def setLF : D → List D → Option (D × D)
  | .lst true xs, [.int i, v] => if decide (0 ≤ i) && decide (i < xs.length) then some (.non, .lst true (xs.set i.toNat v)) else if decide (i = -1) && decide (0 < xs.length) then some (.non, .lst true (xs.set (xs.length - 1) v)) else none
  | _, _ => none
def setDF : D → List D → Option (D × D)
  | .dct true k es, [x, v] => if small (es.length + 1) then some (.non, .dct true k (dSet x v es)) else none
  | _, _ => none
/-- a thing changed by a method: what is handed back, the thing then -/
def mutF : Mu → D → List D → Option (D × D)
  | .append => appendF
  | .extend => extendF
  | .pop => popF
  | .dpop => dpopF
  | .setL => setLF
  | .setD => setDF

/-! ### meaning -/
def readV (i : Nat) : M D := fun r => match getS r i with
  | some d => if d.pur then .ok d r else if d.frz.pur then .ok d.frz (setS r i d.frz) else .err
  | none => .err
def D.isHole : D → Bool
  | .hole => true
  | _ => false
def moveV (i : Nat) : M D := fun r => match getS r i with
  | some d => if d.pur then .ok d r else if d.isHole then .err else .ok d (setS r i .hole)
  | none => .err
/-- the slot holds something -/
def hereM (i : Nat) : M Unit := fun r => match getS r i with
  | some _ => .ok () r
  | none => .err
def frzE : Env → Env := List.map fun o => o.bind fun d => if d.frz.pur then some d.frz else none
/-! looked at, not taken: what is handed back shares nothing with what is owned -/
mutual
def D.noFro : D → Bool
  | .lst o xs => o && noFroL xs
  | .dct o _ es => o && noFroL es
  | .tup xs => noFroL xs
  | .obj _ _ => false
  | .hole => false
  | _ => true
def noFroL : List D → Bool
  | [] => true
  | d :: ds => d.noFro && noFroL ds
end
def borM (x : M D) : M D := fun r => match x (frzE r) with
  | .ok d _ => if d.noFro then .ok d r else .err
  | .exc _ _ => .err
  | .err => .err
def truthM (d : D) : M Bool := M.lift d.truth
def pureM (d : D) : M D := if d.pur then pure d else M.err
def fldM (i : Nat) (f : String) : M D := fun r => match getS r i with
  | some (.obj _ fs) => match fGet f fs with
    | some d => if d.pur then .ok d r else .err
    | none => .err
  | _ => .err
def intO : D → Option Int
  | .int i => some i
  | _ => none
def keyM (d : D) : M D := if d.pur then pure d else M.err
def Mu.isL : Mu → Bool
  | .dpop => false
  | .setD => false
  | _ => true
/-- a place of the right kind -/
def tyM (l : Bool) (p : RP) : M Unit := fun r => match takeP p r with
  | some (.lst true _, _) => if l then .ok () r else .err
  | some (.dct true _ _, _) => if l then .err else .ok () r
  | _ => .err
def mutM (m : Mu) (p : RP) (ds : List D) : M D := fun r => match takeP p r with
  | some (d, r') => match mutF m d ds with
    | some (v, d') => .ok v (putP p d' r')
    | none => .err
  | none => .err
/-- the arguments as they are handed in: by value (frozen), a new thing, places whose thing is taken out -/
inductive AV where
  | val (d : D)
  | tmp (d : D)
  | io (p : RP)
def takeA : List AV → Env → Option (List D × Env)
  | [], r => some ([], r)
  | .val d :: as, r => (takeA as r).map fun x => (d :: x.1, x.2)
  | .tmp d :: as, r => (takeA as r).map fun x => (d :: x.1, x.2)
  | .io p :: as, r => match takeP p r with
    | some (.hole, _) => none
    | some (d, r1) => (takeA as r1).map fun x => (d :: x.1, x.2)
    | none => none
def giveA : List AV → List D → Env → Env
  | .io p :: as, o :: os, r => giveA as os (putP p o r)
  | .tmp _ :: as, _ :: os, r => giveA as os r
  | .val _ :: as, os, r => giveA as os r
  | _, _, r => r
def callM (cl : Cl) (x : String) (avs : List AV) : M D := fun r => match takeA avs r with
  | none => .err
  | some (ds, r1) => match cl x ds with
    | .ok d os => .ok d (giveA avs os r1)
    | .exc c os => .exc c (giveA avs os r1)
    | .err => .err
/-- the items that a walk yields -/
def seqItems : D → Option (List D)
  | .tup xs => if purL xs then some xs else none
  | .lst _ xs => if purL xs then some xs else none
  | .str s => some (s.toList.map fun c => .str (String.ofList [c]))
  | _ => none
/-- what enumerate counts -/
def enumSrc : D → Option (List D)
  | .tup xs => if purL xs then some xs else none
  | .lst _ xs => if purL xs then some xs else none
  | _ => none
/-- what zip walks: two lists or two tuples -/
def zipSrc : D → D → Option (List D × List D)
  | .tup xs, .tup ys => if purL xs && purL ys then some (xs, ys) else none
  | .lst _ xs, .lst _ ys => if purL xs && purL ys then some (xs, ys) else none
  | _, _ => none
def rngItems (lo : Int) (n : Nat) : List D := (List.range n).map fun i => .int (lo + (i : Nat))
def rngF1 : D → Option (List D)
  | .int n => if decide (n < 1000000) && decide (-1000000 < n) then some (rngItems 0 n.toNat) else none
  | _ => none
def rngF2 : D → D → Option (List D)
  | .int i, .int j => if decide (i < 1000000) && decide (-1000000 < i) && decide (j < 1000000) && decide (-1000000 < j) then some (rngItems i (j - i).toNat) else none
  | _, _ => none
def enumItems (xs : List D) : List D := xs.mapIdx fun i x => .tup [.int (i : Nat), x]
/-- unpacking into slots -/
def bindT : List Nat → List D → Env → Option Env
  | [], [], r => some r
  | i :: is, d :: ds, r => bindT is ds (setS r i d)
  | _, _, _ => none
def tgtM (ts : List Nat) (one : Bool) (d : D) : M Unit := fun r => match one, ts, d with
  | true, [i], d => .ok () (setS r i d)
  | false, ts, .tup ds => match bindT ts ds r with
    | some r' => .ok () r'
    | none => .err
  | _, _, _ => .err
def wipeE (own : List Nat) (r : Env) : Env := own.foldr (fun i r => r.set i none) r
/-- a comprehension's turns: the slots of its own are new at each turn and forgotten behind it -/
def lcM (own ts : List Nat) (one : Bool) (cnd : M Bool) (elt : M D) : List D → List D → M D
  | [], acc => fun r => .ok (.lst true acc) (wipeE own r)
  | x :: xs, acc => fun r => match tgtM ts one x (wipeE own r) with
    | .ok _ r1 => match cnd r1 with
      | .ok true r2 => match elt r2 with
        | .ok d r3 => if d.pur && small (acc.length + 1) then lcM own ts one cnd elt xs (acc ++ [d]) r3 else .err
        | .exc _ _ => .err
        | .err => .err
      | .ok false r2 => lcM own ts one cnd elt xs acc r2
      | .exc _ _ => .err
      | .err => .err
    | .exc _ _ => .err
    | .err => .err
inductive Fl where
  | nx
  | rt (d : D)
def forM (ts : List Nat) (one : Bool) (body : M Fl) : List D → M Fl
  | [], r => .ok .nx r
  | x :: xs, r => match tgtM ts one x r with
    | .ok _ r1 => match body r1 with
      | .ok .nx r2 => forM ts one body xs r2
      | .ok (.rt d) r2 => .ok (.rt d) r2
      | .exc c r2 => .exc c r2
      | .err => .err
    | .exc c r1 => .exc c r1
    | .err => .err
/-- so many turns at the most -/
def whileN (c : M Bool) (b : M Fl) : Nat → M Fl
  | 0, _ => .err
  | n + 1, r => match c r with
    | .ok true r1 => match b r1 with
      | .ok .nx r2 => whileN c b n r2
      | .ok (.rt d) r2 => .ok (.rt d) r2
      | .exc c r2 => .exc c r2
      | .err => .err
    | .ok false r1 => .ok .nx r1
    | .exc c r1 => .exc c r1
    | .err => .err
def Res.isErr {α : Type} : Res α → Bool
  | .err => true
  | _ => false
open Classical in
/-- as many turns as it takes -/
noncomputable def whileM (c : M Bool) (b : M Fl) : M Fl := fun r => if h : ∃ n, (whileN c b n r).isErr = false then whileN c b (Classical.choose h) r else .err
theorem whileN_more (c : M Bool) (b : M Fl) : ∀ (n : Nat) (r : Env), (whileN c b n r).isErr = false → whileN c b (n + 1) r = whileN c b n r := by
  intro n
  induction n with
  | zero => intro r h; exact absurd h (by simp [whileN, Res.isErr])
  | succ n ih =>
    intro r h
    rw [whileN]
    conv => rhs; rw [whileN]
    cases hc : c r with
    | ok k r1 =>
      cases k with
      | false => rfl
      | true =>
        simp only
        cases hb : b r1 with
        | ok fl r2 =>
          cases fl with
          | rt d => rfl
          | nx =>
            simp only
            apply ih
            rw [whileN, hc] at h
            simp only [hb] at h
            exact h
        | exc _ _ => rfl
        | err => rfl
    | exc _ _ => rfl
    | err => rfl
theorem whileN_le (c : M Bool) (b : M Fl) (n : Nat) (r : Env) (h : (whileN c b n r).isErr = false) : ∀ m, n ≤ m → whileN c b m r = whileN c b n r := by
  intro m hm
  induction hm with
  | refl => rfl
  | step hm ih =>
    rw [whileN_more c b _ r (by rw [ih]; exact h), ih]
theorem whileM_of (c : M Bool) (b : M Fl) (n : Nat) (r : Env) (h : (whileN c b n r).isErr = false) : whileM c b r = whileN c b n r := by
  have hex : ∃ n, (whileN c b n r).isErr = false := ⟨n, h⟩
  rw [whileM, dif_pos hex]
  have hs := Classical.choose_spec hex
  rcases Nat.le_total n (Classical.choose hex) with hl | hl
  · exact whileN_le c b n r h _ hl
  · exact (whileN_le c b _ r hs _ hl).symm
theorem whileM_some (c : M Bool) (b : M Fl) (r : Env) (h : (whileM c b r).isErr = false) : ∃ n, whileM c b r = whileN c b n r ∧ (whileN c b n r).isErr = false := by
  by_cases hex : ∃ n, (whileN c b n r).isErr = false
  · obtain ⟨n, hn⟩ := hex
    exact ⟨n, whileM_of c b n r hn, hn⟩
  · rw [whileM, dif_neg hex] at h
    exact absurd h (by simp [Res.isErr])
/-- a while is its first turn and the while behind it -/
theorem whileM_eq (c : M Bool) (b : M Fl) (r : Env) : whileM c b r = (match c r with
    | .ok true r1 => match b r1 with
      | .ok .nx r2 => whileM c b r2
      | .ok (.rt d) r2 => .ok (.rt d) r2
      | .exc c r2 => .exc c r2
      | .err => .err
    | .ok false r1 => .ok .nx r1
    | .exc c r1 => .exc c r1
    | .err => .err) := by
  by_cases hex : ∃ n, (whileN c b n r).isErr = false
  · obtain ⟨n, hn⟩ := hex
    rw [whileM_of c b n r hn]
    cases n with
    | zero => exact absurd hn (by simp [whileN, Res.isErr])
    | succ n =>
      rw [whileN] at hn ⊢
      cases hc : c r with
      | ok k r1 =>
        cases k with
        | false => rfl
        | true =>
          rw [hc] at hn
          simp only at hn ⊢
          cases hb : b r1 with
          | ok fl r2 =>
            cases fl with
            | rt d => rfl
            | nx =>
              rw [hb] at hn
              simp only at hn ⊢
              exact (whileM_of c b n r2 hn).symm
          | exc _ _ => rfl
          | err => rfl
      | exc _ _ => rfl
      | err => rfl
  · rw [whileM, dif_neg hex]
    cases hc : c r with
    | ok k r1 =>
      cases k with
      | false => exact absurd ⟨1, by simp [whileN, hc, Res.isErr]⟩ hex
      | true =>
        simp only
        cases hb : b r1 with
        | ok fl r2 =>
          cases fl with
          | rt d => exact absurd ⟨1, by simp [whileN, hc, hb, Res.isErr]⟩ hex
          | nx =>
            simp only
            by_cases hx : ∃ n, (whileN c b n r2).isErr = false
            · obtain ⟨n, hn⟩ := hx
              exact absurd ⟨n + 1, by simp [whileN, hc, hb, hn]⟩ hex
            · rw [whileM, dif_neg hx]
        | exc _ _ => exact absurd ⟨1, by simp [whileN, hc, hb, Res.isErr]⟩ hex
        | err => rfl
    | exc _ _ => exact absurd ⟨1, by simp [whileN, hc, Res.isErr]⟩ hex
    | err => rfl

/-! ### expressions -/
mutual
def evE (cl : Cl) : ME → M D
  | .var i => readV i
  | .mv i => moveV i
  | .con d => pure d
  | .glob _ d => pure d
  | .bin op a b => do
    let x ← evE cl a
    let y ← evE cl b
    M.lift (binF op x y)
  | .cmp op a b => do
    let x ← evE cl a
    let y ← evE cl b
    M.lift ((cmpF op x y).map .bl)
  | .chn op op' a b c => do
    let x ← evE cl a
    let y ← evE cl b
    let y ← pureM y
    match cmpF op x y with
    | some true => do
      let z ← evE cl c
      M.lift ((cmpF op' y z).map .bl)
    | some false => pure (.bl false)
    | none => M.err
  | .inv a => do
    let x ← evE cl a
    let b ← truthM x
    pure (.bl !b)
  | .neg a => do
    match ← evE cl a with
    | .int i => pure (.int (-i))
    | _ => M.err
  | .and_ a b => do
    let x ← evE cl a
    let k ← truthM x
    if k then evE cl b else pure x
  | .or_ a b => do
    let x ← evE cl a
    let k ← truthM x
    if k then pure x else evE cl b
  | .ite c a b => do
    let k ← evT cl c
    if k then evE cl a else evE cl b
  | .tup es => do
    let ds ← evEs cl es
    if small ds.length then pure (.tup ds) else M.err
  | .lst es => do
    let ds ← evEs cl es
    if small ds.length then pure (.lst true ds) else M.err
  | .dnew k => pure (.dct true k [])
  | .ddis ks vs => do
    let a ← evEs cl ks
    let b ← evEs cl vs
    if a.length = b.length ∧ a.length ≤ 15 ∧ purL a = true ∧ purL b = true then pure (.dct true false ((a.zip b).foldl (fun es p => dSet p.1 p.2 es) [])) else M.err
  | .ix a b => do
    let x ← evE cl a
    let y ← evE cl b
    M.lift (ixP x y)
  | .sl a lo hi => do
    let x ← evE cl a
    let l ← evO cl lo
    let h ← evO cl hi
    M.lift (slF x l h)
  | .rev a => do
    let x ← evE cl a
    match x with
    | .tup xs => if purL xs then pure (.tup xs.reverse) else M.err
    | _ => M.err
  | .blt x es => do
    let ds ← evEs cl es
    M.lift (bltF x ds)
  | .bmt m o es => do
    let x ← evE cl o
    M.lift (bmTy m x)
    let ds ← evEs cl es
    M.lift (bmtF m x ds)
  | .fld i f => fldM i f
  | .mut m p es => do
    let rp ← evP cl p
    tyM m.isL rp
    let ds ← evEs cl es
    mutM m rp ds
  | .call x as => do
    let avs ← evA cl as
    callM cl x avs
  | .meth i x as => do
    let avs ← evA cl as
    callM cl x (.io (.sl i) :: avs)
  | .make c x as => do
    let avs ← evA cl as
    (fun r => match takeA avs r with
      | none => .err
      | some (ds, r1) => match cl x (.obj c [] :: ds) with
        | .ok .non (o :: os) => .ok o (giveA avs os r1)
        | .exc e (_ :: os) => .exc e (giveA avs os r1)
        | _ => .err)
  | .lc own ts one it c e => do
    let xs ← evI cl it
    lcM own ts one (evC cl c) (evE cl e) xs []
  | .bor a => borM (evE cl a)
/-- a test -/
def evT (cl : Cl) : ME → M Bool
  | .inv a => do
    let k ← evT cl a
    pure !k
  | .and_ a b => do
    let k ← evT cl a
    if k then evT cl b else pure false
  | .or_ a b => do
    let k ← evT cl a
    if k then pure true else evT cl b
  | .ite c a b => do
    let k ← evT cl c
    if k then evT cl a else evT cl b
  | e => do
    let x ← evE cl e
    truthM x
def evC (cl : Cl) : MO → M Bool
  | .no => pure true
  | .so e => evT cl e
def evO (cl : Cl) : MO → M (Option Int)
  | .no => pure none
  | .so e => do
    match ← evE cl e with
    | .int i => pure (some i)
    | _ => M.err
def evEs (cl : Cl) : MEs → M (List D)
  | .nil => pure []
  | .cons e es => do
    let x ← evE cl e
    let xs ← evEs cl es
    pure (x :: xs)
def evA (cl : Cl) : MAs → M (List AV)
  | .nil => pure []
  | .val e as => do
    let x ← evE cl e
    let x ← pureM x.frz
    let xs ← evA cl as
    pure (.val x :: xs)
  | .tmp e as => do
    let x ← evE cl e
    let xs ← evA cl as
    pure (.tmp x :: xs)
  | .io i as => do
    hereM i
    let xs ← evA cl as
    pure (.io (.sl i) :: xs)
  | .iof i f .nil => fun r => match getS r i with
    | some (.obj _ fs) => match fGet f fs with
      | some _ => .ok [.io (.fl i f)] r
      | none => .err
    | _ => .err
  | .iof _ _ _ => M.err
def evP (cl : Cl) : MP → M RP
  | .sl i => pure (.sl i)
  | .fl i f => pure (.fl i f)
  | .ky i e => do
    let k ← evE cl e
    let k ← pureM k
    pure (.ky i k)
def evI (cl : Cl) : MI → M (List D)
  | .seq e => do
    let x ← evE cl e
    M.lift (seqItems x)
  | .rng1 a => do
    let x ← evE cl a
    M.lift (rngF1 x)
  | .rng2 a b => do
    let x ← evE cl a
    let y ← evE cl b
    M.lift (rngF2 x y)
  | .enum e => do
    let x ← evE cl e
    M.lift ((enumSrc x).map enumItems)
  | .zip a b => do
    let x ← evE cl a
    let y ← evE cl b
    M.lift ((zipSrc x y).map fun q => (q.1.zip q.2).map fun p => .tup [p.1, p.2])
end

/-! ### statements -/
def setT : List MT → List D → Env → Option Env
  | [], [], r => some r
  | .sl i :: ts, d :: ds, r => setT ts ds (setS r i d)
  | .fl i f :: ts, d :: ds, r => match getS r i with
    | some (.obj c fs) => if decide (fs.length < 900) then setT ts ds (setS r i (.obj c (fSet f d fs))) else none
    | _ => none
  | _, _, _ => none
mutual
noncomputable def evS (cl : Cl) : MS → M Fl
  | .ret e => do
    let d ← evE cl e
    pure (.rt d)
  | .retN => pure (.rt .non)
  | .set i e => do
    let d ← evE cl e
    (fun r => .ok .nx (setS r i d))
  | .tupset ts e => do
    match ← evE cl e with
    | .tup ds => (fun r => match setT ts ds r with
      | some r' => .ok .nx r'
      | none => .err)
    | .lst false ds => (fun r => match setT ts ds r with
      | some r' => .ok .nx r'
      | none => .err)
    | _ => M.err
  | .par i j a b => do
    let x ← evE cl a
    let y ← evE cl b
    (fun r => .ok .nx (setS (setS r i x) j y))
  | .setix p k e => do
    let v ← evE cl e
    let rp ← evP cl p
    let k ← evE cl k
    let k ← pureM k
    let _ ← mutM (match k with | .int _ => .setL | _ => .setD) rp [k, v]
    pure .nx
  | .setf i f e => do
    let d ← evE cl e
    (fun r => match setT [.fl i f] [d] r with
      | some r' => .ok .nx r'
      | none => .err)
  | .exp e => do
    let _ ← evE cl e
    pure .nx
  | .ite c a b => do
    let k ← evT cl c
    if k then evSs cl a else evSs cl b
  | .for_ ts one it b => do
    let xs ← evI cl it
    forM ts one (evSs cl b) xs
  | .whl c b => whileM (evT cl c) (evSs cl b)
  | .raise c => fun r => .exc c r
  | .pass => pure .nx
noncomputable def evSs (cl : Cl) : MSs → M Fl
  | .nil => pure .nx
  | .cons s ss => do
    match ← evS cl s with
    | .nx => evSs cl ss
    | .rt d => pure (.rt d)
end

/-! ### defs -/
/-- what an except suite hands back -/
inductive MH where
  | con (d : D)
  | which (x : String)
structure MFn where
  /-- is the parameter one that is changed -/
  io : List Bool
  slots : Nat
  body : MSs
  /-- the class that is caught, and what is handed back then -/
  tr : Option (String × MH) := none
def outsOf : List Bool → Env → Option (List D)
  | [], _ => some []
  | false :: bs, _ :: r => outsOf bs r
  | true :: bs, some .hole :: _ => none
  | true :: bs, some d :: r => (outsOf bs r).map (d :: ·)
  | _, _ => none
noncomputable def runFn (cl : Cl) (f : MFn) (ds : List D) : Fin :=
  if ds.length = f.io.length then
    match evSs cl f.body (ds.map some ++ List.replicate (f.slots - ds.length) none) with
    | .ok fl r => match outsOf f.io r with
      | some os => .ok (match fl with | .nx => .non | .rt d => d) os
      | none => .err
    | .exc c r => match outsOf f.io r with
      | some os => match f.tr with
        | none => .exc c os
        | some (k, h) => if k = "TreeError" ∨ k = c then (match h with
            | .con d => .ok d os
            | .which x => match cl x [.glo c] with
              | .ok d [] => .ok d os
              | _ => .err) else .exc c os
      | none => .err
    | .err => .err
  else .err
noncomputable def callN (tbl : String → Option MFn) : Nat → Cl
  | 0, _, _ => .err
  | n + 1, x, ds => match tbl x with
    | some f => runFn (callN tbl n) f ds
    | none => .err
end TT
set_option Elab.async false
set_option linter.all false
/-! TC: how data stands in the heap -/
namespace TT
open PySem PySem.Spec L2

/-- objects that nobody changes -/
def fixd : HO → Bool
  | .tup _ => true
  | .frz _ _ => true
  | _ => false
/-- M alone is changed -/
def Kp (H H' : Hp) (M : List Addr) : Prop := ∀ a o, H a = some o → (a ∉ M ∨ fixd o = true) → H' a = some o
theorem Kp.refl (H : Hp) (M : List Addr) : Kp H H M := fun _ _ h _ => h
theorem Kp.tup {H H' : Hp} {M : List Addr} (k : Kp H H' M) {a : Addr} {xs : List V} (h : H a = some (.tup xs)) : H' a = some (.tup xs) := k a _ h (.inr rfl)
theorem Kp.frz {H H' : Hp} {M : List Addr} (k : Kp H H' M) {a : Addr} {o : Obj} {u : HO} (h : H a = some (.frz o u)) : H' a = some (.frz o u) := k a _ h (.inr rfl)

section
variable (K : PySem.W.Frag) (mg : Str → Option Value)
/-- a list of the written part -/
def KLst (a : Addr) (vs : List V) : Prop := ∃ (o : Obj) (its : Array Value) (n : Nat), K.lookup a = some o ∧ o.cls = .type "list" ∧ o.dict = none ∧ o.data = .seq its n ∧ its.size ≤ sizeLine ∧ Vals vs its.toList
/-- the object of a name of the module's -/
def Glo (x : String) (a : Addr) : Prop := mg (Str.ofString x) = some (.ref a)
/-- a dict's keys are short -/
def KO (es : List D) : Prop := es.length ≤ most ∧ ∀ s d, D.tup [.str s, d] ∈ es → s.length ≤ most
mutual
/-- the data d is the value v; F: the addresses that are owned in it; W: what may be changed by anyone now -/
def RV (H : Hp) (W : List Addr) : D → V → List Addr → Prop
  | .non, v, F => v = .non ∧ F = []
  | .bl b, v, F => v = .bl b ∧ F = []
  | .int i, v, F => v = .int i ∧ F = []
  | .str s, v, F => v = .str (Str.ofString s) ∧ s.length ≤ most ∧ F = []
  | .tup ds, v, F => ∃ a vs, v = .ref a ∧ SqT K H a vs ∧ ds.length ≤ most ∧ RL H W ds vs F
  | .lst false ds, v, F => ∃ a vs, v = .ref a ∧ H a = some (.lst vs) ∧ a ∉ W ∧ ds.length ≤ most ∧ RL H W ds vs [] ∧ F = []
  | .lst true ds, v, F => ∃ a vs F', v = .ref a ∧ H a = some (.lst vs) ∧ ds.length ≤ most ∧ RL H W ds vs F' ∧ F = a :: F'
  | .dct false false es, v, F => ∃ a kvs, v = .ref a ∧ H a = some (.dK kvs) ∧ a ∉ W ∧ KO es ∧ RE H W es kvs [] ∧ F = []
  | .dct true false es, v, F => ∃ a kvs F', v = .ref a ∧ H a = some (.dK kvs) ∧ KO es ∧ RE H W es kvs F' ∧ F = a :: F'
  | .dct false true _, _, _ => False
  | .dct true true _, _, _ => False
  | .obj c fs, v, F => ∃ a C dx fvs F', v = .ref a ∧ H a = some (.ins C dx fvs) ∧ H dx = some (.own a) ∧ Glo mg c C ∧ fs.length ≤ 900 ∧ RF H W fs fvs F' ∧ F = a :: dx :: F'
  | .glo x, v, F => ∃ a, v = .ref a ∧ Glo mg x a ∧ F = []
  | .ty n, v, F => v = .ty n ∧ F = []
  | .scr ns, v, F => ∃ a, v = .ref a ∧ ((∃ o, H a = some (.frz o (.lst (ns.map V.int)))) ∨ KLst K a (ns.map V.int)) ∧ ns.length ≤ most ∧ F = []
  | .hole, _, F => F = []
def RL (H : Hp) (W : List Addr) : List D → List V → List Addr → Prop
  | [], vs, F => vs = [] ∧ F = []
  | d :: ds, vs, F => ∃ v vs' F1 F2, vs = v :: vs' ∧ RV H W d v F1 ∧ RL H W ds vs' F2 ∧ F = F1 ++ F2
def RE (H : Hp) (W : List Addr) : List D → List (Key × V) → List Addr → Prop
  | [], kvs, F => kvs = [] ∧ F = []
  | .tup [.str s, d] :: es, kvs, F => ∃ v kvs' F1 F2, kvs = (Sum.inr (Str.ofString s), v) :: kvs' ∧ RV H W d v F1 ∧ RE H W es kvs' F2 ∧ F = F1 ++ F2
  | _ :: _, _, _ => False
def RF (H : Hp) (W : List Addr) : List D → List (Str × V) → List Addr → Prop
  | [], kvs, F => kvs = [] ∧ F = []
  | .tup [.str s, d] :: es, kvs, F => ∃ v kvs' F1 F2, kvs = (Str.ofString s, v) :: kvs' ∧ RV H W d v F1 ∧ RF H W es kvs' F2 ∧ F = F1 ++ F2
  | _ :: _, _, _ => False
end
/-- the slots -/
def RS (H : Hp) (W : List Addr) : Env → St → List Addr → Prop
  | [], s, F => s = [] ∧ F = []
  | none :: r, s, F => ∃ o s', s = o :: s' ∧ RS H W r s' F
  | some d :: r, s, F => ∃ v s' F1 F2, s = some v :: s' ∧ RV K mg H W d v F1 ∧ RS H W r s' F2 ∧ F = F1 ++ F2
end
section
variable {K : PySem.W.Frag} {mg : Str → Option Value} {H H' : Hp} {W W' M : List Addr}
mutual
theorem RV.stab (k : Kp H H' M) (hM : ∀ a ∈ M, a ∈ W) (hW : ∀ a ∈ W', a ∈ W ∨ H a = none) : ∀ (d : D) (v : V) (F : List Addr), RV K mg H W d v F → (∀ a ∈ F, a ∉ M) → RV K mg H' W' d v F
  | .non, _, _, h, _ => h
  | .bl _, _, _, h, _ => h
  | .int _, _, _, h, _ => h
  | .str _, _, _, h, _ => h
  | .glo _, _, _, h, _ => h
  | .ty _, _, _, h, _ => h
  | .hole, _, _, h, _ => h
  | .scr ns, v, F, h, _ => by
    obtain ⟨a, e, h, n, f⟩ := h
    refine ⟨a, e, ?_, n, f⟩
    rcases h with ⟨o, h⟩ | h
    · exact .inl ⟨o, k.frz h⟩
    · exact .inr h
  | .tup ds, v, F, h, hF => by
    obtain ⟨a, vs, e, h, n, r⟩ := h
    refine ⟨a, vs, e, ?_, n, RL.stab k hM hW ds vs F r hF⟩
    rcases h with (h | ⟨o, h⟩) | h
    · exact .inl (.inl (k.tup h))
    · exact .inl (.inr ⟨o, k.frz h⟩)
    · exact .inr h
  | .lst false ds, v, F, h, hF => by
    obtain ⟨a, vs, e, h, hw, n, r, f⟩ := h
    refine ⟨a, vs, e, k a _ h (.inl fun z => hw (hM a z)), fun z => ?_, n, RL.stab k hM hW ds vs [] r (fun _ z => nomatch z), f⟩
    rcases hW a z with z | z
    · exact hw z
    · rw [h] at z; cases z
  | .lst true ds, v, F, h, hF => by
    obtain ⟨a, vs, F', e, h, n, r, f⟩ := h
    subst f
    exact ⟨a, vs, F', e, k a _ h (.inl (hF a List.mem_cons_self)), n, RL.stab k hM hW ds vs F' r (fun b hb => hF b (List.mem_cons_of_mem _ hb)), rfl⟩
  | .dct false false es, v, F, h, hF => by
    obtain ⟨a, vs, e, h, hw, n, r, f⟩ := h
    refine ⟨a, vs, e, k a _ h (.inl fun z => hw (hM a z)), fun z => ?_, n, RE.stab k hM hW es vs [] r (fun _ z => nomatch z), f⟩
    rcases hW a z with z | z
    · exact hw z
    · rw [h] at z; cases z
  | .dct true false es, v, F, h, hF => by
    obtain ⟨a, vs, F', e, h, n, r, f⟩ := h
    subst f
    exact ⟨a, vs, F', e, k a _ h (.inl (hF a List.mem_cons_self)), n, RE.stab k hM hW es vs F' r (fun b hb => hF b (List.mem_cons_of_mem _ hb)), rfl⟩
  | .dct false true _, _, _, h, _ => h
  | .dct true true _, _, _, h, _ => h
  | .obj c fs, v, F, h, hF => by
    obtain ⟨a, C, dx, fvs, F', e, h, hd, g, n, r, f⟩ := h
    subst f
    exact ⟨a, C, dx, fvs, F', e, k a _ h (.inl (hF a (by simp))), k dx _ hd (.inl (hF dx (by simp))), g, n, RF.stab k hM hW fs fvs F' r (fun b hb => hF b (by simp [hb])), rfl⟩
theorem RL.stab (k : Kp H H' M) (hM : ∀ a ∈ M, a ∈ W) (hW : ∀ a ∈ W', a ∈ W ∨ H a = none) : ∀ (ds : List D) (vs : List V) (F : List Addr), RL K mg H W ds vs F → (∀ a ∈ F, a ∉ M) → RL K mg H' W' ds vs F
  | [], _, _, h, _ => h
  | d :: ds, vs, F, h, hF => by
    obtain ⟨v, vs', F1, F2, e, h1, h2, f⟩ := h
    subst f
    exact ⟨v, vs', F1, F2, e, RV.stab k hM hW d v F1 h1 (fun a z => hF a (by simp [z])), RL.stab k hM hW ds vs' F2 h2 (fun a z => hF a (by simp [z])), rfl⟩
theorem RE.stab (k : Kp H H' M) (hM : ∀ a ∈ M, a ∈ W) (hW : ∀ a ∈ W', a ∈ W ∨ H a = none) : ∀ (es : List D) (vs : List (Key × V)) (F : List Addr), RE K mg H W es vs F → (∀ a ∈ F, a ∉ M) → RE K mg H' W' es vs F
  | [], _, _, h, _ => h
  | .tup [.str s, d] :: es, vs, F, h, hF => by
    obtain ⟨v, vs', F1, F2, e, h1, h2, f⟩ := h
    subst f
    exact ⟨v, vs', F1, F2, e, RV.stab k hM hW d v F1 h1 (fun a z => hF a (by simp [z])), RE.stab k hM hW es vs' F2 h2 (fun a z => hF a (by simp [z])), rfl⟩
theorem RF.stab (k : Kp H H' M) (hM : ∀ a ∈ M, a ∈ W) (hW : ∀ a ∈ W', a ∈ W ∨ H a = none) : ∀ (es : List D) (vs : List (Str × V)) (F : List Addr), RF K mg H W es vs F → (∀ a ∈ F, a ∉ M) → RF K mg H' W' es vs F
  | [], _, _, h, _ => h
  | .tup [.str s, d] :: es, vs, F, h, hF => by
    obtain ⟨v, vs', F1, F2, e, h1, h2, f⟩ := h
    subst f
    exact ⟨v, vs', F1, F2, e, RV.stab k hM hW d v F1 h1 (fun a z => hF a (by simp [z])), RF.stab k hM hW es vs' F2 h2 (fun a z => hF a (by simp [z])), rfl⟩
end
theorem RS.stab (k : Kp H H' M) (hM : ∀ a ∈ M, a ∈ W) (hW : ∀ a ∈ W', a ∈ W ∨ H a = none) : ∀ (r : Env) (s : St) (F : List Addr), RS K mg H W r s F → (∀ a ∈ F, a ∉ M) → RS K mg H' W' r s F
  | [], _, _, h, _ => h
  | none :: r, s, F, h, hF => by
    obtain ⟨o, s', e, h⟩ := h
    exact ⟨o, s', e, RS.stab k hM hW r s' F h hF⟩
  | some d :: r, s, F, h, hF => by
    obtain ⟨v, s', F1, F2, e, h1, h2, f⟩ := h
    subst f
    exact ⟨v, s', F1, F2, e, RV.stab k hM hW d v F1 h1 (fun a z => hF a (by simp [z])), RS.stab k hM hW r s' F2 h2 (fun a z => hF a (by simp [z])), rfl⟩
end
end TT
set_option Elab.async false
set_option linter.all false
/-! TD: readings by meaning; how they are put together -/
namespace TT
open PySem PySem.Spec L2

section
variable {K : PySem.W.Frag} {mg : Str → Option Value} {H H' H1 H2 : Hp} {W W' M F F' F1 F2 G A B : List Addr}
theorem RV.reW {d : D} {v : V} (h : RV K mg H W d v F) (s : ∀ a ∈ W', a ∈ W ∨ H a = none) : RV K mg H W' d v F := RV.stab (M := []) (Kp.refl H []) (fun _ z => nomatch z) s d v F h (fun _ _ z => nomatch z)
theorem RL.reW {ds : List D} {vs : List V} (h : RL K mg H W ds vs F) (s : ∀ a ∈ W', a ∈ W ∨ H a = none) : RL K mg H W' ds vs F := RL.stab (M := []) (Kp.refl H []) (fun _ z => nomatch z) s ds vs F h (fun _ _ z => nomatch z)
theorem RS.reW {r : Env} {s : L2.St} (h : RS K mg H W r s F) (q : ∀ a ∈ W', a ∈ W ∨ H a = none) : RS K mg H W' r s F := RS.stab (M := []) (Kp.refl H []) (fun _ z => nomatch z) q r s F h (fun _ _ z => nomatch z)

/-- from H to H' only F was changed; F' is what is owned then -/
structure Po (H H' : Hp) (F F' : List Addr) : Prop where
  kp : Kp H H' F
  gr : ∀ a, H a ≠ none → H' a ≠ none
  fp : ∀ a ∈ F', a ∈ F ∨ H a = none
theorem Po.refl : Po H H F F := ⟨Kp.refl H F, fun _ z => z, fun _ z => .inl z⟩
theorem Po.sub (p : Po H H' F F') (h : ∀ a ∈ F1, a ∈ F') : Po H H' F F1 := ⟨p.kp, p.gr, fun a z => p.fp a (h a z)⟩
theorem Po.wide (p : Po H H' F F') (h : ∀ a ∈ F, a ∈ F1) : Po H H' F1 F' := ⟨fun a o e z => p.kp a o e (z.elim (fun z => .inl fun y => z (h a y)) .inr), p.gr, fun a z => (p.fp a z).elim (fun z => .inl (h a z)) .inr⟩
theorem Po.trans (p : Po H H1 F F1) (q : Po H1 H2 F1 F2) : Po H H2 F F2 where
  kp := fun a o e z => by
    have e1 := p.kp a o e z
    refine q.kp a o e1 (z.elim (fun z => .inl fun y => ?_) .inr)
    rcases p.fp a y with y | y
    · exact z y
    · rw [e] at y; cases y
  gr := fun a z => q.gr a (p.gr a z)
  fp := fun a z => by
    rcases q.fp a z with z | z
    · exact p.fp a z
    · right
      cases e : H a with
      | none => rfl
      | some o => exact absurd z (p.gr a (by rw [e]; exact fun x => nomatch x))
/-- a part that is left alone stays one's own -/
theorem Po.frame (p : Po H H1 F F1) (t : ∀ a ∈ A, H a ≠ none) : Po H H1 (A ++ F) (A ++ F1) :=
  ⟨fun a o e z => p.kp a o e (z.elim (fun z => .inl fun y => z (List.mem_append_right _ y)) .inr), p.gr, fun a z => by
    rcases List.mem_append.mp z with z | z
    · exact .inl (List.mem_append_left _ z)
    · rcases p.fp a z with z | z
      · exact .inl (List.mem_append_right _ z)
      · exact .inr z⟩
theorem Po.new {a : Addr} {o : HO} (h : H a = none) : Po H (upd H a o) F (a :: F) where
  kp := fun b u e _ => by rw [upd_ne (ne_of_none e h)]; exact e
  gr := fun b z => by
    by_cases e : b = a
    · subst e; exact absurd h z
    · rw [upd_ne e]; exact z
  fp := fun b z => by
    rcases List.mem_cons.mp z with z | z
    · subst z; exact .inr h
    · exact .inl z

mutual
/-- what is owned stands in the heap -/
theorem RV.tracked : ∀ (d : D) (v : V) (F : List Addr), RV K mg H W d v F → ∀ a ∈ F, H a ≠ none
  | .non, _, _, h, a, z => by obtain ⟨_, rfl⟩ := h; cases z
  | .bl _, _, _, h, a, z => by obtain ⟨_, rfl⟩ := h; cases z
  | .int _, _, _, h, a, z => by obtain ⟨_, rfl⟩ := h; cases z
  | .str _, _, _, h, a, z => by obtain ⟨_, _, rfl⟩ := h; cases z
  | .glo _, _, _, h, a, z => by obtain ⟨_, _, _, rfl⟩ := h; cases z
  | .ty _, _, _, h, a, z => by obtain ⟨_, rfl⟩ := h; cases z
  | .hole, _, _, h, a, z => by have e : _ = [] := h; rw [e] at z; cases z
  | .scr _, _, _, h, a, z => by obtain ⟨_, _, _, _, rfl⟩ := h; cases z
  | .tup ds, _, _, h, a, z => by
    obtain ⟨_, vs, _, _, _, r⟩ := h
    exact RL.tracked ds vs _ r a z
  | .lst false ds, _, _, h, a, z => by obtain ⟨_, _, _, _, _, _, _, rfl⟩ := h; cases z
  | .lst true ds, _, _, h, a, z => by
    obtain ⟨b, vs, F', _, e, _, r, rfl⟩ := h
    rcases List.mem_cons.mp z with z | z
    · rw [z, e]; exact fun x => nomatch x
    · exact RL.tracked ds vs _ r a z
  | .dct false false es, _, _, h, a, z => by obtain ⟨_, _, _, _, _, _, _, rfl⟩ := h; cases z
  | .dct true false es, _, _, h, a, z => by
    obtain ⟨b, vs, F', _, e, _, r, rfl⟩ := h
    rcases List.mem_cons.mp z with z | z
    · rw [z, e]; exact fun x => nomatch x
    · exact RE.tracked es vs _ r a z
  | .dct false true es, _, _, h, _, _ => h.elim
  | .dct true true es, _, _, h, _, _ => h.elim
  | .obj c fs, _, _, h, a, z => by
    obtain ⟨b, C, dx, vs, F', _, e, ed, _, _, r, rfl⟩ := h
    rcases List.mem_cons.mp z with z | z
    · rw [z, e]; exact fun x => nomatch x
    · rcases List.mem_cons.mp z with z | z
      · rw [z, ed]; exact fun x => nomatch x
      · exact RF.tracked fs vs _ r a z
theorem RL.tracked : ∀ (ds : List D) (vs : List V) (F : List Addr), RL K mg H W ds vs F → ∀ a ∈ F, H a ≠ none
  | [], _, _, h, a, z => by obtain ⟨_, rfl⟩ := h; cases z
  | d :: ds, _, _, h, a, z => by
    obtain ⟨v, vs, F1, F2, _, h1, h2, rfl⟩ := h
    rcases List.mem_append.mp z with z | z
    · exact RV.tracked d v _ h1 a z
    · exact RL.tracked ds vs _ h2 a z
theorem RE.tracked : ∀ (ds : List D) (vs : List (Key × V)) (F : List Addr), RE K mg H W ds vs F → ∀ a ∈ F, H a ≠ none
  | [], _, _, h, a, z => by obtain ⟨_, rfl⟩ := h; cases z
  | .tup [.str s, d] :: ds, _, _, h, a, z => by
    obtain ⟨v, vs, F1, F2, _, h1, h2, rfl⟩ := h
    rcases List.mem_append.mp z with z | z
    · exact RV.tracked d v _ h1 a z
    · exact RE.tracked ds vs _ h2 a z
theorem RF.tracked : ∀ (ds : List D) (vs : List (Str × V)) (F : List Addr), RF K mg H W ds vs F → ∀ a ∈ F, H a ≠ none
  | [], _, _, h, a, z => by obtain ⟨_, rfl⟩ := h; cases z
  | .tup [.str s, d] :: ds, _, _, h, a, z => by
    obtain ⟨v, vs, F1, F2, _, h1, h2, rfl⟩ := h
    rcases List.mem_append.mp z with z | z
    · exact RV.tracked d v _ h1 a z
    · exact RF.tracked ds vs _ h2 a z
end
mutual
/-- pure data owns nothing -/
theorem RV.pure_nil : ∀ (d : D) (v : V) (F : List Addr), d.pur = true → RV K mg H W d v F → F = []
  | .non, _, _, _, h => h.2
  | .bl _, _, _, _, h => h.2
  | .int _, _, _, _, h => h.2
  | .str _, _, _, _, h => h.2.2
  | .glo _, _, _, _, h => by obtain ⟨_, _, _, e⟩ := h; exact e
  | .ty _, _, _, _, h => h.2
  | .scr _, _, _, _, h => by obtain ⟨_, _, _, _, e⟩ := h; exact e
  | .tup ds, _, _, p, h => by
    obtain ⟨_, vs, _, _, _, r⟩ := h
    exact RL.pure_nil ds vs _ (by simpa [D.pur] using p) r
  | .lst false ds, _, _, _, h => by obtain ⟨_, _, _, _, _, _, _, e⟩ := h; exact e
  | .lst true ds, _, _, p, _ => by simp [D.pur] at p
  | .dct false false es, _, _, _, h => by obtain ⟨_, _, _, _, _, _, _, e⟩ := h; exact e
  | .dct true false es, _, _, p, _ => by simp [D.pur] at p
  | .dct false true es, _, _, _, h => h.elim
  | .dct true true es, _, _, _, h => h.elim
  | .obj _ _, _, _, p, _ => by simp [D.pur] at p
  | .hole, _, _, p, _ => by simp [D.pur] at p
theorem RL.pure_nil : ∀ (ds : List D) (vs : List V) (F : List Addr), purL ds = true → RL K mg H W ds vs F → F = []
  | [], _, _, _, h => h.2
  | d :: ds, _, _, p, h => by
    obtain ⟨v, vs, F1, F2, _, h1, h2, rfl⟩ := h
    simp only [purL, Bool.and_eq_true] at p
    rw [RV.pure_nil d v _ p.1 h1, RL.pure_nil ds vs _ p.2 h2]
    rfl
end
theorem RL.length : ∀ {ds : List D} {vs : List V} {F : List Addr}, RL K mg H W ds vs F → vs.length = ds.length
  | [], _, _, h => by rw [h.1]; rfl
  | d :: ds, _, _, h => by
    obtain ⟨v, vs, F1, F2, rfl, h1, h2, _⟩ := h
    simp [RL.length h2]
theorem RS.length : ∀ {r : Env} {s : L2.St} {F : List Addr}, RS K mg H W r s F → s.length = r.length
  | [], _, _, h => by rw [h.1]; rfl
  | none :: r, _, _, h => by
    obtain ⟨o, s, rfl, h⟩ := h
    simp [RS.length h]
  | some d :: r, _, _, h => by
    obtain ⟨v, s, F1, F2, rfl, h1, h2, _⟩ := h
    simp [RS.length h2]
theorem RS.tracked : ∀ (r : Env) (s : L2.St) (F : List Addr), RS K mg H W r s F → ∀ a ∈ F, H a ≠ none
  | [], _, _, h, a, z => by obtain ⟨_, rfl⟩ := h; cases z
  | none :: r, _, _, h, a, z => by
    obtain ⟨o, s, rfl, h⟩ := h
    exact RS.tracked r s _ h a z
  | some d :: r, _, _, h, a, z => by
    obtain ⟨v, s, F1, F2, rfl, h1, h2, rfl⟩ := h
    rcases List.mem_append.mp z with z | z
    · exact RV.tracked d v _ h1 a z
    · exact RS.tracked r s _ h2 a z
theorem RL.append : ∀ {ds es : List D} {vs ws : List V} {F F' : List Addr}, RL K mg H W ds vs F → RL K mg H W es ws F' → RL K mg H W (ds ++ es) (vs ++ ws) (F ++ F')
  | [], es, _, ws, _, F', h, h' => by obtain ⟨rfl, rfl⟩ := h; exact h'
  | d :: ds, es, _, ws, _, F', h, h' => by
    obtain ⟨v, vs, F1, F2, rfl, h1, h2, rfl⟩ := h
    exact ⟨v, vs ++ ws, F1, F2 ++ F', rfl, h1, RL.append h2 h', by simp⟩
/-- one item of a list of pure data -/
theorem RL.get : ∀ {ds : List D} {vs : List V} {i : Nat} {d : D}, RL K mg H W ds vs [] → ds[i]? = some d → ∃ v, vs[i]? = some v ∧ RV K mg H W d v []
  | [], _, _, _, _, e => by simp at e
  | d :: ds, _, 0, _, h, e => by
    obtain ⟨v, vs, F1, F2, rfl, h1, h2, f⟩ := h
    have hf := List.append_eq_nil_iff.mp f.symm
    simp at e; subst e
    exact ⟨v, rfl, hf.1 ▸ h1⟩
  | d :: ds, _, i + 1, _, h, e => by
    obtain ⟨v, vs, F1, F2, rfl, h1, h2, f⟩ := h
    have hf := List.append_eq_nil_iff.mp f.symm
    obtain ⟨u, e1, r⟩ := RL.get (i := i) (hf.2 ▸ h2) (by simpa using e)
    exact ⟨u, by simpa using e1, r⟩
theorem RL.get' : ∀ {ds : List D} {vs : List V} {i : Nat} {v : V}, RL K mg H W ds vs [] → vs[i]? = some v → ∃ d, ds[i]? = some d ∧ RV K mg H W d v [] := fun {ds vs i v} h e => by
  have hl := h.length
  have hi : i < ds.length := by rw [← hl]; exact (List.getElem?_eq_some_iff.mp e).1
  obtain ⟨u, e1, r⟩ := h.get (List.getElem?_eq_getElem hi)
  rw [e] at e1; cases e1
  exact ⟨_, List.getElem?_eq_getElem hi, r⟩
theorem RL.take (n : Nat) : ∀ {ds : List D} {vs : List V}, RL K mg H W ds vs [] → RL K mg H W (ds.take n) (vs.take n) [] := by
  induction n with
  | zero => intro ds vs h; exact ⟨by simp, rfl⟩
  | succ n ih =>
    intro ds vs h
    cases ds with
    | nil => obtain ⟨rfl, _⟩ := h; exact ⟨rfl, rfl⟩
    | cons d ds =>
      obtain ⟨v, vs, F1, F2, rfl, h1, h2, f⟩ := h
      have hf := List.append_eq_nil_iff.mp f.symm
      exact ⟨v, vs.take n, [], [], rfl, hf.1 ▸ h1, ih (hf.2 ▸ h2), rfl⟩
theorem RL.drop (n : Nat) : ∀ {ds : List D} {vs : List V}, RL K mg H W ds vs [] → RL K mg H W (ds.drop n) (vs.drop n) [] := by
  induction n with
  | zero => intro ds vs h; exact h
  | succ n ih =>
    intro ds vs h
    cases ds with
    | nil => obtain ⟨rfl, _⟩ := h; exact ⟨rfl, rfl⟩
    | cons d ds =>
      obtain ⟨v, vs, F1, F2, rfl, h1, h2, f⟩ := h
      have hf := List.append_eq_nil_iff.mp f.symm
      exact ih (hf.2 ▸ h2)
end

section
variable (K : PySem.W.Frag) (mg : Str → Option Value)
structure Gd (H : Hp) (r : Env) (s : L2.St) (F G : List Addr) : Prop where
  rs : RS K mg H (F ++ G) r s F
  nd : (F ++ G).Nodup
  tr : ∀ a ∈ G, H a ≠ none
/-- a value and the slots behind it -/
structure Rs (H : Hp) (d : D) (v : V) (r : Env) (s : L2.St) (Fd F G : List Addr) : Prop where
  rv : RV K mg H (Fd ++ F ++ G) d v Fd
  rs : RS K mg H (Fd ++ F ++ G) r s F
  nd : (Fd ++ F ++ G).Nodup
/-- what an exception that leaves wants -/
def ExcE (Wx : WX) (s : L2.St) (H : Hp) (F G : List Addr) (c : String) (r : Env) : Prop :=
  ∀ H' F', RS K mg H' (F' ++ G) r s F' → (F' ++ G).Nodup → Po H H' F F' → ∀ C, Glo mg c C → Wx (.ref C) none s H'
def Cont (Wx : WX) (Q : VK) (s : L2.St) (H : Hp) (F G : List Addr) : Res D → Prop
  | .ok d r => ∀ v H' Fd F', Rs K mg H' d v r s Fd F' G → Po H H' F (Fd ++ F') → Q v H'
  | .exc c r => ExcE K mg Wx s H F G c r
  | .err => False
def SE (Wx : WX) (ev : M D) : TE := fun s H Q => ∃ r F G, Gd K mg H r s F G ∧ Cont K mg Wx Q s H F G (ev r)
def ContB (Wx : WX) (Q : Bool → Hp → Prop) (s : L2.St) (H : Hp) (F G : List Addr) : Res Bool → Prop
  | .ok b r => ∀ H' F', RS K mg H' (F' ++ G) r s F' → (F' ++ G).Nodup → Po H H' F F' → Q b H'
  | .exc c r => ExcE K mg Wx s H F G c r
  | .err => False
def ST (Wx : WX) (ev : M Bool) : TT := fun s H Q => ∃ r F G, Gd K mg H r s F G ∧ ContB K mg Wx Q s H F G (ev r)
structure Rss (H : Hp) (ds : List D) (vs : List V) (r : Env) (s : L2.St) (Fd F G : List Addr) : Prop where
  rv : RL K mg H (Fd ++ F ++ G) ds vs Fd
  rs : RS K mg H (Fd ++ F ++ G) r s F
  nd : (Fd ++ F ++ G).Nodup
def ContL (Wx : WX) (Q : List V → Hp → Prop) (s : L2.St) (H : Hp) (F G : List Addr) : Res (List D) → Prop
  | .ok ds r => ∀ vs H' Fd F', Rss K mg H' ds vs r s Fd F' G → Po H H' F (Fd ++ F') → Q vs H'
  | .exc c r => ExcE K mg Wx s H F G c r
  | .err => False
def SL (Wx : WX) (ev : M (List D)) : TA := fun s H Q => ∃ r F G, Gd K mg H r s F G ∧ ContL K mg Wx Q s H F G (ev r)
end

section
variable {K : PySem.W.Frag} {mg : Str → Option Value} {H H' H1 H2 : Hp} {W W' F F' F1 F2 G A B Fd : List Addr} {Wx : WX} {Q Q' : VK} {s : L2.St}
theorem ExcE.of {c : String} {r : Env} (h : ExcE K mg Wx s H F G c r) (p : Po H H1 F F1) : ExcE K mg Wx s H1 F1 G c r := fun H2 F2 rs nd q C g =>
  h H2 F2 rs nd (p.trans q) C g
/-- temporaries are dropped where an exception leaves -/
theorem ExcE.drop {c : String} {r : Env} (h : ExcE K mg Wx s H (A ++ F) G c r) : ExcE K mg Wx s H F (A ++ G) c r := fun H2 F2 rs nd q C g =>
  h H2 F2 (rs.reW fun a z => .inl (by grind)) (by grind [List.nodup_append]) (q.wide fun a z => List.mem_append_right _ z) C g
theorem Cont.of {res : Res D} (h : Cont K mg Wx Q s H F G res) (p : Po H H1 F F1) : Cont K mg Wx Q s H1 F1 G res := by
  cases res with
  | ok d r => exact fun v H' Fd F' rs q => h v H' Fd F' rs (p.trans q)
  | exc c r => exact ExcE.of h p
  | err => exact h
theorem Cont.imp {res : Res D} (h : Cont K mg Wx Q s H F G res) (i : ∀ v H', Q v H' → Q' v H') : Cont K mg Wx Q' s H F G res := by
  cases res with
  | ok d r => exact fun v H' Fd F' rs q => i _ _ (h v H' Fd F' rs q)
  | exc c r => exact h
  | err => exact h
theorem PE.weak {X : Cx} {e : Expr} {t t' : TE} (h : PE X e t) (i : ∀ s H Q, t' s H Q → t s H Q) : PE X e t' := ⟨fun pins s σ H Q I q => h.run pins s σ H Q I (i _ _ _ q)⟩
theorem PT.weak {X : Cx} {e : Expr} {t t' : TT} (h : PT X e t) (i : ∀ s H Q, t' s H Q → t s H Q) : PT X e t' := ⟨fun pins s σ H Q I q => h.run pins s σ H Q I (i _ _ _ q)⟩
theorem PA.weak {X : Cx} {e : List Expr} {t t' : TA} (h : PA X e t) (i : ∀ s H Q, t' s H Q → t s H Q) : PA X e t' := ⟨fun pos pins s σ H Q I q => h.run pos pins s σ H Q I (i _ _ _ q)⟩
theorem PS.weak {X : Cx} {e : Stmt} {t t' : TS} (h : PS X e t) (i : ∀ D s H, t' D s H → t D s H) : PS X e t' := ⟨fun pins s σ H Q I q => h.run pins s σ H Q I (i _ _ _ q)⟩
theorem PSs.weak {X : Cx} {e : List Stmt} {t t' : TS} (h : PSs X e t) (i : ∀ D s H, t' D s H → t D s H) : PSs X e t' := ⟨fun pins s σ H Q I q => h.run pins s σ H Q I (i _ _ _ q)⟩

/-- one part, then what is done with it -/
theorem seq1 {ea : M D} {k : D → M D} (h : SE K mg Wx (ea >>= k) s H Q) :
    SE K mg Wx ea s H fun v H1 => ∃ d r1 Fd F1 G, Rs K mg H1 d v r1 s Fd F1 G ∧ (∀ a ∈ G, H1 a ≠ none) ∧ Cont K mg Wx Q s H1 (Fd ++ F1) G (k d r1) := by
  obtain ⟨r, F, G, gd, h⟩ := h
  refine ⟨r, F, G, gd, ?_⟩
  rw [M.bind_def] at h
  cases e : ea r with
  | err => rw [e] at h; exact h
  | exc c r' => rw [e] at h; exact h
  | ok d r' =>
    rw [e] at h
    exact fun v H' Fd F' rs p => ⟨d, r', Fd, F', G, rs, fun a z => p.gr a (gd.tr a z), h.of p⟩
theorem Rs.gd {d : D} {v : V} {r : Env} (h : Rs K mg H d v r s Fd F G) (t : ∀ a ∈ G, H a ≠ none) : Gd K mg H r s F (Fd ++ G) where
  rs := h.rs.reW fun a z => .inl (by grind)
  nd := by have := h.nd; grind [List.nodup_append]
  tr := fun a z => by
    rcases List.mem_append.mp z with z | z
    · exact RV.tracked _ _ _ h.rv a z
    · exact t a z
/-- a temporary stays while the slots' things are changed -/
theorem Rs.stay {d d2 : D} {v v2 : V} {r r2 : Env} {Fd2 : List Addr} (h : Rs K mg H d v r s Fd F G) (h2 : Rs K mg H2 d2 v2 r2 s Fd2 F2 (Fd ++ G)) (p : Po H H2 F (Fd2 ++ F2)) : RV K mg H2 ((Fd ++ Fd2) ++ F2 ++ G) d v Fd :=
  RV.stab p.kp (fun a z => by grind) (fun a z => by
    have := p.fp a
    grind) _ _ _ h.rv (by have := h.nd; grind [List.nodup_append])
/-- a value is kept while another part is gone through -/
theorem keep1 {eb : M D} {k : D → M D} {d1 : D} {v1 : V} {r1 : Env} (rs1 : Rs K mg H1 d1 v1 r1 s Fd F1 G) (t1 : ∀ a ∈ G, H1 a ≠ none) (h : Cont K mg Wx Q s H1 (Fd ++ F1) G ((eb >>= k) r1)) :
    SE K mg Wx eb s H1 fun v2 H2 => ∃ d2 r2 Fd F2 G, Rss K mg H2 [d1, d2] [v1, v2] r2 s Fd F2 G ∧ (∀ a ∈ G, H2 a ≠ none) ∧ Cont K mg Wx Q s H2 (Fd ++ F2) G (k d2 r2) := by
  refine ⟨r1, F1, Fd ++ G, rs1.gd t1, ?_⟩
  rw [M.bind_def] at h
  cases e : eb r1 with
  | err => rw [e] at h; exact h
  | exc c r' => rw [e] at h; exact ExcE.drop h
  | ok d2 r2 =>
    rw [e] at h
    intro v2 H2 Fd2 F2 rs2 p
    refine ⟨d2, r2, Fd ++ Fd2, F2, G, ⟨⟨v1, [v2], Fd, Fd2, rfl, rs1.stay rs2 p, ⟨v2, [], Fd2, [], rfl, rs2.rv.reW (fun a z => .inl (by grind)), ⟨rfl, rfl⟩, by simp⟩, rfl⟩, rs2.rs.reW (fun a z => .inl (by grind)), ?_⟩, fun a z => p.gr a (t1 a z), ?_⟩
    · have := rs2.nd; grind [List.nodup_append]
    · have q : Po H1 H2 (Fd ++ F1) (Fd ++ (Fd2 ++ F2)) := p.frame (RV.tracked _ _ _ rs1.rv)
      have h' : Cont K mg Wx Q s H1 (Fd ++ F1) G (k d2 r2) := h
      rw [List.append_assoc]
      exact h'.of q
/-- two parts, then what is done with them -/
theorem seq2 {ea eb : M D} {k : D → D → M D} (h : SE K mg Wx (ea >>= fun x => eb >>= fun y => k x y) s H Q) :
    SE K mg Wx ea s H fun v1 H1 => SE K mg Wx eb s H1 fun v2 H2 => ∃ d1 d2 r2 Fd F2 G, Rss K mg H2 [d1, d2] [v1, v2] r2 s Fd F2 G ∧ (∀ a ∈ G, H2 a ≠ none) ∧ Cont K mg Wx Q s H2 (Fd ++ F2) G (k d1 d2 r2) := by
  obtain ⟨r, F, G, gd, h⟩ := seq1 h
  refine ⟨r, F, G, gd, h.imp fun v1 H1 h => ?_⟩
  obtain ⟨d1, r1, Fd, F1, G, rs1, t1, h⟩ := h
  obtain ⟨r', F', G', gd', h'⟩ := keep1 rs1 t1 h
  exact ⟨r', F', G', gd', h'.imp fun v2 H2 h => ⟨d1, h⟩⟩
theorem Rss.gd {d : List D} {v : List V} {r : Env} (h : Rss K mg H d v r s Fd F G) (t : ∀ a ∈ G, H a ≠ none) : Gd K mg H r s F (Fd ++ G) where
  rs := h.rs.reW fun a z => .inl (by grind)
  nd := by have := h.nd; grind [List.nodup_append]
  tr := fun a z => by
    rcases List.mem_append.mp z with z | z
    · exact RL.tracked _ _ _ h.rv a z
    · exact t a z
theorem Rss.stay {d d2 : List D} {v v2 : List V} {r r2 : Env} {Fd2 : List Addr} (h : Rss K mg H d v r s Fd F G) (h2 : Rss K mg H2 d2 v2 r2 s Fd2 F2 (Fd ++ G)) (p : Po H H2 F (Fd2 ++ F2)) : RL K mg H2 ((Fd ++ Fd2) ++ F2 ++ G) d v Fd :=
  RL.stab p.kp (fun a z => by grind) (fun a z => by
    have := p.fp a
    grind) _ _ _ h.rv (by have := h.nd; grind [List.nodup_append])

/-- arguments -/
theorem sl_nil {X : Cx} : PA X [] (SL K mg Wx (pure [])) := PA.weak pa_nil fun s H Q h => by
  obtain ⟨r, F, G, gd, h⟩ := h
  exact h [] H [] F ⟨⟨rfl, rfl⟩, gd.rs, gd.nd⟩ (by simpa using Po.refl)
theorem sl_cons {X : Cx} {e : Expr} {es : List Expr} {ea : M D} {el : M (List D)} (ha : PE X e (SE K mg Wx ea)) (hl : PA X es (SL K mg Wx el)) (hs : starEach (e :: es) X.env = (false, eval e X.env) :: starEach es X.env) :
    PA X (e :: es) (SL K mg Wx (do let x ← ea; let xs ← el; pure (x :: xs))) := PA.weak (pa_cons ha hl hs) fun s H Q h => by
  obtain ⟨r, F, G, gd, h⟩ := h
  refine ⟨r, F, G, gd, ?_⟩
  rw [M.bind_def] at h
  cases e : ea r with
  | err => rw [e] at h; exact h
  | exc c r' => rw [e] at h; exact h
  | ok d1 r1 =>
    rw [e] at h
    intro v1 H1 Fd F1 rs1 p1
    have t1 : ∀ a ∈ G, H1 a ≠ none := fun a z => p1.gr a (gd.tr a z)
    refine ⟨r1, F1, Fd ++ G, rs1.gd t1, ?_⟩
    simp only [M.bind_def] at h
    cases e : el r1 with
    | err => rw [e] at h; exact h
    | exc c r' => rw [e] at h; exact ExcE.drop (ExcE.of h p1)
    | ok ds r2 =>
      rw [e] at h
      intro vs H2 Fd2 F2 rs2 p
      refine h (v1 :: vs) H2 (Fd ++ Fd2) F2 ⟨⟨v1, vs, Fd, Fd2, rfl, ?_, rs2.rv.reW (fun a z => .inl (by grind)), rfl⟩, rs2.rs.reW (fun a z => .inl (by grind)), ?_⟩ ?_
      · exact RV.stab p.kp (fun a z => by grind) (fun a z => by
          have := p.fp a
          grind) _ _ _ rs1.rv (by have := rs1.nd; grind [List.nodup_append])
      · have := rs2.nd; grind [List.nodup_append]
      · have q : Po H1 H2 (Fd ++ F1) (Fd ++ (Fd2 ++ F2)) := p.frame (RV.tracked _ _ _ rs1.rv)
        rw [List.append_assoc]
        exact p1.trans q
/-- arguments, then what is done with them -/
theorem seqL {el : M (List D)} {k : List D → M D} (h : SE K mg Wx (el >>= k) s H Q) :
    SL K mg Wx el s H fun vs H1 => ∃ ds r1 Fd F1 G, Rss K mg H1 ds vs r1 s Fd F1 G ∧ (∀ a ∈ G, H1 a ≠ none) ∧ Cont K mg Wx Q s H1 (Fd ++ F1) G (k ds r1) := by
  obtain ⟨r, F, G, gd, h⟩ := h
  refine ⟨r, F, G, gd, ?_⟩
  rw [M.bind_def] at h
  cases e : el r with
  | err => rw [e] at h; exact h
  | exc c r' => rw [e] at h; exact h
  | ok d r' =>
    rw [e] at h
    exact fun v H' Fd F' rs p => ⟨d, r', Fd, F', G, rs, fun a z => p.gr a (gd.tr a z), h.of p⟩

/-- what a pure operation answers: new things alone are owned in it -/
def NewV (Q : VK) (H : Hp) (W : List Addr) (d : D) : Prop := ∀ v H' Fd, RV K mg H' (Fd ++ W) d v Fd → Po H H' [] Fd → Fd.Nodup → Q v H'
theorem NewV.same {d : D} {v : V} (h : NewV (K := K) (mg := mg) Q H W d) (r : RV K mg H W d v []) : Q v H := h v H [] (by simpa using r) (Po.refl) List.nodup_nil
/-- the end of a pure operation -/
theorem Cont.new {ds : List D} {vs : List V} {r : Env} {d : D} (rs : Rss K mg H ds vs r s Fd F G) (t : ∀ a ∈ G, H a ≠ none) (h : Cont K mg Wx Q s H (Fd ++ F) G (.ok d r)) : NewV (K := K) (mg := mg) Q H (Fd ++ F ++ G) d := fun v H' Fd' rv p nd => by
  have tr : ∀ a ∈ Fd ++ F ++ G, H a ≠ none := fun a z => by
    rcases List.mem_append.mp z with z | z
    · rcases List.mem_append.mp z with z | z
      · exact RL.tracked _ _ _ rs.rv a z
      · exact RS.tracked _ _ _ rs.rs a z
    · exact t a z
  refine h v H' Fd' F ⟨rv.reW fun a z => .inl (by grind), RS.stab p.kp (fun _ z => nomatch z) (fun a z => ?_) _ _ _ rs.rs (fun _ _ z => nomatch z), ?_⟩ ⟨?_, p.gr, ?_⟩
  · have := p.fp a; grind
  · have h1 := rs.nd
    have h2 : ∀ a ∈ Fd', a ∉ Fd ++ F ++ G := fun a z y => (p.fp a z).elim (fun x => nomatch x) fun x => tr a y x
    grind [List.nodup_append]
  · exact fun a o e _ => p.kp a o e (.inl (fun z => nomatch z))
  · intro a z
    rcases List.mem_append.mp z with z | z
    · exact (p.fp a z).elim (fun x => nomatch x) .inr
    · exact .inl (List.mem_append_right _ z)
end
end TT
set_option Elab.async false
set_option linter.all false
/-! TE: the operators keep their meaning -/
namespace TT
open PySem PySem.Spec L2

/-! ### texts -/
theorem S_eq (s : String) : Str.ofString s = ⟨(s.toList.map Char.toNat).toArray⟩ := Str.ofString_eq_toList s
theorem S_len (s : String) : (Str.ofString s).length = s.length := by
  rw [S_eq]
  simp [Str.length, String.length_toList]
theorem S_app (a b : String) : Str.ofString (a ++ b) = Str.ofString a ++ Str.ofString b := by
  rw [S_eq, S_eq, S_eq]
  show _ = Str.append _ _
  simp [Str.append]
theorem map_toNat_inj : ∀ {a b : List Char}, a.map Char.toNat = b.map Char.toNat → a = b
  | [], [], _ => rfl
  | [], _ :: _, h => by simp at h
  | _ :: _, [], h => by simp at h
  | a :: as, b :: bs, h => by
    simp only [List.map_cons, List.cons.injEq] at h
    rw [map_toNat_inj h.2]
    have e : a = b := by
      have h1 := h.1
      apply Char.ext
      exact UInt32.toNat_inj.mp h1
    rw [e]
theorem S_inj {a b : String} (h : Str.ofString a = Str.ofString b) : a = b := by
  rw [S_eq, S_eq] at h
  have h2 : a.toList.map Char.toNat = b.toList.map Char.toNat := by simpa using h
  exact String.toList_inj.mp (map_toNat_inj h2)
theorem S_beq (a b : String) : (Str.ofString a == Str.ofString b) = (a == b) := by
  by_cases e : a = b
  · subst e; simp
  · rw [beq_eq_false_iff_ne.mpr e]
    exact beq_eq_false_iff_ne.mpr fun z => e (S_inj z)
theorem most_line : most ≤ sizeLine := by decide

section
variable {X : Cx} {W F : List Addr}
theorem OpR.weak {f : Value → Value → Sem Value} {r r' : R2} (h : OpR X f r) (i : ∀ x y H Q, r' x y H Q → r x y H Q) : OpR X f r' :=
  fun pins s σ H x y v u Q I rx ry q => h pins s σ H x y v u Q I rx ry (i x y H Q q)
/-- two pieces of data, by f -/
def P2 (K : PySem.W.Frag) (mg : Str → Option Value) (f : D → D → Option D) : R2 := fun x y H Q => ∃ d1 d2 d F1 F2 W,
  RV K mg H W d1 x F1 ∧ RV K mg H W d2 y F2 ∧ (∀ a ∈ W, H a ≠ none) ∧ (∀ a, a ∈ F1 ∨ a ∈ F2 → a ∈ W) ∧ f d1 d2 = some d ∧ NewV (K := K) (mg := mg) Q H W d
/-- a new object of pure data -/
theorem NewV.tup {K : PySem.W.Frag} {mg : Str → Option Value} {H : Hp} {Q : VK} {ds : List D} {vs : List V} (h : NewV (K := K) (mg := mg) Q H W (.tup ds)) (r : RL K mg H W ds vs []) (n : ds.length ≤ most) : ∀ p, H p = none → Q (.ref p) (upd H p (.tup vs)) := fun p hp => by
  have po : Po H (upd H p (.tup vs)) [] [] := ⟨(Po.new (F := []) hp).kp, (Po.new (F := []) (o := .tup vs) hp).gr, fun _ z => nomatch z⟩
  refine h (.ref p) _ [] ⟨p, vs, rfl, .inl (.inl upd_same), n, ?_⟩ po List.nodup_nil
  exact RL.stab po.kp (fun _ z => nomatch z) (fun a z => .inl (by simpa using z)) _ _ _ r (fun _ z => nomatch z)
theorem NewV.lst {K : PySem.W.Frag} {mg : Str → Option Value} {H : Hp} {Q : VK} {ds : List D} {vs : List V} (h : NewV (K := K) (mg := mg) Q H W (.lst true ds)) (r : RL K mg H W ds vs []) (n : ds.length ≤ most) : ∀ p, H p = none → Q (.ref p) (upd H p (.lst vs)) := fun p hp => by
  have po : Po H (upd H p (.lst vs)) [] [p] := Po.new (F := []) hp
  refine h (.ref p) _ [p] ⟨p, vs, [], rfl, upd_same, n, ?_, rfl⟩ po (by simp)
  exact RL.stab po.kp (fun _ z => nomatch z) (fun a z => by
    rcases List.mem_append.mp z with z | z
    · right; have := List.mem_singleton.mp z; rw [this]; exact hp
    · exact .inl z) _ _ _ r (fun _ z => nomatch z)
theorem small_iff {n : Nat} : small n = true ↔ n ≤ most := by simp [small]

theorem o_add : OpR X (binaryOp .Add) (P2 X.K X.mg (binF .Add)) := by
  refine OpR.weak (OpR.or (OpR.or op_add op_add_str) (OpR.or op_catA op_cat)) fun x y H Q h => ?_
  obtain ⟨d1, d2, d, F1, F2, W, r1, r2, t, hw, f, q⟩ := h
  unfold binF at f
  split at f <;> try (first | (cases f; done) | contradiction)
  · cases f
    obtain ⟨rfl, _⟩ := r1
    obtain ⟨rfl, _⟩ := r2
    exact .inl (.inl ⟨_, _, rfl, rfl, q.same ⟨rfl, rfl⟩⟩)
  · split at f <;> cases f
    rename_i a b hs
    obtain ⟨rfl, n1, _⟩ := r1
    obtain ⟨rfl, n2, _⟩ := r2
    have hs := small_iff.mp hs
    refine .inl (.inr ⟨_, _, rfl, rfl, ?_, ?_⟩)
    · rw [S_len, S_len]; exact Nat.le_trans hs most_line
    · rw [← S_app]
      exact q.same ⟨rfl, by rw [String.length_append]; exact hs, rfl⟩
  · split at f <;> cases f
    rename_i a b _ hs
    simp only [Bool.and_eq_true, small_iff] at hs
    obtain ⟨p, vs, rfl, h1, n1, l1⟩ := r1
    obtain ⟨p', vs', rfl, h2, n2, l2⟩ := r2
    have e1 := RL.pure_nil _ _ _ hs.1.2 l1
    have e2 := RL.pure_nil _ _ _ hs.2 l2
    subst e1 e2
    have la := RL.append l1 l2
    have g1 := l1.length
    have g2 := l2.length
    refine .inr (.inl ⟨p, p', vs, vs', rfl, rfl, h1, h2, ?_, fun e => ?_, fun _ e => ?_, fun _ _ => ?_⟩)
    · rw [g1, g2]; exact Nat.le_trans hs.1.1 most_line
    · subst e
      have : a = [] := List.length_eq_zero_iff.mp (by simpa using g1.symm)
      subst this
      exact q.same ⟨p', vs', rfl, h2, n2, l2⟩
    · subst e
      have : b = [] := List.length_eq_zero_iff.mp (by simpa using g2.symm)
      subst this
      rw [List.append_nil] at q
      exact q.same ⟨p, vs, rfl, h1, n1, l1⟩
    · exact q.tup la (by rw [List.length_append]; exact hs.1.1)
  · split at f <;> cases f
    rename_i o a o' b hs
    simp only [Bool.and_eq_true, small_iff] at hs
    have key : ∀ {o : Bool} {a : List D} {x : V} {F : List Addr}, purL a = true → RV X.K X.mg H W (.lst o a) x F → ∃ p vs, x = .ref p ∧ H p = some (.lst vs) ∧ RL X.K X.mg H W a vs [] := by
      intro o a x F hp r
      cases o with
      | false => obtain ⟨p, vs, e, h, _, _, l, _⟩ := r; exact ⟨p, vs, e, h, l⟩
      | true =>
        obtain ⟨p, vs, F', e, h, _, l, _⟩ := r
        have e1 := RL.pure_nil _ _ _ hp l
        subst e1
        exact ⟨p, vs, e, h, l⟩
    obtain ⟨p, vs, rfl, h1, l1⟩ := key hs.1.2 r1
    obtain ⟨p', vs', rfl, h2, l2⟩ := key hs.2 r2
    refine .inr (.inr ⟨p, p', vs, vs', rfl, rfl, h1, h2, ?_, ?_⟩)
    · rw [l1.length, l2.length]; exact Nat.le_trans hs.1.1 most_line
    · exact q.lst (RL.append l1 l2) (by rw [List.length_append]; exact hs.1.1)
theorem o_sub : OpR X (binaryOp .Sub) (P2 X.K X.mg (binF .Sub)) := by
  refine OpR.weak op_sub fun x y H Q h => ?_
  obtain ⟨d1, d2, d, F1, F2, W, r1, r2, t, hw, f, q⟩ := h
  unfold binF at f
  split at f <;> try (first | (cases f; done) | contradiction)
  cases f
  obtain ⟨rfl, _⟩ := r1
  obtain ⟨rfl, _⟩ := r2
  exact ⟨_, _, rfl, rfl, q.same ⟨rfl, rfl⟩⟩
theorem o_mod : OpR X (binaryOp .Mod) (P2 X.K X.mg (binF .Mod)) := by
  refine OpR.weak op_mod fun x y H Q h => ?_
  obtain ⟨d1, d2, d, F1, F2, W, r1, r2, t, hw, f, q⟩ := h
  unfold binF at f
  split at f <;> try (first | (cases f; done) | contradiction)
  split at f <;> cases f
  rename_i hb
  obtain ⟨rfl, _⟩ := r1
  obtain ⟨rfl, _⟩ := r2
  exact ⟨_, _, rfl, rfl, hb, q.same ⟨rfl, rfl⟩⟩
theorem o_fdiv : OpR X (binaryOp .FloorDiv) (P2 X.K X.mg (binF .FloorDiv)) := by
  refine OpR.weak op_fdiv fun x y H Q h => ?_
  obtain ⟨d1, d2, d, F1, F2, W, r1, r2, t, hw, f, q⟩ := h
  unfold binF at f
  split at f <;> try (first | (cases f; done) | contradiction)
  split at f <;> cases f
  rename_i hb
  obtain ⟨rfl, _⟩ := r1
  obtain ⟨rfl, _⟩ := r2
  simp only [Bool.and_eq_true, decide_eq_true_eq] at hb
  exact ⟨_, _, rfl, rfl, hb, q.same ⟨rfl, rfl⟩⟩
/-- a text once, or not at all -/
theorem op_str01 : OpR X (binaryOp .Mult) (fun x y H Q => ∃ z k, x = .str z ∧ y = .int k ∧ ((k = 0 ∧ Q (.str Str.empty) H) ∨ (k = 1 ∧ Q (.str z) H))) := by
  intro pins s σ H x y v u Q I rx ry h
  obtain ⟨z, k, rfl, rfl, h⟩ := h
  obtain ⟨t, rfl⟩ := rx
  obtain ⟨t', rfl⟩ := ry
  rcases h with ⟨rfl, q⟩ | ⟨rfl, q⟩
  · exact PySem.P.mul_str_none (by decide) (by decide) ⟨.str Str.empty, H, I.tok _, ⟨_, rfl⟩, q⟩
  · refine PySem.P.mul_str (by decide) (fun _ h => ?_) (fun _ h => ?_) ?_
    · simp at h
    · simp at h
    · rw [if_neg (by decide), if_pos (by simp)]
      exact ⟨.str z, H, I, ⟨_, rfl⟩, q⟩
/-- a tuple once: the tuple itself -/
theorem tuple_mul_once (l : Addr) (items : Array Value) (n : Nat) (dd : Option Addr) (sl : Array (Option Value)) (u : Tok) :
    Meets (Builtin.«tuple.__mul__» ⟨[.ref l, .int 1 u], []⟩) (fun _ R s => s.heap.get? l = some { cls := .type "tuple", dict := dd, data := .seq items n, slots := sl } ∧ R (.ok (.ret (Value.ref l))) s) :=
  .of_wp fun prog w A R s h => by
    obtain ⟨hp, g, d, tk, os⟩ := s
    obtain ⟨hl, h⟩ := h
    have f1 := AutoSeq1.idx_int
    have c0 : (decide ((1 : Int) < -(2 ^ 63)) || decide ((1 : Int) ≥ 2 ^ 63)) = false := by decide
    have c1 : (items.isEmpty || (1 : Int) == 1) = true := by simp
    wp_walk using AutoSeq1.wpAny_loadPart' hl
    repeat (first
      | (refine wpAny_ite_false (decide_eq_false (by rw [c0]; exact Bool.false_ne_true)) ?_; wp_walk using AutoSeq1.wpAny_loadPart' hl)
      | (refine wpAny_ite_true (decide_eq_true c1) ?_; wp_walk using AutoSeq1.wpAny_loadPart' hl))
    exact ⟨_, rfl, h⟩
theorem op_tup1 : OpR X (binaryOp .Mult) (fun x y H Q => ∃ l xs, x = .ref l ∧ y = .int 1 ∧ SqT X.K H l xs ∧ Q (.ref l) H) := by
  intro pins s σ H x y v u Q I rx ry h
  obtain ⟨l, xs, rfl, rfl, hT, q⟩ := h
  cases rx
  obtain ⟨t, rfl⟩ := ry
  obtain ⟨its, r, ⟨⟨cls, dd, data, sl⟩, ho, hc, n, hd⟩, hs⟩ := I.tuple hT
  simp only at hc hd
  subst hc hd
  exact wpAny_binaryOp_repeat_ref (T := "tuple") (U := "int") (by decide) ⟨_, ho, rfl⟩ (fun s' => typeIs_int s' 1 t) noFill_tuple_mul F.fills_int_mul F.slot_int_rmul repeat_tuple F.slot_int_index.lookup
    (call_meets F.slot_int_rmul (typeIs_int s 1 t) F.entry_int_rmul (F.args_int_rmul_2 _ _) (int_rmul_tuple 1 t l its.toArray n dd sl)
      ⟨ho, rfl, ⟨_, ho, rfl⟩, call_meets F.slot_tuple_mul ⟨_, ho, rfl⟩ F.entry_tuple_mul (F.args_tuple_mul_2 _ _) (tuple_mul_once l its.toArray n dd sl t) ⟨ho, ⟨.ref l, H, I, rfl, q⟩⟩⟩)
theorem lst_any {K : PySem.W.Frag} {mg : Str → Option Value} {H : Hp} {o : Bool} {a : List D} {x : V} (hp : purL a = true) (r : RV K mg H W (.lst o a) x F) : ∃ p vs, x = .ref p ∧ H p = some (.lst vs) ∧ RL K mg H W a vs [] ∧ a.length ≤ most := by
  cases o with
  | false => obtain ⟨p, vs, e, h, _, n, l, _⟩ := r; exact ⟨p, vs, e, h, l, n⟩
  | true =>
    obtain ⟨p, vs, F', e, h, n, l, _⟩ := r
    have e1 := RL.pure_nil _ _ _ hp l
    subst e1
    exact ⟨p, vs, e, h, l, n⟩
theorem RL.rep {K : PySem.W.Frag} {mg : Str → Option Value} {H : Hp} {ds : List D} {vs : List V} (h : RL K mg H W ds vs []) : ∀ k : Nat, RL K mg H W (List.replicate k ds).flatten (List.replicate k vs).flatten []
  | 0 => ⟨by simp, rfl⟩
  | k + 1 => by
    simp only [List.replicate_succ, List.flatten_cons]
    exact RL.append h (RL.rep h k)
theorem rep_len {α : Type} (l : List α) : ∀ k : Nat, (List.replicate k l).flatten.length = l.length * k
  | 0 => by simp
  | k + 1 => by simp [List.replicate_succ, rep_len l k, Nat.mul_add, Nat.add_comm]
theorem o_mult : OpR X (binaryOp .Mult) (P2 X.K X.mg (binF .Mult)) := by
  refine OpR.weak (OpR.or (OpR.or op_mul op_str01) (OpR.or op_rep (OpR.or op_repT op_tup1))) fun x y H Q h => ?_
  obtain ⟨d1, d2, d, F1, F2, W, r1, r2, t, hw, f, q⟩ := h
  unfold binF at f
  split at f <;> try (first | (cases f; done) | contradiction)
  · split at f <;> cases f
    rename_i hb
    obtain ⟨rfl, _⟩ := r1
    obtain ⟨rfl, _⟩ := r2
    simp only [Bool.and_eq_true, Bool.or_eq_true] at hb
    refine .inl (.inl ⟨_, _, rfl, rfl, ?_, q.same ⟨rfl, rfl⟩⟩)
    rcases hb with hb | hb
    · exact .inl ⟨of_decide_eq_true hb.1, of_decide_eq_true hb.2⟩
    · exact .inr ⟨of_decide_eq_true hb.1, of_decide_eq_true hb.2⟩
  · split at f <;> cases f
    rename_i o a k _ hs
    simp only [Bool.and_eq_true, small_iff, decide_eq_true_eq] at hs
    obtain ⟨p, vs, rfl, h1, l1, n1⟩ := lst_any hs.2 r1
    obtain ⟨rfl, _⟩ := r2
    refine .inr (.inl ⟨p, k, vs, rfl, rfl, h1, by omega, by omega, ?_, ?_⟩)
    · rw [l1.length]; exact Nat.le_trans hs.1.1.1 most_line
    · exact q.lst (RL.rep l1 _) (by rw [rep_len]; exact hs.1.1.1)
  · split at f <;> cases f
    rename_i a k _ hs
    simp only [Bool.and_eq_true, decide_eq_true_eq] at hs
    obtain ⟨p, vs, rfl, h1, n1, l1⟩ := r1
    obtain ⟨rfl, _⟩ := r2
    have e1 := RL.pure_nil _ _ _ hs.2 l1
    subst e1
    have g1 := l1.length
    by_cases hk : k = 1
    · subst hk
      have e : (List.replicate (1 : Int).toNat a).flatten = a := by simp
      rw [e] at q
      exact .inr (.inr (.inr ⟨p, vs, rfl, rfl, h1, q.same ⟨p, vs, rfl, h1, n1, l1⟩⟩))
    · refine .inr (.inr (.inl ⟨p, k, vs, rfl, rfl, h1, ?_, by omega, by omega, by omega, ?_⟩))
      · intro e
        subst e
        have : a = [] := List.length_eq_zero_iff.mp (by simpa using g1.symm)
        subst this
        simp at hs
      · refine q.tup (RL.rep l1 _) ?_
        rw [rep_len]
        have h1 : a.length * k.toNat ≤ 100 * 1000 := Nat.mul_le_mul (by omega) (by omega)
        exact h1
  · obtain ⟨rfl, n1, _⟩ := r1
    obtain ⟨rfl, _⟩ := r2
    split at f
    · cases f
      rename_i hk
      exact .inl (.inr ⟨_, _, rfl, rfl, .inl ⟨hk, q.same ⟨by rfl, by decide, rfl⟩⟩⟩)
    · split at f <;> cases f
      rename_i hk
      exact .inl (.inr ⟨_, _, rfl, rfl, .inr ⟨hk, q.same ⟨rfl, n1, rfl⟩⟩⟩)
end
end TT
set_option Elab.async false
set_option linter.all false
/-! TF: comparisons -/
namespace TT
open PySem PySem.Spec L2

mutual
/-- the library's data -/
def toP : D → PyData
  | .bl b => .bool b
  | .int i => .int i
  | .str s => .str (Str.ofString s)
  | .tup xs => .tuple (toPL xs)
  | .lst _ xs => .list (toPL xs)
  | _ => .none
def toPL : List D → List PyData
  | [] => []
  | d :: ds => toP d :: toPL ds
end
mutual
theorem toP_eqv : ∀ a b : D, a.dat = true → b.dat = true → PyData.eqv (toP a) (toP b) = pyEq a b
  | .non, b, _, hb => by cases b <;> simp [D.dat] at hb <;> simp [toP, PyData.eqv, pyEq]
  | .bl _, b, _, hb => by cases b <;> simp [D.dat] at hb <;> simp [toP, PyData.eqv, pyEq, b2i]
  | .int _, b, _, hb => by cases b <;> simp [D.dat] at hb <;> simp [toP, PyData.eqv, pyEq, b2i]
  | .str s, b, _, hb => by
    cases b <;> simp [D.dat] at hb <;> simp [toP, PyData.eqv, pyEq]
    rw [← S_beq]
  | .tup xs, b, ha, hb => by
    cases b <;> simp [D.dat] at hb ha <;> simp [toP, PyData.eqv, pyEq]
    exact toPL_eqv xs _ ha hb
  | .lst _ xs, b, ha, hb => by
    cases b <;> simp [D.dat] at hb ha <;> simp [toP, PyData.eqv, pyEq]
    exact toPL_eqv xs _ ha hb
theorem toPL_eqv : ∀ a b : List D, datL a = true → datL b = true → PyData.eqvAll (toPL a) (toPL b) = pyEqL a b
  | [], [], _, _ => by simp [toPL, PyData.eqvAll, pyEqL]
  | [], _ :: _, _, _ => by simp [toPL, PyData.eqvAll, pyEqL]
  | _ :: _, [], _, _ => by simp [toPL, PyData.eqvAll, pyEqL]
  | a :: as, b :: bs, ha, hb => by
    simp only [datL, Bool.and_eq_true] at ha hb
    simp [toPL, PyData.eqvAll, pyEqL, toP_eqv a b ha.1 hb.1, toPL_eqv as bs ha.2 hb.2]
end
theorem S_ok (s : String) : PyData.strOk (Str.ofString s) = true := by
  rw [S_eq]
  unfold PyData.strOk
  simp only [Array.all_eq_true']
  intro i hi
  have hi' : i ∈ s.toList.map Char.toNat := by simpa using hi
  obtain ⟨c, _, rfl⟩ := List.mem_map.mp hi'
  have hc := c.valid
  simp only [UInt32.isValidChar, Nat.isValidChar] at hc
  have e : c.toNat = c.val.toNat := rfl
  rw [e]
  exact decide_eq_true (by omega)
mutual
theorem toP_lay : ∀ a : D, a.dat = true → (toP a).canLay0 = true
  | .non, _ => by simp [toP, PyData.canLay0]
  | .bl _, _ => by simp [toP, PyData.canLay0]
  | .int _, _ => by simp [toP, PyData.canLay0]
  | .str s, _ => by simp [toP, PyData.canLay0]; exact S_ok s
  | .tup xs, h => by simp [toP, PyData.canLay0]; exact toPL_lay xs (by simpa [D.dat] using h)
  | .lst _ xs, h => by simp [toP, PyData.canLay0]; exact toPL_lay xs (by simpa [D.dat] using h)
theorem toPL_lay : ∀ a : List D, datL a = true → PyData.canLayAll0 (toPL a) = true
  | [], _ => by simp [toPL, PyData.canLayAll0]
  | d :: ds, h => by
    simp only [datL, Bool.and_eq_true] at h
    simp [toPL, PyData.canLayAll0, toP_lay d h.1, toPL_lay ds h.2]
end
mutual
theorem toP_depth : ∀ a : D, (toP a).depth = a.depth
  | .non => by simp [toP, PyData.depth, D.depth]
  | .bl _ => by simp [toP, PyData.depth, D.depth]
  | .int _ => by simp [toP, PyData.depth, D.depth]
  | .str s => by simp [toP, PyData.depth, D.depth]
  | .tup xs => by simp [toP, PyData.depth, D.depth]; exact toPL_depth xs
  | .lst _ xs => by simp [toP, PyData.depth, D.depth]; exact toPL_depth xs
  | .dct _ _ _ => by simp [toP, PyData.depth, D.depth]
  | .obj _ _ => by simp [toP, PyData.depth, D.depth]
  | .glo _ => by simp [toP, PyData.depth, D.depth]
  | .ty _ => by simp [toP, PyData.depth, D.depth]
  | .scr _ => by simp [toP, PyData.depth, D.depth]
  | .hole => by simp [toP, PyData.depth, D.depth]
theorem toPL_depth : ∀ a : List D, PyData.depthAll (toPL a) = depthL a
  | [] => by simp [toPL, PyData.depthAll, depthL]
  | d :: ds => by simp [toPL, PyData.depthAll, depthL, toP_depth d, toPL_depth ds]
end
theorem okEq_shaped {d : D} (h : d.okEq = true) : SeqAt.shaped (toP d) = true := by
  simp only [D.okEq, Bool.and_eq_true, decide_eq_true_eq] at h
  unfold SeqAt.shaped
  rw [toP_lay d h.1, toP_depth]
  simpa using Nat.le_trans h.2 (by decide)
section
variable {K : PySem.W.Frag} {mg : Str → Option Value} {H : Hp} {W : List Addr}
mutual
theorem RV.dp : ∀ (d : D) (v : V) (F : List Addr), d.dat = true → RV K mg H W d v F → Dp K H v (toP d)
  | .non, _, _, _, h => by obtain ⟨rfl, _⟩ := h; exact .non
  | .bl _, _, _, _, h => by obtain ⟨rfl, _⟩ := h; exact .bl _
  | .int _, _, _, _, h => by obtain ⟨rfl, _⟩ := h; exact .int _
  | .str _, _, _, _, h => by obtain ⟨rfl, _⟩ := h; exact .str _
  | .tup ds, _, _, p, h => by
    obtain ⟨a, vs, rfl, h1, _, r⟩ := h
    exact .tup h1 (RL.dp ds vs _ (by simpa [D.dat] using p) r)
  | .lst false ds, _, _, p, h => by
    obtain ⟨a, vs, rfl, h1, _, _, r, _⟩ := h
    exact .lst (.inl (.inl h1)) (RL.dp ds vs _ (by simpa [D.dat] using p) r)
  | .lst true ds, _, _, p, h => by
    obtain ⟨a, vs, _, rfl, h1, _, r, _⟩ := h
    exact .lst (.inl (.inl h1)) (RL.dp ds vs _ (by simpa [D.dat] using p) r)
theorem RL.dp : ∀ (ds : List D) (vs : List V) (F : List Addr), datL ds = true → RL K mg H W ds vs F → DpAll K H vs (toPL ds)
  | [], _, _, _, h => by obtain ⟨rfl, _⟩ := h; exact .nil
  | d :: ds, _, _, p, h => by
    obtain ⟨v, vs, F1, F2, rfl, h1, h2, _⟩ := h
    simp only [datL, Bool.and_eq_true] at p
    exact .cons (RV.dp d v _ p.1 h1) (RL.dp ds vs _ p.2 h2)
end
end

section
variable {X : Cx} {W F : List Addr}
theorem room_in {A : Around} {xs : List PyData} {d : PyData} (hd : SeqAt.shaped d = true) (hu : A.units + 65 < cLine) : A.units + 1 + min (PyData.depthAll xs) d.depth < cLine := by
  have h1 := SeqAt.depth_of_shaped hd
  omega
theorem op_inT (hu : X.A.units + 65 < cLine) : OpR X (compareOp .In) (fun x y H Q => ∃ d ds, Dp X.K H x d ∧ Dp X.K H y (.tuple ds) ∧ SeqAt.shaped d = true ∧ PyData.canLayAll0 ds = true ∧ Q (.bl (ds.any fun z => PyData.eqv z d)) H) := by
  intro pins s σ H x y v u Q I rx ry h
  obtain ⟨d, ds, hd, he, sd, se, q⟩ := h
  obtain ⟨as, r1⟩ := Dp.reads I d x v hd rx
  obtain ⟨bs, r2⟩ := Dp.reads I (.tuple ds) y u he ry
  exact SeqAt.in_tuple_reads r2 r1 se (SeqAt.canLay_of_shaped sd) (room_in sd hu) ⟨.bl _, H, I, rfl, q⟩
theorem op_notInT (hu : X.A.units + 65 < cLine) : OpR X (compareOp .NotIn) (fun x y H Q => ∃ d ds, Dp X.K H x d ∧ Dp X.K H y (.tuple ds) ∧ SeqAt.shaped d = true ∧ PyData.canLayAll0 ds = true ∧ Q (.bl (!ds.any fun z => PyData.eqv z d)) H) := by
  intro pins s σ H x y v u Q I rx ry h
  obtain ⟨d, ds, hd, he, sd, se, q⟩ := h
  obtain ⟨as, r1⟩ := Dp.reads I d x v hd rx
  obtain ⟨bs, r2⟩ := Dp.reads I (.tuple ds) y u he ry
  exact SeqAt.notIn_tuple_reads r2 r1 se (SeqAt.canLay_of_shaped sd) (room_in sd hu) ⟨.bl _, H, I, rfl, q⟩
theorem op_inL (hu : X.A.units + 65 < cLine) : OpR X (compareOp .In) (fun x y H Q => ∃ d ds, Dp X.K H x d ∧ Dp X.K H y (.list ds) ∧ SeqAt.shaped d = true ∧ PyData.canLayAll0 ds = true ∧ Q (.bl (ds.any fun z => PyData.eqv z d)) H) := by
  intro pins s σ H x y v u Q I rx ry h
  obtain ⟨d, ds, hd, he, sd, se, q⟩ := h
  obtain ⟨as, r1⟩ := Dp.reads I d x v hd rx
  obtain ⟨bs, r2⟩ := Dp.reads I (.list ds) y u he ry
  exact SeqAt.in_list_reads r2 r1 se (SeqAt.canLay_of_shaped sd) (room_in sd hu) ⟨.bl _, H, I, rfl, q⟩
theorem op_notInL (hu : X.A.units + 65 < cLine) : OpR X (compareOp .NotIn) (fun x y H Q => ∃ d ds, Dp X.K H x d ∧ Dp X.K H y (.list ds) ∧ SeqAt.shaped d = true ∧ PyData.canLayAll0 ds = true ∧ Q (.bl (!ds.any fun z => PyData.eqv z d)) H) := by
  intro pins s σ H x y v u Q I rx ry h
  obtain ⟨d, ds, hd, he, sd, se, q⟩ := h
  obtain ⟨as, r1⟩ := Dp.reads I d x v hd rx
  obtain ⟨bs, r2⟩ := Dp.reads I (.list ds) y u he ry
  exact SeqAt.notIn_list_reads r2 r1 se (SeqAt.canLay_of_shaped sd) (room_in sd hu) ⟨.bl _, H, I, rfl, q⟩
theorem all_dat {ys : List D} (h : ys.all D.okEq = true) : datL ys = true := by
  induction ys with
  | nil => rfl
  | cons d ds ih =>
    simp only [List.all_cons, Bool.and_eq_true] at h
    simp only [datL, Bool.and_eq_true]
    refine ⟨?_, ih h.2⟩
    have := h.1
    simp only [D.okEq, Bool.and_eq_true] at this
    exact this.1
theorem any_toP {x : D} (hx : x.dat = true) : ∀ {ys : List D}, datL ys = true → ((toPL ys).any fun z => PyData.eqv z (toP x)) = ys.any fun y => pyEq y x
  | [], _ => rfl
  | y :: ys, h => by
    simp only [datL, Bool.and_eq_true] at h
    simp only [toPL, List.any_cons, toP_eqv y x h.1 hx, any_toP hx h.2]
theorem okEq_dat {d : D} (h : d.okEq = true) : d.dat = true := by
  simp only [D.okEq, Bool.and_eq_true] at h; exact h.1
theorem S_cps (s : String) : (Str.ofString s).cps.toList = s.toList.map Char.toNat := by rw [S_eq]
theorem sign_of {a : String} {c : Char} (h : a.toList = [c]) : Str.ofString a = ⟨#[c.toNat]⟩ := by rw [S_eq, h]; rfl
theorem toNat_inj {a b : Char} (h : a.toNat = b.toNat) : a = b := Char.ext (UInt32.toNat_inj.mp h)
theorem contains_nat (c : Char) (l : List Char) : decide (c.toNat ∈ l.map Char.toNat) = l.contains c := by
  rw [Bool.eq_iff_iff, decide_eq_true_iff, List.mem_map, List.contains_iff_mem]
  constructor
  · rintro ⟨d, hd, e⟩
    rw [← toNat_inj e]; exact hd
  · exact fun h => ⟨c, h, rfl⟩
theorem RV.ne_non {K : PySem.W.Frag} {mg : Str → Option Value} {H : Hp} : ∀ (d : D), RV K mg H W d .non F → d = .non ∨ d = .hole
  | .non, _ => .inl rfl
  | .hole, _ => .inr rfl
  | .bl _, h => by obtain ⟨e, _⟩ := h; cases e
  | .int _, h => by obtain ⟨e, _⟩ := h; cases e
  | .str _, h => by obtain ⟨e, _⟩ := h; cases e
  | .ty _, h => by obtain ⟨e, _⟩ := h; cases e
  | .glo _, h => by obtain ⟨_, e, _⟩ := h; cases e
  | .scr _, h => by obtain ⟨_, e, _⟩ := h; cases e
  | .tup _, h => by obtain ⟨_, _, e, _⟩ := h; cases e
  | .lst false _, h => by obtain ⟨_, _, e, _⟩ := h; cases e
  | .lst true _, h => by obtain ⟨_, _, _, e, _⟩ := h; cases e
  | .dct false false _, h => by obtain ⟨_, _, e, _⟩ := h; cases e
  | .dct true false _, h => by obtain ⟨_, _, _, e, _⟩ := h; cases e
  | .dct false true _, h => h.elim
  | .dct true true _, h => h.elim
  | .obj _ _, h => by obtain ⟨_, _, _, _, _, e, _⟩ := h; cases e
def P2c (K : PySem.W.Frag) (mg : Str → Option Value) (op : CmpOp) : R2 := P2 K mg fun a b => (cmpF op a b).map .bl
theorem pickC {op : CmpOp} {r : R2} (h : OpR X (compareOp op) r) (i : ∀ x y H Q d1 d2 b F1 F2 W, RV X.K X.mg H W d1 x F1 → RV X.K X.mg H W d2 y F2 → cmpF op d1 d2 = some b → Q (V.bl b) H → r x y H Q) : OpR X (compareOp op) (P2c X.K X.mg op) := by
  refine OpR.weak h fun x y H Q q => ?_
  obtain ⟨d1, d2, d, F1, F2, W, r1, r2, t, hw, f, q⟩ := q
  simp only at f
  cases e : cmpF op d1 d2 with
  | none => rw [e] at f; cases f
  | some b =>
    rw [e] at f; cases f
    exact i x y H Q d1 d2 b F1 F2 W r1 r2 e (q.same ⟨rfl, rfl⟩)
theorem o_is : OpR X (compareOp .Is) (P2c X.K X.mg .Is) := by
  refine pickC op_isN fun x y H Q d1 d2 b F1 F2 W r1 r2 f q => ?_
  unfold cmpF at f
  split at f <;> try (first | (cases f; done) | contradiction)
  obtain ⟨rfl, _⟩ := r2
  refine ⟨rfl, ?_⟩
  split at f
  · cases f; obtain ⟨rfl, _⟩ := r1; simpa using q
  · cases f
  · cases f
    rename_i hn hh
    have : x ≠ .non := by
      intro e; subst e
      exact (RV.ne_non _ r1).elim hn hh
    rw [decide_eq_false this]; exact q
theorem o_isnot : OpR X (compareOp .IsNot) (P2c X.K X.mg .IsNot) := by
  refine pickC op_notN fun x y H Q d1 d2 b F1 F2 W r1 r2 f q => ?_
  unfold cmpF at f
  split at f <;> try (first | (cases f; done) | contradiction)
  obtain ⟨rfl, _⟩ := r2
  refine ⟨rfl, ?_⟩
  split at f
  · cases f; obtain ⟨rfl, _⟩ := r1; simpa using q
  · cases f
  · cases f
    rename_i hn hh
    have : x ≠ .non := by
      intro e; subst e
      exact (RV.ne_non _ r1).elim hn hh
    rw [decide_eq_false this]; exact q
theorem o_lt : OpR X (compareOp .Lt) (P2c X.K X.mg .Lt) := by
  refine pickC (OpR.or op_lt op_lt_str) fun x y H Q d1 d2 b F1 F2 W r1 r2 f q => ?_
  unfold cmpF at f
  split at f <;> try (first | (cases f; done) | contradiction)
  · cases f
    obtain ⟨rfl, _⟩ := r1
    obtain ⟨rfl, _⟩ := r2
    exact .inl ⟨_, _, rfl, rfl, q⟩
  · cases f
    obtain ⟨rfl, _⟩ := r1
    obtain ⟨rfl, _⟩ := r2
    refine .inr ⟨_, _, rfl, rfl, ?_⟩
    rw [S_cps, S_cps]; exact q
theorem o_le : OpR X (compareOp .LtE) (P2c X.K X.mg .LtE) := by
  refine pickC (OpR.or op_le op_le_str) fun x y H Q d1 d2 b F1 F2 W r1 r2 f q => ?_
  unfold cmpF at f
  split at f <;> try (first | (cases f; done) | contradiction)
  · cases f
    obtain ⟨rfl, _⟩ := r1
    obtain ⟨rfl, _⟩ := r2
    exact .inl ⟨_, _, rfl, rfl, q⟩
  · cases f
    obtain ⟨rfl, _⟩ := r1
    obtain ⟨rfl, _⟩ := r2
    refine .inr ⟨_, _, rfl, rfl, ?_⟩
    rw [S_cps, S_cps]; exact q
theorem o_gt : OpR X (compareOp .Gt) (P2c X.K X.mg .Gt) := by
  refine pickC op_gt fun x y H Q d1 d2 b F1 F2 W r1 r2 f q => ?_
  unfold cmpF at f
  split at f <;> try (first | (cases f; done) | contradiction)
  cases f
  obtain ⟨rfl, _⟩ := r1
  obtain ⟨rfl, _⟩ := r2
  exact ⟨_, _, rfl, rfl, q⟩
theorem o_ge : OpR X (compareOp .GtE) (P2c X.K X.mg .GtE) := by
  refine pickC op_ge fun x y H Q d1 d2 b F1 F2 W r1 r2 f q => ?_
  unfold cmpF at f
  split at f <;> try (first | (cases f; done) | contradiction)
  cases f
  obtain ⟨rfl, _⟩ := r1
  obtain ⟨rfl, _⟩ := r2
  exact ⟨_, _, rfl, rfl, q⟩
theorem RE.get {K : PySem.W.Frag} {mg : Str → Option Value} {H : Hp} (x : String) : ∀ {es : List D} {kvs : List (Key × V)} {F : List Addr}, RE K mg H W es kvs F →
    (dGet (.str x) es = none ∧ valV kvs (Sum.inr (Str.ofString x)) = none) ∨ ∃ d v Fd, dGet (.str x) es = some d ∧ valV kvs (Sum.inr (Str.ofString x)) = some v ∧ RV K mg H W d v Fd ∧ ∀ a ∈ Fd, a ∈ F
  | [], _, _, h => by obtain ⟨rfl, _⟩ := h; exact .inl ⟨rfl, rfl⟩
  | .tup [.str k, d] :: es, _, _, h => by
    obtain ⟨v, kvs, F1, F2, rfl, h1, h2, rfl⟩ := h
    by_cases e : k = x
    · subst e
      refine .inr ⟨d, v, F1, ?_, ?_, h1, fun a z => List.mem_append_left _ z⟩
      · simp [dGet, entKey, entVal, pyEq]
      · simp [valV]
    · have e2 : ¬ (Sum.inr (Str.ofString k) : Key) = Sum.inr (Str.ofString x) := fun z => e (S_inj (Sum.inr.inj z))
      have g1 : dGet (.str x) (.tup [.str k, d] :: es) = dGet (.str x) es := by simp [dGet, entKey, pyEq, e]
      have g2 : valV ((Sum.inr (Str.ofString k), v) :: kvs) (Sum.inr (Str.ofString x)) = valV kvs (Sum.inr (Str.ofString x)) := by
        unfold valV; rw [List.find?_cons]; simp [e2]
      rw [g1, g2]
      rcases RE.get x h2 with z | ⟨d', v', Fd, z1, z2, z3, z4⟩
      · exact .inl z
      · exact .inr ⟨d', v', Fd, z1, z2, z3, fun a y => List.mem_append_right _ (z4 a y)⟩
theorem RV.dict {K : PySem.W.Frag} {mg : Str → Option Value} {H : Hp} {o : Bool} {es : List D} {x : V} (r : RV K mg H W (.dct o false es) x F) : ∃ a kvs F', x = .ref a ∧ H a = some (.dK kvs) ∧ RE K mg H W es kvs F' ∧ KO es ∧ (∀ b ∈ F', b ∈ F) ∧ (o = false → F' = []) := by
  cases o with
  | false => obtain ⟨a, kvs, e, h, _, n, l, rfl⟩ := r; exact ⟨a, kvs, [], e, h, l, n, (fun _ z => nomatch z), fun _ => rfl⟩
  | true => obtain ⟨a, kvs, F', e, h, n, l, rfl⟩ := r; exact ⟨a, kvs, F', e, h, l, n, (fun _ z => List.mem_cons_of_mem _ z), fun z => nomatch z⟩
theorem op_inDct (hu : X.A.units + 1 < cLine) : OpR X (compareOp .In) (fun x y H Q => ∃ a ov, y = .ref a ∧ DGet H a x ov ∧ Q (.bl ov.isSome) H) := by
  intro pins s σ H x y v u Q I rx ry h
  obtain ⟨a, ov, rfl, g, q⟩ := h
  obtain rfl : u = Value.ref a := ry
  exact d_in hu I g rx fun s3 I3 => ⟨.bl ov.isSome, H, I3, rfl, q⟩
theorem op_notInDct (hu : X.A.units + 1 < cLine) : OpR X (compareOp .NotIn) (fun x y H Q => ∃ a ov, y = .ref a ∧ DGet H a x ov ∧ Q (.bl (!ov.isSome)) H) := by
  intro pins s σ H x y v u Q I rx ry h
  obtain ⟨a, ov, rfl, g, q⟩ := h
  obtain rfl : u = Value.ref a := ry
  exact d_notIn hu I g rx fun s3 I3 => ⟨.bl (!ov.isSome), H, I3, rfl, q⟩
theorem dget_str {K : PySem.W.Frag} {mg : Str → Option Value} {H : Hp} {o : Bool} {es : List D} {y : V} (x : String) (r : RV K mg H W (.dct o false es) y F) : ∃ a ov, y = .ref a ∧ DGet H a (.str (Str.ofString x)) ov ∧ ov.isSome = (dGet (.str x) es).isSome := by
  obtain ⟨a, kvs, F', e, h, l, _⟩ := RV.dict r
  refine ⟨a, _, e, DGet.k (k := Sum.inr (Str.ofString x)) h, ?_⟩
  rcases RE.get x l with ⟨z1, z2⟩ | ⟨d, v, Fd, z1, z2, _⟩
  · rw [z1, z2]; rfl
  · rw [z1, z2]; rfl
theorem o_in (hu : X.A.units + 65 < cLine) : OpR X (compareOp .In) (P2c X.K X.mg .In) := by
  refine pickC (OpR.or (OpR.or (op_inT hu) (op_inL hu)) (OpR.or op_in_sign (op_inDct (by omega)))) fun x y H Q d1 d2 b F1 F2 W r1 r2 f q => ?_
  unfold cmpF at f
  split at f <;> try (first | (cases f; done) | contradiction)
  · unfold signIn at f
    split at f <;> cases f
    rename_i c hc
    obtain ⟨rfl, _⟩ := r1
    obtain ⟨rfl, _⟩ := r2
    refine .inr (.inl ⟨c.toNat, _, by rw [sign_of hc], rfl, ?_⟩)
    rw [S_cps, contains_nat]; exact q
  · split at f <;> cases f
    rename_i hs
    simp only [Bool.and_eq_true] at hs
    refine .inl (.inl ⟨_, _, RV.dp _ _ _ (okEq_dat hs.1) r1, RV.dp _ _ _ (by simpa [D.dat] using all_dat hs.2) r2, okEq_shaped hs.1, toPL_lay _ (all_dat hs.2), ?_⟩)
    rw [any_toP (okEq_dat hs.1) (all_dat hs.2)]; exact q
  · split at f <;> cases f
    rename_i hs
    simp only [Bool.and_eq_true] at hs
    refine .inl (.inr ⟨_, _, RV.dp _ _ _ (okEq_dat hs.1) r1, RV.dp _ _ _ (by simpa [D.dat] using all_dat hs.2) r2, okEq_shaped hs.1, toPL_lay _ (all_dat hs.2), ?_⟩)
    rw [any_toP (okEq_dat hs.1) (all_dat hs.2)]; exact q
  · cases f
    obtain ⟨rfl, _⟩ := r1
    obtain ⟨a, ov, e, g, i⟩ := dget_str _ r2
    exact .inr (.inr ⟨a, ov, e, g, by rw [i]; exact q⟩)
  · rename_i o es _
    cases o
    · exact r2.elim
    · exact r2.elim
theorem o_notin (hu : X.A.units + 65 < cLine) : OpR X (compareOp .NotIn) (P2c X.K X.mg .NotIn) := by
  refine pickC (OpR.or (OpR.or (op_notInT hu) (op_notInL hu)) (OpR.or op_notIn_sign (op_notInDct (by omega)))) fun x y H Q d1 d2 b F1 F2 W r1 r2 f q => ?_
  unfold cmpF at f
  split at f <;> try (first | (cases f; done) | contradiction)
  · unfold signIn at f
    split at f <;> cases f
    rename_i c hc
    obtain ⟨rfl, _⟩ := r1
    obtain ⟨rfl, _⟩ := r2
    refine .inr (.inl ⟨c.toNat, _, by rw [sign_of hc], rfl, ?_⟩)
    rw [S_cps, contains_nat]; exact q
  · split at f <;> cases f
    rename_i hs
    simp only [Bool.and_eq_true] at hs
    refine .inl (.inl ⟨_, _, RV.dp _ _ _ (okEq_dat hs.1) r1, RV.dp _ _ _ (by simpa [D.dat] using all_dat hs.2) r2, okEq_shaped hs.1, toPL_lay _ (all_dat hs.2), ?_⟩)
    rw [any_toP (okEq_dat hs.1) (all_dat hs.2)]; exact q
  · split at f <;> cases f
    rename_i hs
    simp only [Bool.and_eq_true] at hs
    refine .inl (.inr ⟨_, _, RV.dp _ _ _ (okEq_dat hs.1) r1, RV.dp _ _ _ (by simpa [D.dat] using all_dat hs.2) r2, okEq_shaped hs.1, toPL_lay _ (all_dat hs.2), ?_⟩)
    rw [any_toP (okEq_dat hs.1) (all_dat hs.2)]; exact q
  · cases f
    obtain ⟨rfl, _⟩ := r1
    obtain ⟨a, ov, e, g, i⟩ := dget_str _ r2
    exact .inr (.inr ⟨a, ov, e, g, by rw [i]; exact q⟩)
  · rename_i o es _
    cases o
    · exact r2.elim
    · exact r2.elim
theorem scr_dp {K : PySem.W.Frag} {H : Hp} (ns : List Int) : DpAll K H (ns.map V.int) (ns.map PyData.int) := by
  induction ns with
  | nil => exact .nil
  | cons n r ih => exact .cons (.int n) ih
theorem scr_lay (ns : List Int) : PyData.canLayAll0 (ns.map PyData.int) = true := by
  induction ns with
  | nil => simp [PyData.canLayAll0]
  | cons n r ih => simp [PyData.canLayAll0, PyData.canLay0, ih]
theorem scr_depth (ns : List Int) : PyData.depthAll (ns.map PyData.int) = 0 := by
  induction ns with
  | nil => simp [PyData.depthAll]
  | cons n r ih => simp [PyData.depthAll, PyData.depth, ih]
theorem RV.scrL {K : PySem.W.Frag} {mg : Str → Option Value} {H : Hp} {ns : List Int} {x : V} (r : RV K mg H W (.scr ns) x F) : ∃ a, x = .ref a ∧ SqL K H a (ns.map V.int) ∧ ns.length ≤ most := by
  obtain ⟨a, rfl, h, n, _⟩ := r
  rcases h with ⟨o, h⟩ | h
  · exact ⟨a, rfl, .inl (.inr ⟨o, h⟩), n⟩
  · exact ⟨a, rfl, .inr h, n⟩
theorem o_eq (hu : X.A.units + 65 < cLine) : OpR X (compareOp .Eq) (P2c X.K X.mg .Eq) := by
  refine pickC (op_eqD (by omega)) fun x y H Q d1 d2 b F1 F2 W r1 r2 f q => ?_
  unfold cmpF at f
  split at f <;> try (first | (cases f; done) | contradiction)
  · split at f <;> cases f
    rename_i ns o bs _ hb
    have hb : bs = [] := by simpa using hb
    subst hb
    obtain ⟨a, rfl, hs, n⟩ := RV.scrL r1
    have e2 := RV.dp (.lst o []) _ _ (by simp [D.dat, datL]) r2
    refine ⟨_, _, .lst hs (scr_dp ns), e2, ?_, okEq_shaped (by simp [D.okEq, D.dat, datL, D.depth, depthL]), ?_⟩
    · unfold SeqAt.shaped
      simp [PyData.canLay0, scr_lay, PyData.depth, scr_depth]
    · cases ns with
      | nil => simpa [toP, toPL, PyData.eqv, PyData.eqvAll] using q
      | cons n r => simpa [toP, toPL, PyData.eqv, PyData.eqvAll] using q
  · split at f <;> cases f
    rename_i hs
    simp only [Bool.and_eq_true] at hs
    refine ⟨_, _, RV.dp _ _ _ (okEq_dat hs.1) r1, RV.dp _ _ _ (okEq_dat hs.2) r2, okEq_shaped hs.1, okEq_shaped hs.2, ?_⟩
    rw [toP_eqv _ _ (okEq_dat hs.1) (okEq_dat hs.2)]; exact q
theorem o_ne (hu : X.A.units + 65 < cLine) : OpR X (compareOp .NotEq) (P2c X.K X.mg .NotEq) := by
  refine pickC (op_neD (by omega)) fun x y H Q d1 d2 b F1 F2 W r1 r2 f q => ?_
  unfold cmpF at f
  split at f <;> try (first | (cases f; done) | contradiction)
  split at f <;> cases f
  rename_i hs
  simp only [Bool.and_eq_true] at hs
  refine ⟨_, _, RV.dp _ _ _ (okEq_dat hs.1) r1, RV.dp _ _ _ (okEq_dat hs.2) r2, okEq_shaped hs.1, okEq_shaped hs.2, ?_⟩
  rw [toP_eqv _ _ (okEq_dat hs.1) (okEq_dat hs.2)]; exact q
theorem o_cmp (op : CmpOp) (hu : X.A.units + 65 < cLine) : OpR X (compareOp op) (P2c X.K X.mg op) := by
  cases op with
  | Eq => exact o_eq hu
  | NotEq => exact o_ne hu
  | Lt => exact o_lt
  | LtE => exact o_le
  | Gt => exact o_gt
  | GtE => exact o_ge
  | Is => exact o_is
  | IsNot => exact o_isnot
  | In => exact o_in hu
  | NotIn => exact o_notin hu
end
end TT
set_option Elab.async false
set_option linter.all false
/-! TG: slots -/
namespace TT
open PySem PySem.Spec L2
section
variable {K : PySem.W.Frag} {mg : Str → Option Value} {H H' : Hp} {W W' F F' G A : List Addr}
theorem getS_some {r : Env} {i : Nat} {d : D} : getS r i = some d ↔ r[i]? = some (some d) := by
  unfold getS
  cases e : r[i]? with
  | none => simp
  | some o => cases o <;> simp
/-- the slot's thing, and the slots with a hole there -/
theorem RS.split : ∀ {r : Env} {s : L2.St} {F : List Addr} {i : Nat} {d : D}, RS K mg H W r s F → r[i]? = some (some d) →
    ∃ v F1 F2, s[i]? = some (some v) ∧ RV K mg H W d v F1 ∧ RS K mg H W (r.set i (some .hole)) s F2 ∧ F.Perm (F1 ++ F2)
  | [], _, _, i, d, h, e => by simp at e
  | none :: r, _, _, 0, d, h, e => by simp at e
  | none :: r, _, _, i + 1, d, h, e => by
    obtain ⟨o, s, rfl, h⟩ := h
    obtain ⟨v, F1, F2, e1, h1, h2, p⟩ := RS.split (i := i) h (by simpa using e)
    exact ⟨v, F1, F2, by simpa using e1, h1, ⟨o, s, rfl, h2⟩, p⟩
  | some d0 :: r, _, _, 0, d, h, e => by
    obtain ⟨v, s, F1, F2, rfl, h1, h2, rfl⟩ := h
    simp at e; subst e
    exact ⟨v, F1, F2, rfl, h1, ⟨v, s, [], F2, rfl, rfl, h2, rfl⟩, .refl _⟩
  | some d0 :: r, _, _, i + 1, d, h, e => by
    obtain ⟨v0, s, A, B, rfl, h0, h, rfl⟩ := h
    obtain ⟨v, F1, F2, e1, h1, h2, p⟩ := RS.split (i := i) h (by simpa using e)
    refine ⟨v, F1, A ++ F2, by simpa using e1, h1, ⟨v0, s, A, F2, rfl, h0, h2, rfl⟩, ?_⟩
    have q : (A ++ B).Perm (A ++ (F1 ++ F2)) := p.append_left A
    refine q.trans ?_
    rw [← List.append_assoc, ← List.append_assoc]
    exact List.perm_append_comm.append_right F2
/-- a thing is put into a slot that owns nothing -/
theorem RS.plug : ∀ {r : Env} {s : L2.St} {F : List Addr} {i : Nat} {d : D} {v : V} {Fd : List Addr}, RS K mg H W r s F → r[i]? = some (some .hole) → s[i]? = some (some v) → RV K mg H W d v Fd →
    ∃ F2, RS K mg H W (r.set i (some d)) s F2 ∧ F2.Perm (Fd ++ F)
  | [], _, _, i, d, v, Fd, h, e, _, _ => by simp at e
  | none :: r, _, _, 0, d, v, Fd, h, e, _, _ => by simp at e
  | none :: r, _, _, i + 1, d, v, Fd, h, e, e1, q => by
    obtain ⟨o, s, rfl, h⟩ := h
    obtain ⟨F2, h2, p⟩ := RS.plug (i := i) h (by simpa using e) (by simpa using e1) q
    exact ⟨F2, ⟨o, s, rfl, h2⟩, p⟩
  | some d0 :: r, _, _, 0, d, v, Fd, h, e, e1, q => by
    obtain ⟨v0, s, F1, F2, rfl, h1, h2, rfl⟩ := h
    simp at e e1; subst e e1
    have : F1 = [] := h1
    subst this
    exact ⟨Fd ++ F2, ⟨v0, s, Fd, F2, rfl, q, h2, rfl⟩, .refl _⟩
  | some d0 :: r, _, _, i + 1, d, v, Fd, h, e, e1, q => by
    obtain ⟨v0, s, A, B, rfl, h0, h, rfl⟩ := h
    obtain ⟨F2, h2, p⟩ := RS.plug (i := i) h (by simpa using e) (by simpa using e1) q
    refine ⟨A ++ F2, ⟨v0, s, A, F2, rfl, h0, h2, rfl⟩, ?_⟩
    refine (p.append_left A).trans ?_
    rw [← List.append_assoc, ← List.append_assoc]
    exact List.perm_append_comm.append_right B
/-- a slot is stored: what it held is let go -/
theorem RS.store : ∀ {r : Env} {s : L2.St} {F : List Addr} {i : Nat} {d : D} {v : V} {Fd : List Addr}, RS K mg H W r s F → i < r.length → RV K mg H W d v Fd →
    ∃ F2, RS K mg H W (r.set i (some d)) (s.set i (some v)) F2 ∧ ∃ B, F2.Perm (Fd ++ B) ∧ B.Sublist F
  | [], _, _, i, d, v, Fd, h, e, _ => by simp at e
  | none :: r, _, _, 0, d, v, Fd, h, e, q => by
    obtain ⟨o, s, rfl, h⟩ := h
    exact ⟨Fd ++ _, ⟨v, s, Fd, _, rfl, q, h, rfl⟩, _, .refl _, List.Sublist.refl _⟩
  | none :: r, _, _, i + 1, d, v, Fd, h, e, q => by
    obtain ⟨o, s, rfl, h⟩ := h
    obtain ⟨F2, h2, B, p, b⟩ := RS.store (i := i) h (by simpa using e) q
    exact ⟨F2, ⟨o, s.set i (some v), rfl, h2⟩, B, p, b⟩
  | some d0 :: r, _, _, 0, d, v, Fd, h, e, q => by
    obtain ⟨v0, s, F1, F2, rfl, h1, h2, rfl⟩ := h
    exact ⟨Fd ++ F2, ⟨v, s, Fd, F2, rfl, q, h2, rfl⟩, F2, .refl _, List.sublist_append_right _ _⟩
  | some d0 :: r, _, _, i + 1, d, v, Fd, h, e, q => by
    obtain ⟨v0, s, A, B0, rfl, h0, h, rfl⟩ := h
    obtain ⟨F2, h2, B, p, b⟩ := RS.store (i := i) h (by simpa using e) q
    refine ⟨A ++ F2, ⟨v0, s.set i (some v), A, F2, rfl, h0, h2, rfl⟩, A ++ B, ?_, b.append_left A⟩
    refine (p.append_left A).trans ?_
    rw [← List.append_assoc, ← List.append_assoc]
    exact List.perm_append_comm.append_right B
/-- a slot is forgotten -/
theorem RS.forget : ∀ {r : Env} {s : L2.St} {F : List Addr} (i : Nat), RS K mg H W r s F → ∃ B, RS K mg H W (r.set i none) s B ∧ B.Sublist F
  | [], _, _, i, h => ⟨_, h, List.Sublist.refl _⟩
  | none :: r, _, _, 0, h => ⟨_, h, List.Sublist.refl _⟩
  | none :: r, _, _, i + 1, h => by
    obtain ⟨o, s, rfl, h⟩ := h
    obtain ⟨B, h2, b⟩ := RS.forget i h
    exact ⟨B, ⟨o, s, rfl, h2⟩, b⟩
  | some d0 :: r, _, _, 0, h => by
    obtain ⟨v0, s, F1, F2, rfl, h1, h2, rfl⟩ := h
    exact ⟨F2, ⟨some v0, s, rfl, h2⟩, List.sublist_append_right _ _⟩
  | some d0 :: r, _, _, i + 1, h => by
    obtain ⟨v0, s, A, B0, rfl, h0, h, rfl⟩ := h
    obtain ⟨B, h2, b⟩ := RS.forget i h
    exact ⟨A ++ B, ⟨v0, s, A, B, rfl, h0, h2, rfl⟩, b.append_left A⟩
/-- a slot of which nothing is known may hold anything -/
theorem RS.setNone : ∀ {r : Env} {s : L2.St} {F : List Addr} {i : Nat} (o : Option V), RS K mg H W r s F → r[i]? = some none → RS K mg H W r (s.set i o) F
  | [], _, _, i, o, h, e => by simp at e
  | none :: r, _, _, 0, o, h, e => by
    obtain ⟨o', s, rfl, h⟩ := h
    exact ⟨o, s, rfl, h⟩
  | none :: r, _, _, i + 1, o, h, e => by
    obtain ⟨o', s, rfl, h⟩ := h
    exact ⟨o', s.set i o, rfl, RS.setNone o h (by simpa using e)⟩
  | some d :: r, _, _, 0, o, h, e => by simp at e
  | some d :: r, _, _, i + 1, o, h, e => by
    obtain ⟨v, s, F1, F2, rfl, h1, h2, rfl⟩ := h
    exact ⟨v, s.set i o, F1, F2, rfl, h1, RS.setNone o h2 (by simpa using e), rfl⟩
theorem frzL_length : ∀ ds : List D, (frzL ds).length = ds.length
  | [] => rfl
  | d :: ds => by simp [frzL, frzL_length ds]
theorem frzL_mem : ∀ {ds : List D} {s : String} {d : D}, D.tup [.str s, d] ∈ frzL ds → ∃ d', D.tup [.str s, d'] ∈ ds
  | [], _, _, h => by simp [frzL] at h
  | e :: ds, s, d, h => by
    simp only [frzL, List.mem_cons] at h
    rcases h with h | h
    · cases e <;> simp only [D.frz] at h <;> try (cases h; done)
      rename_i xs
      match xs, h with
      | [a, b], h =>
        simp only [frzL, D.tup.injEq, List.cons.injEq, and_true] at h
        cases a <;> simp only [D.frz] at h <;> try (cases h.1; done)
        cases h.1
        exact ⟨b, List.mem_cons_self⟩
      | [], h => simp [frzL] at h
      | [_], h => simp [frzL] at h
      | _ :: _ :: _ :: _, h => simp [frzL] at h
    · obtain ⟨d', h⟩ := frzL_mem h
      exact ⟨d', List.mem_cons_of_mem _ h⟩
theorem KO.frz {es : List D} (h : KO es) : KO (frzL es) := ⟨by rw [frzL_length]; exact h.1, fun s d z => let ⟨d', z⟩ := frzL_mem z; h.2 s d' z⟩
mutual
/-- what was owned is read only from now on -/
theorem RV.frz (hW : ∀ a ∈ W', a ∈ W) : ∀ (d : D) (v : V) (F : List Addr), RV K mg H W d v F → d.frz.pur = true → (∀ a ∈ F, a ∉ W') → RV K mg H W' d.frz v []
  | .non, _, _, h, _, _ => ⟨h.1, rfl⟩
  | .bl _, _, _, h, _, _ => ⟨h.1, rfl⟩
  | .int _, _, _, h, _, _ => ⟨h.1, rfl⟩
  | .str _, _, _, h, _, _ => ⟨h.1, h.2.1, rfl⟩
  | .glo _, _, _, h, _, _ => by obtain ⟨a, e, g, _⟩ := h; exact ⟨a, e, g, rfl⟩
  | .ty _, _, _, h, _, _ => ⟨h.1, rfl⟩
  | .scr _, _, _, h, _, _ => by obtain ⟨a, e, g, n, _⟩ := h; exact ⟨a, e, g, n, rfl⟩
  | .hole, _, _, _, p, _ => by simp [D.frz, D.pur] at p
  | .obj _ _, _, _, _, p, _ => by simp [D.frz, D.pur] at p
  | .tup ds, v, F, h, p, hF => by
    obtain ⟨a, vs, e, h, n, r⟩ := h
    refine ⟨a, vs, e, h, ?_, RL.frz hW ds vs F r (by simpa [D.frz, D.pur] using p) hF⟩
    rw [frzL_length]; exact n
  | .lst false ds, v, F, h, p, hF => by
    obtain ⟨a, vs, e, h, hw, n, r, f⟩ := h
    simp only [D.frz, D.pur, Bool.and_eq_true] at p
    refine ⟨a, vs, e, h, fun z => hw (hW a z), ?_, RL.frz hW ds vs [] r p.2 (fun _ z => nomatch z), rfl⟩
    rw [frzL_length]; exact n
  | .lst true ds, v, F, h, p, hF => by
    obtain ⟨a, vs, F', e, h, n, r, f⟩ := h
    subst f
    simp only [D.frz, D.pur, Bool.and_eq_true] at p
    refine ⟨a, vs, e, h, hF a List.mem_cons_self, ?_, RL.frz hW ds vs F' r p.2 (fun b hb => hF b (List.mem_cons_of_mem _ hb)), rfl⟩
    rw [frzL_length]; exact n
  | .dct false false es, v, F, h, p, hF => by
    obtain ⟨a, vs, e, h, hw, n, r, f⟩ := h
    simp only [D.frz, D.pur, Bool.and_eq_true] at p
    exact ⟨a, vs, e, h, fun z => hw (hW a z), n.frz, RE.frz hW es vs [] r p.2 (fun _ z => nomatch z), rfl⟩
  | .dct true false es, v, F, h, p, hF => by
    obtain ⟨a, vs, F', e, h, n, r, f⟩ := h
    subst f
    simp only [D.frz, D.pur, Bool.and_eq_true] at p
    exact ⟨a, vs, e, h, hF a List.mem_cons_self, n.frz, RE.frz hW es vs F' r p.2 (fun b hb => hF b (List.mem_cons_of_mem _ hb)), rfl⟩
  | .dct false true es, _, _, h, _, _ => h.elim
  | .dct true true es, _, _, h, _, _ => h.elim
theorem RL.frz (hW : ∀ a ∈ W', a ∈ W) : ∀ (ds : List D) (vs : List V) (F : List Addr), RL K mg H W ds vs F → purL (frzL ds) = true → (∀ a ∈ F, a ∉ W') → RL K mg H W' (frzL ds) vs []
  | [], _, _, h, _, _ => ⟨h.1, rfl⟩
  | d :: ds, vs, F, h, p, hF => by
    obtain ⟨v, vs', F1, F2, e, h1, h2, f⟩ := h
    subst f
    simp only [frzL, purL, Bool.and_eq_true] at p
    exact ⟨v, vs', [], [], e, RV.frz hW d v F1 h1 p.1 (fun a z => hF a (by simp [z])), RL.frz hW ds vs' F2 h2 p.2 (fun a z => hF a (by simp [z])), rfl⟩
theorem RE.frz (hW : ∀ a ∈ W', a ∈ W) : ∀ (ds : List D) (vs : List (Key × V)) (F : List Addr), RE K mg H W ds vs F → purL (frzL ds) = true → (∀ a ∈ F, a ∉ W') → RE K mg H W' (frzL ds) vs []
  | [], _, _, h, _, _ => ⟨h.1, rfl⟩
  | .tup [.str s, d] :: ds, vs, F, h, p, hF => by
    obtain ⟨v, vs', F1, F2, e, h1, h2, f⟩ := h
    subst f
    simp only [frzL, purL, D.frz, D.pur, Bool.and_eq_true] at p
    exact ⟨v, vs', [], [], e, RV.frz hW d v F1 h1 p.1.2.1 (fun a z => hF a (by simp [z])), RE.frz hW ds vs' F2 h2 p.2 (fun a z => hF a (by simp [z])), rfl⟩
end
end
end TT
set_option Elab.async false
set_option linter.all false
/-! TH: expressions keep their meaning, one construct after another -/
namespace TT
open PySem PySem.Spec L2
section
variable {X : Cx} {Wx : WX} {pos : Pos} {a b c e : Expr} {ea eb ec : M D}
variable {K : PySem.W.Frag} {mg : Str → Option Value} {H H' : Hp} {W W' F F' G A Fd : List Addr} {Q : VK} {s : L2.St}

/-- nothing was done but to look -/
theorem Cont.now {r : Env} {d : D} {v : V} (h : Cont K mg Wx Q s H F G (.ok d r)) (rs : Rs K mg H d v r s Fd F' G) (f : ∀ a, a ∈ Fd ∨ a ∈ F' → a ∈ F) : Q v H :=
  h v H Fd F' rs ((Po.refl (F := F)).sub fun a z => f a (List.mem_append.mp z))
theorem Cont.lift {r : Env} {o : Option D} (h : Cont K mg Wx Q s H F G (M.lift o r)) : ∃ d, o = some d ∧ Cont K mg Wx Q s H F G (.ok d r) := by
  cases o with
  | none => exact h.elim
  | some d => exact ⟨d, rfl, h⟩
theorem Cont.pureM {r : Env} {d : D} {k : D → M D} (h : Cont K mg Wx Q s H F G ((TT.pureM d >>= k) r)) : d.pur = true ∧ Cont K mg Wx Q s H F G (k d r) := by
  rw [M.bind_def] at h
  unfold TT.pureM at h
  by_cases hp : d.pur = true
  · rw [if_pos hp] at h
    exact ⟨hp, h⟩
  · rw [if_neg hp] at h
    exact h.elim

theorem s_var {i : Nat} {x : Str} (hN : X.N[i]? = some x) (hv : Vis X.env.scope x) (hd : (x == ("__debug__" : Str)) = false) (hcd : (x == ("__classdict__" : Str)) = false) : PE X (.Name x pos) (SE X.K X.mg Wx (readV i)) := by
  refine PE.weak (pe_var hN hv hd hcd) fun s H Q h => ?_
  obtain ⟨r, F, G, gd, h⟩ := h
  unfold readV at h
  cases e : getS r i with
  | none => rw [e] at h; exact h.elim
  | some d =>
    rw [e] at h
    simp only at h
    obtain ⟨v, F1, F2, e1, r1, r2, p⟩ := gd.rs.split (getS_some.mp e)
    refine ⟨v, e1, ?_⟩
    split at h
    · rename_i hp
      have := RV.pure_nil _ _ _ hp r1
      subst this
      exact h.now (Fd := []) (F' := F) ⟨by simpa using r1, by simpa using gd.rs, by simpa using gd.nd⟩ (fun a z => by simpa using z)
    · split at h
      · rename_i hp
        have hmem : ∀ a, a ∈ F ↔ a ∈ F1 ∨ a ∈ F2 := fun a => by rw [p.mem_iff, List.mem_append]
        have hnd : (F1 ++ F2 ++ G).Nodup := by
          have := gd.nd
          exact (p.append_right G).nodup_iff.mp this
        have rf : RV X.K X.mg H (F2 ++ G) d.frz v [] := RV.frz (fun a z => by grind) _ _ _ r1 hp (fun a z y => by grind [List.nodup_append])
        have e2 : (r.set i (some D.hole))[i]? = some (some .hole) := by
          have := (List.getElem?_eq_some_iff.mp (getS_some.mp e)).1
          simp [this]
        obtain ⟨F3, r3, p3⟩ := RS.plug (r2.reW (W' := F2 ++ G) fun a z => .inl (by grind)) e2 e1 rf
        rw [List.set_set] at r3
        rw [List.nil_append] at p3
        refine h.now (Fd := []) (F' := F3) ⟨rf.reW (fun a z => .inl (by have := p3.mem_iff (a := a); grind)), r3.reW (fun a z => .inl (by have := p3.mem_iff (a := a); grind)), ?_⟩ (fun a z => ?_)
        · rw [List.nil_append]
          exact (p3.append_right G).nodup_iff.mpr (by grind [List.nodup_append])
        · rw [hmem]; right
          rcases z with z | z
          · cases z
          · exact p3.mem_iff.mp z
      · exact h.elim
theorem s_mv {i : Nat} {x : Str} (hN : X.N[i]? = some x) (hv : Vis X.env.scope x) (hd : (x == ("__debug__" : Str)) = false) (hcd : (x == ("__classdict__" : Str)) = false) : PE X (.Name x pos) (SE X.K X.mg Wx (moveV i)) := by
  refine PE.weak (pe_var hN hv hd hcd) fun s H Q h => ?_
  obtain ⟨r, F, G, gd, h⟩ := h
  unfold moveV at h
  cases e : getS r i with
  | none => rw [e] at h; exact h.elim
  | some d =>
    rw [e] at h
    obtain ⟨v, F1, F2, e1, r1, r2, p⟩ := gd.rs.split (getS_some.mp e)
    refine ⟨v, e1, ?_⟩
    have hmem : ∀ a, a ∈ F ↔ a ∈ F1 ∨ a ∈ F2 := fun a => by rw [p.mem_iff, List.mem_append]
    have h' : Cont X.K X.mg Wx Q s H F G (.ok d (if d.pur then r else setS r i .hole)) := by
      by_cases hp : d.pur = true
      · simp only [hp, if_true] at h ⊢; exact h
      · simp only [hp] at h ⊢
        by_cases hh : d.isHole = true
        · simp only [hh] at h; exact h.elim
        · simp only [hh] at h; exact h
    split at h'
    · rename_i hp
      have := RV.pure_nil _ _ _ hp r1
      subst this
      exact h'.now (Fd := []) (F' := F) ⟨by simpa using r1, by simpa using gd.rs, by simpa using gd.nd⟩ (fun a z => by simpa using z)
    · refine h'.now (Fd := F1) (F' := F2) ⟨r1.reW fun a z => .inl (by grind), r2.reW fun a z => .inl (by grind), ?_⟩ (fun a z => by rw [hmem]; exact z)
      exact (p.append_right G).nodup_iff.mp gd.nd
/-- a value that stands whatever the heap is -/
def Fixed (K : PySem.W.Frag) (mg : Str → Option Value) (d : D) (v : V) : Prop := ∀ H W, RV K mg H W d v []
theorem s_fixed {v : V} {d : D} (h : PE X e (tC v)) (f : Fixed X.K X.mg d v) : PE X e (SE X.K X.mg Wx (pure d)) := by
  refine PE.weak h fun s H Q h => ?_
  obtain ⟨r, F, G, gd, h⟩ := h
  exact h.now (Fd := []) (F' := F) ⟨f _ _, by simpa using gd.rs, by simpa using gd.nd⟩ (fun a z => by simpa using z)

theorem SE.imp {ev : M D} {Q' : VK} (h : SE K mg Wx ev s H Q) (i : ∀ v H', Q v H' → Q' v H') : SE K mg Wx ev s H Q' := by
  obtain ⟨r, F, G, gd, h⟩ := h
  exact ⟨r, F, G, gd, h.imp i⟩
theorem Rss.two {ds : D × D} {v1 v2 : V} {r : Env} (h : Rss K mg H [ds.1, ds.2] [v1, v2] r s Fd F G) : ∃ F1 F2, RV K mg H (Fd ++ F ++ G) ds.1 v1 F1 ∧ RV K mg H (Fd ++ F ++ G) ds.2 v2 F2 ∧ Fd = F1 ++ F2 := by
  obtain ⟨v, vs, F1, F2, e, h1, ⟨v', vs', F3, F4, e', h2, ⟨e3, e4⟩, f2⟩, f⟩ := h.rv
  cases e; cases e'
  subst e4
  rw [List.append_nil] at f2
  subst f2
  exact ⟨F1, F2, h1, h2, f⟩
theorem Rss.tr {ds : List D} {vs : List V} {r : Env} (h : Rss K mg H ds vs r s Fd F G) (t : ∀ a ∈ G, H a ≠ none) : ∀ a ∈ Fd ++ F ++ G, H a ≠ none := fun a z => by
  rcases List.mem_append.mp z with z | z
  · rcases List.mem_append.mp z with z | z
    · exact RL.tracked _ _ _ h.rv a z
    · exact RS.tracked _ _ _ h.rs a z
  · exact t a z
/-- an operation of two values -/
theorem two_rd {f : D → D → Option D} (h : SE K mg Wx (ea >>= fun x => eb >>= fun y => M.lift (f x y)) s H Q) :
    SE K mg Wx ea s H fun x H1 => SE K mg Wx eb s H1 fun y H2 => P2 K mg f x y H2 Q := (seq2 h).imp fun v1 H1 h => h.imp fun v2 H2 h => by
  obtain ⟨d1, d2, r, Fd, F2, G, rss, t, h⟩ := h
  obtain ⟨d, fe, h⟩ := h.lift
  obtain ⟨A, B, r1, r2, fa⟩ := Rss.two (ds := (d1, d2)) rss
  exact ⟨d1, d2, d, A, B, _, r1, r2, rss.tr t, fun a z => by rw [fa]; grind, fe, Cont.new rss t h⟩
theorem s_bin {op : Operator} (ho : OpR X (binaryOp op) (P2 X.K X.mg (binF op))) (ha : PE X a (SE X.K X.mg Wx ea)) (hb : PE X b (SE X.K X.mg Wx eb)) :
    PE X (.BinOp a op b pos) (SE X.K X.mg Wx (ea >>= fun x => eb >>= fun y => M.lift (binF op x y))) :=
  PE.weak (pe_op ho ha hb) fun _ _ _ h => two_rd h
theorem s_cmp {op : CmpOp} (hu : X.A.units + 65 < cLine) (ha : PE X a (SE X.K X.mg Wx ea)) (hb : PE X b (SE X.K X.mg Wx eb)) (hm : behindInMarks op b = false) :
    PE X (.Compare a [op] [b] pos) (SE X.K X.mg Wx (ea >>= fun x => eb >>= fun y => M.lift ((cmpF op x y).map .bl))) :=
  PE.weak (pe_cmpR (o_cmp op hu) ha hb hm) fun _ _ _ h => two_rd h

theorem RE.length : ∀ {es : List D} {kvs : List (Key × V)} {F : List Addr}, RE K mg H W es kvs F → kvs.length = es.length
  | [], _, _, h => by rw [h.1]; rfl
  | .tup [.str _, d] :: es, _, _, h => by
    obtain ⟨v, kvs, F1, F2, rfl, _, h, _⟩ := h
    simp [RE.length h]
theorem RV.truth {d : D} {v : V} {k : Bool} (r : RV K mg H W d v F) (e : d.truth = some k) : TruV K v H k := by
  cases d with
  | non => obtain ⟨rfl, _⟩ := r; cases e; rfl
  | bl b => obtain ⟨rfl, _⟩ := r; cases e; rfl
  | int i => obtain ⟨rfl, _⟩ := r; cases e; rfl
  | str z =>
    obtain ⟨rfl, n, _⟩ := r
    cases e
    refine ⟨by rw [S_len]; exact Nat.le_trans n most_line, ?_⟩
    rw [S_len]
    by_cases h : z = ""
    · subst h; rfl
    · have h1 : (z != "") = true := by simpa using h
      have h2 : z.length ≠ 0 := fun q => h (by simpa using q)
      rw [h1]
      symm
      simp only [bne_iff_ne, ne_eq]
      omega
  | tup xs =>
    obtain ⟨a, vs, rfl, h, _, l⟩ := r
    cases e
    refine .inr (.inl ⟨vs, h, ?_⟩)
    have := l.length
    cases xs <;> cases vs <;> simp_all
  | lst o xs =>
    cases e
    cases o with
    | false =>
      obtain ⟨a, vs, rfl, h, _, _, l, _⟩ := r
      refine .inl ⟨vs, .inl (.inl h), ?_⟩
      have := l.length
      cases xs <;> cases vs <;> simp_all
    | true =>
      obtain ⟨a, vs, _, rfl, h, _, l, _⟩ := r
      refine .inl ⟨vs, .inl (.inl h), ?_⟩
      have := l.length
      cases xs <;> cases vs <;> simp_all
  | dct o k es =>
    cases e
    cases k with
    | true => cases o <;> exact r.elim
    | false =>
      obtain ⟨a, kvs, F', rfl, h, l, _⟩ := RV.dict r
      refine .inr (.inr ⟨kvs, h, ?_⟩)
      have := RE.length l
      cases es <;> cases kvs <;> simp_all
  | _ => cases e
/-- one value -/
theorem one_op {k : D → M D} {t : TE} {t1 : V → Hp → VK → Prop} (h : PE X e t) (ht : ∀ s H Q, SE X.K X.mg Wx ea s H (fun x H1 => t1 x H1 Q) → t s H Q)
    (hk : ∀ s H Q d r v Fd F G, Rs X.K X.mg H d v r s Fd F G → (∀ a ∈ G, H a ≠ none) → Cont X.K X.mg Wx Q s H (Fd ++ F) G (k d r) → t1 v H Q) : PE X e (SE X.K X.mg Wx (ea >>= k)) := by
  refine PE.weak h fun s H Q h => ht s H Q ((seq1 h).imp fun v1 H1 h => ?_)
  obtain ⟨d, r, Fd, F, G, rs, t, h⟩ := h
  exact hk _ _ _ _ _ _ _ _ _ rs t h
theorem Cont.truth {r : Env} {d : D} {k : Bool → M D} (h : Cont K mg Wx Q s H F G ((truthM d >>= k) r)) : ∃ b, d.truth = some b ∧ Cont K mg Wx Q s H F G (k b r) := by
  rw [M.bind_def] at h
  unfold truthM at h
  cases e : d.truth with
  | none => rw [e] at h; exact h.elim
  | some b => rw [e] at h; exact ⟨b, rfl, h⟩
/-- a new value owns nothing of what was there -/
theorem Rs.dropV {d d' : D} {v v' : V} {r : Env} (h : Rs K mg H d v r s Fd F G) (r' : RV K mg H (F ++ G) d' v' []) : Rs K mg H d' v' r s [] F G :=
  ⟨by simpa using r', by simpa using h.rs.reW (W' := F ++ G) fun a z => .inl (by grind), by have := h.nd; grind [List.nodup_append]⟩
theorem s_inv (ha : PE X a (SE X.K X.mg Wx ea)) : PE X (.UnaryOp .Not a pos) (SE X.K X.mg Wx (ea >>= fun x => truthM x >>= fun b => pure (.bl !b))) :=
  one_op (t1 := fun x H1 Q => ∃ k, TruV X.K x H1 k ∧ Q (.bl (!k)) H1) (pe_notT ha) (fun _ _ _ h => h) fun s H Q d r v Fd F G rs t h => by
    obtain ⟨b, e, h⟩ := h.truth
    exact ⟨b, RV.truth rs.rv e, Cont.now h (rs.dropV ⟨rfl, rfl⟩) (fun a z => by grind)⟩
theorem s_neg (ha : PE X a (SE X.K X.mg Wx ea)) : PE X (.UnaryOp .USub a pos) (SE X.K X.mg Wx (ea >>= fun x => match x with | .int i => pure (.int (-i)) | _ => M.err)) :=
  one_op (t1 := rU fun i => .int (-i)) (pe_un un_neg ha) (fun _ _ _ h => h) fun s H Q d r v Fd F G rs t h => by
    cases d <;> try exact h.elim
    obtain ⟨rfl, _⟩ := rs.rv
    exact ⟨_, rfl, Cont.now h (rs.dropV ⟨rfl, rfl⟩) (fun a z => by grind)⟩
theorem Rs.gd0 {d : D} {v : V} {r : Env} (h : Rs K mg H d v r s Fd F G) (t : ∀ a ∈ G, H a ≠ none) : Gd K mg H r s F G where
  rs := h.rs.reW fun a z => .inl (by grind)
  nd := by have := h.nd; grind [List.nodup_append]
  tr := t
/-- from a place where a value is thrown away on -/
theorem Cont.se {r : Env} {d : D} {v : V} {ev : M D} (rs : Rs K mg H d v r s Fd F G) (t : ∀ a ∈ G, H a ≠ none) (h : Cont K mg Wx Q s H (Fd ++ F) G (ev r)) : SE K mg Wx ev s H Q :=
  ⟨r, F, G, rs.gd0 t, by
    cases e : ev r with
    | err => rw [e] at h; exact h
    | exc c r' =>
      rw [e] at h
      exact fun H2 F2 rs2 nd p C g => h H2 F2 rs2 nd (p.wide fun a z => List.mem_append_right _ z) C g
    | ok d' r' =>
      rw [e] at h
      exact fun v' H2 Fd2 F2 rs2 p => h v' H2 Fd2 F2 rs2 (p.wide fun a z => List.mem_append_right _ z)⟩
theorem s_and {rest : List Expr} (ha : PE X a (SE X.K X.mg Wx ea)) (hb : PE X (.BoolOp .And (b :: rest) pos) (SE X.K X.mg Wx eb)) :
    PE X (.BoolOp .And (a :: b :: rest) pos) (SE X.K X.mg Wx (ea >>= fun x => truthM x >>= fun k => if k then eb else pure x)) := by
  refine PE.weak (pe_andT ha hb) fun s H Q h => (seq1 h).imp fun v1 H1 h => ?_
  obtain ⟨d, r, Fd, F, G, rs, t, h⟩ := h
  obtain ⟨k, e, h⟩ := h.truth
  refine ⟨k, RV.truth rs.rv e, ?_⟩
  cases k with
  | true => exact Cont.se rs t h
  | false => exact Cont.now h rs (fun a z => by grind)
theorem s_or {rest : List Expr} (ha : PE X a (SE X.K X.mg Wx ea)) (hb : PE X (.BoolOp .Or (b :: rest) pos) (SE X.K X.mg Wx eb)) :
    PE X (.BoolOp .Or (a :: b :: rest) pos) (SE X.K X.mg Wx (ea >>= fun x => truthM x >>= fun k => if k then pure x else eb)) := by
  refine PE.weak (pe_orT ha hb) fun s H Q h => (seq1 h).imp fun v1 H1 h => ?_
  obtain ⟨d, r, Fd, F, G, rs, t, h⟩ := h
  obtain ⟨k, e, h⟩ := h.truth
  refine ⟨k, RV.truth rs.rv e, ?_⟩
  cases k with
  | false => exact Cont.se rs t h
  | true => exact Cont.now h rs (fun a z => by grind)
theorem s_one {op : BoolOp} (ha : PE X a (SE X.K X.mg Wx ea)) : PE X (.BoolOp op [a] pos) (SE X.K X.mg Wx ea) := pe_one ha

/-! ### tests -/
variable {QB : Bool → Hp → Prop} {ta tb tc : M Bool}
theorem ContB.of {res : Res Bool} (h : ContB K mg Wx QB s H F G res) (p : Po H H' F F') : ContB K mg Wx QB s H' F' G res := by
  cases res with
  | ok d r => exact fun H2 F2 rs nd q => h H2 F2 rs nd (p.trans q)
  | exc c r => exact ExcE.of h p
  | err => exact h
theorem ContB.imp {res : Res Bool} {QB' : Bool → Hp → Prop} (h : ContB K mg Wx QB s H F G res) (i : ∀ v H', QB v H' → QB' v H') : ContB K mg Wx QB' s H F G res := by
  cases res with
  | ok d r => exact fun H2 F2 rs nd q => i _ _ (h H2 F2 rs nd q)
  | exc c r => exact h
  | err => exact h
theorem ST.imp {ev : M Bool} {Q' : Bool → Hp → Prop} (h : ST K mg Wx ev s H QB) (i : ∀ v H', QB v H' → Q' v H') : ST K mg Wx ev s H Q' := by
  obtain ⟨r, F, G, gd, h⟩ := h
  exact ⟨r, F, G, gd, h.imp i⟩
/-- a test, then what is done behind it -/
theorem seqT {α : Type} {k : Bool → M α} {C : St → Hp → List Addr → List Addr → Res α → Prop} {T : Bool → Hp → Prop} (r : Env) (hF : Gd K mg H r s F G)
    (h : match (ta >>= k) r with | .exc c r' => ExcE K mg Wx s H F G c r' | .err => False | _ => True)
    (hk : ∀ b r1 H1 F1, ta r = .ok b r1 → RS K mg H1 (F1 ++ G) r1 s F1 → (F1 ++ G).Nodup → Po H H1 F F1 → T b H1) : ST K mg Wx ta s H T := by
  refine ⟨r, F, G, hF, ?_⟩
  rw [M.bind_def] at h
  cases e : ta r with
  | err => rw [e] at h; exact h
  | exc c r' => rw [e] at h; exact h
  | ok b r1 => exact fun H1 F1 rs nd p => hk b r1 H1 F1 e rs nd p
theorem t_val (ha : PE X a (SE X.K X.mg Wx ea)) (he : ∀ whole, isTrue a X.env whole = (do let v ← whole; standAt a.pos; holding [v] (truthy v))) : PT X a (ST X.K X.mg Wx (ea >>= truthM)) := by
  refine PT.weak (pt_truth ha he) fun s H Q h => ?_
  obtain ⟨r, F, G, gd, h⟩ := h
  refine ⟨r, F, G, gd, ?_⟩
  rw [M.bind_def] at h
  cases e : ea r with
  | err => rw [e] at h; exact h
  | exc c r' => rw [e] at h; exact h
  | ok d r1 =>
    rw [e] at h
    intro v H1 Fd F1 rs p
    simp only at h
    unfold truthM at h
    cases e2 : d.truth with
    | none => rw [e2] at h; exact h.elim
    | some k =>
      rw [e2] at h
      refine ⟨k, RV.truth rs.rv e2, h H1 F1 (rs.rs.reW fun a z => .inl (by grind)) ?_ (p.sub fun a z => List.mem_append_right _ z)⟩
      have := rs.nd; grind [List.nodup_append]
theorem t_bool {ev : M D} (hb : ∀ r d r', ev r = .ok d r' → ∃ b, d = .bl b) (h : ST K mg Wx (ev >>= truthM) s H QB) : SE K mg Wx ev s H fun v H1 => ∃ k, v = .bl k ∧ QB k H1 := by
  obtain ⟨r, F, G, gd, h⟩ := h
  refine ⟨r, F, G, gd, ?_⟩
  rw [M.bind_def] at h
  cases e : ev r with
  | err => rw [e] at h; exact h
  | exc c r' => rw [e] at h; exact h
  | ok d r1 =>
    rw [e] at h
    obtain ⟨b, rfl⟩ := hb _ _ _ e
    intro v H1 Fd F1 rs p
    obtain ⟨rfl, _⟩ := rs.rv
    refine ⟨b, rfl, h H1 F1 (rs.rs.reW fun a z => .inl (by grind)) ?_ (p.sub fun a z => List.mem_append_right _ z)⟩
    have := rs.nd; grind [List.nodup_append]
theorem cmp_bool {op : CmpOp} : ∀ (r : Env) (d : D) (r' : Env), (ea >>= fun x => eb >>= fun y => M.lift ((cmpF op x y).map D.bl)) r = Res.ok d r' → ∃ b, d = D.bl b := by
  intro r d r' h
  simp only [M.bind_def] at h
  cases e1 : ea r with
  | err => rw [e1] at h; cases h
  | exc c r' => rw [e1] at h; cases h
  | ok x r1 =>
    rw [e1] at h
    simp only at h
    cases e2 : eb r1 with
    | err => rw [e2] at h; cases h
    | exc c r' => rw [e2] at h; cases h
    | ok y r2 =>
      rw [e2] at h
      simp only at h
      cases e3 : cmpF op x y with
      | none => rw [e3] at h; cases h
      | some b => rw [e3] at h; cases h; exact ⟨b, rfl⟩
theorem t_cmp {op : CmpOp} (hu : X.A.units + 65 < cLine) (ha : PE X a (SE X.K X.mg Wx ea)) (hb : PE X b (SE X.K X.mg Wx eb)) (hm : behindInMarks op b = false) :
    PT X (.Compare a [op] [b] pos) (ST X.K X.mg Wx ((ea >>= fun x => eb >>= fun y => M.lift ((cmpF op x y).map .bl)) >>= truthM)) :=
  PT.weak (pt_cmpR (o_cmp op hu) ha hb hm) fun _ _ _ h => two_rd (t_bool cmp_bool h)
/-! chains of two comparisons -/
def chnM (op op' : CmpOp) (ea eb ec : M D) : M D := ea >>= fun x => eb >>= fun y => TT.pureM y >>= fun y => match cmpF op x y with
    | some true => ec >>= fun z => M.lift ((cmpF op' y z).map .bl)
    | some false => pure (.bl false)
    | none => M.err
theorem chn_rd {op op' : CmpOp} (h : SE K mg Wx (chnM op op' ea eb ec) s H Q) : tChain (P2c K mg op) (P2c K mg op') (SE K mg Wx ea) (SE K mg Wx eb) (SE K mg Wx ec) s H Q := (seq2 h).imp fun v1 H1 h => h.imp fun v2 H2 h => by
  obtain ⟨d1, d2, r, Fd, F2, G, rss, t, h⟩ := h
  obtain ⟨hp, h⟩ := Cont.pureM h
  obtain ⟨A, B, r1, r2, fa⟩ := Rss.two (ds := (d1, d2)) rss
  have eB := RV.pure_nil _ _ _ hp r2
  subst eB
  rw [List.append_nil] at fa
  subst fa
  cases e : cmpF op d1 d2 with
  | none => rw [e] at h; exact h.elim
  | some k =>
    rw [e] at h
    refine ⟨d1, d2, .bl k, _, [], _, r1, r2, rss.tr t, fun a z => by grind, by simp [e], fun v H' Fd' rv p nd => ?_⟩
    obtain ⟨rfl, rfl⟩ := rv
    refine ⟨k, rfl, ?_⟩
    have rs' : Rs K mg H' d2 v2 r s [] F2 G := by
      have wk : ∀ a ∈ F2 ++ G, a ∈ Fd ++ F2 ++ G ∨ H2 a = none := fun a z => .inl (by grind)
      refine ⟨RV.stab p.kp (fun _ z => nomatch z) (by simpa using wk) _ _ _ r2 (fun _ _ z => nomatch z), RS.stab p.kp (fun _ z => nomatch z) (by simpa using wk) _ _ _ rss.rs (fun _ _ z => nomatch z), ?_⟩
      have := rss.nd; grind [List.nodup_append]
    have t' : ∀ a ∈ G, H' a ≠ none := fun a z => p.gr a (t a z)
    have po : Po H2 H' (Fd ++ F2) F2 := (p.wide fun _ z => nomatch z).sub (fun _ z => nomatch z) |> fun q : Po H2 H' (Fd ++ F2) [] => ⟨q.kp, q.gr, fun a z => .inl (by grind)⟩
    cases k with
    | false =>
      exact Cont.now (F := F2) (h.of po) (rs'.dropV (d' := .bl false) ⟨rfl, rfl⟩) (fun a z => by grind)
    | true =>
      have h2 : Cont K mg Wx Q s H' ([] ++ F2) G ((ec >>= fun z => M.lift ((cmpF op' d2 z).map .bl)) r) := h.of po
      refine (keep1 rs' t' h2).imp fun v3 H3 h => ?_
      obtain ⟨d3, r3, Fd3, F3, G3, rss3, t3, h⟩ := h
      obtain ⟨d, fe, h⟩ := h.lift
      obtain ⟨A', B', q1, q2, fa⟩ := Rss.two (ds := (d2, d3)) rss3
      exact ⟨d2, d3, d, A', B', _, q1, q2, rss3.tr t3, fun a z => by rw [fa]; grind, fe, Cont.new rss3 t3 h⟩
theorem s_chn {op op' : CmpOp} (hu : X.A.units + 65 < cLine) (ha : PE X a (SE X.K X.mg Wx ea)) (hb : PE X b (SE X.K X.mg Wx eb)) (hc : PE X c (SE X.K X.mg Wx ec)) (hm : lastMarks [op, op'] [b, c] = false) :
    PE X (.Compare a [op, op'] [b, c] pos) (SE X.K X.mg Wx (chnM op op' ea eb ec)) :=
  PE.weak (pe_chain (o_cmp op hu) (o_cmp op' hu) ha hb hc hm) fun _ _ _ h => chn_rd h
theorem t_not (ha : PT X a (ST X.K X.mg Wx ta)) : PT X (.UnaryOp .Not a pos) (ST X.K X.mg Wx (ta >>= fun k => pure !k)) := by
  refine PT.weak (pt_not ha) fun s H Q h => ?_
  obtain ⟨r, F, G, gd, h⟩ := h
  refine ⟨r, F, G, gd, ?_⟩
  rw [M.bind_def] at h
  cases e : ta r with
  | err => rw [e] at h; exact h
  | exc c r' => rw [e] at h; exact h
  | ok b r1 => rw [e] at h; exact h
end
end TT
set_option Elab.async false
set_option linter.all false
/-! TI: tests and ways; displays; places in sequences -/
namespace TT
open PySem PySem.Spec L2
section
variable {X : Cx} {Wx : WX} {pos : Pos} {a b c e : Expr} {ea eb ec : M D} {ta tb tc : M Bool}
variable {K : PySem.W.Frag} {mg : Str → Option Value} {H H' : Hp} {W W' F F' G A Fd : List Addr} {Q : VK} {QB : Bool → Hp → Prop} {s : L2.St}
theorem seqTB {k : Bool → M Bool} (h : ST K mg Wx (ta >>= k) s H QB) : ST K mg Wx ta s H fun b H1 => ST K mg Wx (k b) s H1 QB := by
  obtain ⟨r, F, G, gd, h⟩ := h
  refine ⟨r, F, G, gd, ?_⟩
  rw [M.bind_def] at h
  cases e : ta r with
  | err => rw [e] at h; exact h
  | exc c r' => rw [e] at h; exact h
  | ok b r1 =>
    rw [e] at h
    exact fun H1 F1 rs nd p => ⟨r1, F1, G, ⟨rs, nd, fun a z => p.gr a (gd.tr a z)⟩, ContB.of h p⟩
theorem seqTE {k : Bool → M D} (h : SE K mg Wx (ta >>= k) s H Q) : ST K mg Wx ta s H fun b H1 => SE K mg Wx (k b) s H1 Q := by
  obtain ⟨r, F, G, gd, h⟩ := h
  refine ⟨r, F, G, gd, ?_⟩
  rw [M.bind_def] at h
  cases e : ta r with
  | err => rw [e] at h; exact h
  | exc c r' => rw [e] at h; exact h
  | ok b r1 =>
    rw [e] at h
    exact fun H1 F1 rs nd p => ⟨r1, F1, G, ⟨rs, nd, fun a z => p.gr a (gd.tr a z)⟩, Cont.of h p⟩
theorem ST.pure {b : Bool} (h : ST K mg Wx (pure b) s H QB) : QB b H := by
  obtain ⟨r, F, G, gd, h⟩ := h
  exact h H F gd.rs gd.nd Po.refl
theorem PW.weak {t t' : TT} (h : PW X e t) (i : ∀ s H Q, t' s H Q → t s H Q) : PW X e t' := ⟨fun w pins s σ H Q I q => h.run w pins s σ H Q I (i _ _ _ q)⟩
theorem pw_of {op : BoolOp} {vs : List Expr} {t : TT} (h : PT X (.BoolOp op vs pos) t) : PW X (.BoolOp op vs pos) t := ⟨fun w pins s σ H Q I q => by
  have z := h.run pins s σ H Q I q
  have e : PySem.isTrue (.BoolOp op vs pos) X.env w = PySem.isTrue (.BoolOp op vs pos) X.env (eval (.BoolOp op vs pos) X.env) := by simp only [PySem.isTrue]
  rw [e]; exact z⟩
theorem t_and {rest : List Expr} (ha : PT X a (ST X.K X.mg Wx ta)) (hb : PW X (.BoolOp .And (b :: rest) pos) (ST X.K X.mg Wx tb)) :
    PT X (.BoolOp .And (a :: b :: rest) pos) (ST X.K X.mg Wx (ta >>= fun k => if k then tb else pure false)) :=
  PT.weak (PW.pt (pw_and ha hb)) fun s H Q h => (seqTB h).imp fun k H1 h => by
    cases k with
    | true => exact h
    | false => exact ST.pure h
theorem t_or {rest : List Expr} (ha : PT X a (ST X.K X.mg Wx ta)) (hb : PW X (.BoolOp .Or (b :: rest) pos) (ST X.K X.mg Wx tb)) :
    PT X (.BoolOp .Or (a :: b :: rest) pos) (ST X.K X.mg Wx (ta >>= fun k => if k then pure true else tb)) :=
  PT.weak (PW.pt (pw_or ha hb)) fun s H Q h => (seqTB h).imp fun k H1 h => by
    cases k with
    | false => exact h
    | true => exact ST.pure h
theorem s_ite (hc : PT X c (ST X.K X.mg Wx tc)) (ha : PE X a (SE X.K X.mg Wx ea)) (hb : PE X b (SE X.K X.mg Wx eb)) : PE X (.IfExp c a b pos) (SE X.K X.mg Wx (tc >>= fun k => if k then ea else eb)) :=
  PE.weak (pe_ifExp hc ha hb) fun s H Q h => (seqTE h).imp fun k H1 h => by
    cases k with
    | true => exact h
    | false => exact h

/-! ### displays -/
variable {es : List Expr} {el : M (List D)}
theorem Cont.small {r : Env} {d : D} {n : Nat} (h : Cont K mg Wx Q s H F G ((if TT.small n then pure d else M.err : M D) r)) : n ≤ most ∧ Cont K mg Wx Q s H F G (.ok d r) := by
  by_cases hp : TT.small n = true
  · rw [if_pos hp] at h; exact ⟨small_iff.mp hp, h⟩
  · rw [if_neg hp] at h; exact h.elim
/-- behind new things alone -/
theorem Rss.new {ds : List D} {vs : List V} {r : Env} {p : Addr} {o : HO} (h : Rss K mg H ds vs r s Fd F G) (hp : H p = none) :
    RL K mg (upd H p o) (Fd ++ F ++ G) ds vs Fd ∧ RL K mg (upd H p o) ((p :: Fd) ++ F ++ G) ds vs Fd ∧ RS K mg (upd H p o) (Fd ++ F ++ G) r s F ∧ RS K mg (upd H p o) ((p :: Fd) ++ F ++ G) r s F := by
  have k : Kp H (upd H p o) [] := (Po.new (F := []) hp).kp
  have w1 : ∀ a ∈ Fd ++ F ++ G, a ∈ Fd ++ F ++ G ∨ H a = none := fun a z => .inl z
  have w2 : ∀ a ∈ (p :: Fd) ++ F ++ G, a ∈ Fd ++ F ++ G ∨ H a = none := fun a z => by
    by_cases e : a = p
    · rw [e]; exact .inr hp
    · left; grind
  exact ⟨RL.stab k (fun _ z => nomatch z) w1 _ _ _ h.rv (fun _ _ z => nomatch z), RL.stab k (fun _ z => nomatch z) w2 _ _ _ h.rv (fun _ _ z => nomatch z),
    RS.stab k (fun _ z => nomatch z) w1 _ _ _ h.rs (fun _ _ z => nomatch z), RS.stab k (fun _ z => nomatch z) w2 _ _ _ h.rs (fun _ _ z => nomatch z)⟩
theorem s_tup {x1 : Nat} (h : PA X es (SL X.K X.mg Wx el)) : PE X (.Tuple es x1 pos) (SE X.K X.mg Wx (el >>= fun ds => if small ds.length then pure (.tup ds) else M.err)) :=
  PE.weak (pe_tup h) fun s H Q h => by
    obtain ⟨r, F, G, gd, h⟩ := seqL h
    refine ⟨r, F, G, gd, ?_⟩
    cases e : el r with
    | err => rw [e] at h; exact h
    | exc c r' => rw [e] at h; exact h
    | ok ds r1 =>
      rw [e] at h
      intro vs H1 Fd F1 rs p
      obtain ⟨ds', r2, Fd', F2, G', rss, t, h⟩ := h vs H1 Fd F1 rs p
      obtain ⟨n, h⟩ := Cont.small h
      refine ⟨by rw [rss.rv.length]; exact Nat.le_trans n most_line, fun q hq => ?_⟩
      obtain ⟨z1, _, z3, _⟩ := Rss.new (o := .tup vs) rss hq
      have po : Po H1 (upd H1 q (.tup vs)) (Fd' ++ F2) (q :: (Fd' ++ F2)) := Po.new hq
      exact h (.ref q) _ Fd' F2 ⟨⟨q, vs, rfl, .inl (.inl upd_same), n, z1⟩, z3, rss.nd⟩ (po.sub fun a z => List.mem_cons_of_mem _ z)
theorem s_lst (h : PA X es (SL X.K X.mg Wx el)) : PE X (.List es pos) (SE X.K X.mg Wx (el >>= fun ds => if small ds.length then pure (.lst true ds) else M.err)) :=
  PE.weak (pe_lst h) fun s H Q h => by
    obtain ⟨r, F, G, gd, h⟩ := seqL h
    refine ⟨r, F, G, gd, ?_⟩
    cases e : el r with
    | err => rw [e] at h; exact h
    | exc c r' => rw [e] at h; exact h
    | ok ds r1 =>
      rw [e] at h
      intro vs H1 Fd F1 rs p
      obtain ⟨ds', r2, Fd', F2, G', rss, t, h⟩ := h vs H1 Fd F1 rs p
      obtain ⟨n, h⟩ := Cont.small h
      refine ⟨by rw [rss.rv.length]; exact Nat.le_trans n most_line, fun q hq => ?_⟩
      obtain ⟨_, z2, _, z4⟩ := Rss.new (o := .lst vs) rss hq
      have po : Po H1 (upd H1 q (.lst vs)) (Fd' ++ F2) (q :: (Fd' ++ F2)) := Po.new hq
      refine h (.ref q) _ (q :: Fd') F2 ⟨⟨q, vs, Fd', rfl, upd_same, n, z2, rfl⟩, z4, ?_⟩ po
      have h1 := rss.nd
      have h2 : q ∉ Fd' ++ F2 ++ G' := fun z => rss.tr t q z hq
      grind [List.nodup_append]
theorem s_dnew : PE X (.Dict [] [] pos) (SE X.K X.mg Wx (pure (.dct true false []))) :=
  PE.weak pe_dnewK fun s H Q h p hp => by
    obtain ⟨r, F, G, gd, h⟩ := h
    have po : Po H (upd H p (.dK [])) F (p :: F) := Po.new hp
    have w2 : ∀ a ∈ [p] ++ F ++ G, a ∈ F ++ G ∨ H a = none := fun a z => by
      by_cases e : a = p
      · rw [e]; exact .inr hp
      · left; grind
    refine h (.ref p) _ [p] F ⟨⟨p, [], [], rfl, upd_same, ⟨Nat.zero_le _, fun _ _ z => nomatch z⟩, ⟨rfl, rfl⟩, rfl⟩, RS.stab (Po.new (F := []) (o := .dK []) hp).kp (fun _ z => nomatch z) w2 _ _ _ gd.rs (fun _ _ z => nomatch z), ?_⟩ po
    have h1 := gd.nd
    have h2 : p ∉ F ++ G := fun z => by
      rcases List.mem_append.mp z with z | z
      · exact RS.tracked _ _ _ gd.rs p z hp
      · exact gd.tr p z hp
    grind [List.nodup_append]

/-! ### items -/
theorem ixD_at {α : Type} (xs : List α) (i : Int) : ixD xs i = atI xs i := by
  unfold ixD atI ixN
  by_cases h : 0 ≤ i
  · rw [if_pos h, if_pos h]
    by_cases h2 : i < xs.length
    · rw [if_pos h2]; rfl
    · rw [if_neg h2]
      have : xs.length ≤ i.toNat := by omega
      simp [this]
  · rw [if_neg h, if_neg h]
    split <;> rfl
theorem RL.at {ds : List D} {vs : List V} {i : Int} {d : D} {F : List Addr} (h : RL K mg H W ds vs F) (p : d.pur = true) (e : ixD ds i = some d) : ∃ v, atI vs i = some v ∧ RV K mg H W d v [] := by
  have key : ∀ {ds : List D} {vs : List V} {F : List Addr} {j : Nat}, RL K mg H W ds vs F → ds[j]? = some d → ∃ v, vs[j]? = some v ∧ RV K mg H W d v [] := by
    intro ds
    induction ds with
    | nil => intro vs F j h e; simp at e
    | cons d0 ds ih =>
      intro vs F j h e
      obtain ⟨v, vs, F1, F2, rfl, h1, h2, rfl⟩ := h
      cases j with
      | zero =>
        simp at e; subst e
        have := RV.pure_nil _ _ _ p h1
        subst this
        exact ⟨v, rfl, h1⟩
      | succ j =>
        obtain ⟨u, e1, r⟩ := ih h2 (by simpa using e)
        exact ⟨u, by simpa using e1, r⟩
  have hl := h.length
  rw [ixD_at] at e
  unfold atI at e ⊢
  rw [hl]
  cases e2 : ixN ds.length i with
  | none => rw [e2] at e; cases e
  | some j =>
    rw [e2] at e
    exact key h e
theorem IxR.weak {r r' : R2} (h : IxR X r) (i : ∀ x y H Q, r' x y H Q → r x y H Q) : IxR X r' :=
  fun vl sc pins s σ H x y v u Q I rx ry q hs => h vl sc pins s σ H x y v u Q I rx ry (i x y H Q q) hs
theorem ix_dct (hu : X.A.units + 1 < cLine) : IxR X (fun x y H Q => ∃ a v, x = .ref a ∧ DGet H a y (some v) ∧ Q v H) := by
  intro value slice pins s σ H x y v u Q I rx ry h hs
  obtain ⟨a, w, rfl, g, q⟩ := h
  obtain rfl : v = Value.ref a := rx
  exact PyProof.Rows.tail_any (dict_typeIs I g) F.slot_dict_getitem.lookup (d_getItem hu I g ry fun w' s3 I3 rw' => ⟨w, H, I3, rw', q⟩) hs
theorem atI_map {α β : Type} (f : α → β) (xs : List α) (i : Int) : atI (xs.map f) i = (atI xs i).map f := by
  unfold atI
  rw [List.length_map]
  cases ixN xs.length i with
  | none => rfl
  | some j => simp
theorem S_one (c : Char) : Str.ofString (String.ofList [c]) = ⟨#[c.toNat]⟩ := sign_of (by simp)
theorem o_ix (hu : X.A.units + 1 < cLine) : IxR X (P2 X.K X.mg ixP) := by
  refine IxR.weak (IxR.or ix_seq (ix_dct hu)) fun x y H Q h => ?_
  obtain ⟨d1, d2, d, F1, F2, W, r1, r2, t, hw, f, q⟩ := h
  unfold ixP at f
  have ff := Option.filter_eq_some_iff.mp f
  clear f
  obtain ⟨f, hp⟩ := ff
  unfold ixF at f
  split at f <;> try (first | (cases f; done) | contradiction)
  · rename_i ns i
    obtain ⟨a, rfl, hs, n⟩ := RV.scrL r1
    obtain ⟨rfl, _⟩ := r2
    rw [ixD_at] at f
    cases e : atI ns i with
    | none => rw [e] at f; cases f
    | some k =>
      rw [e] at f; cases f
      exact .inl (.inl ⟨a, _, i, .int k, rfl, rfl, hs, by rw [atI_map, e]; rfl, q.same ⟨rfl, rfl⟩⟩)
  · obtain ⟨a, vs, rfl, h1, n, l⟩ := r1
    obtain ⟨rfl, _⟩ := r2
    obtain ⟨v, e, r⟩ := RL.at l hp f
    exact .inl (.inr (.inl ⟨a, vs, _, v, rfl, rfl, h1, e, q.same r⟩))
  · rename_i o xs i
    obtain ⟨rfl, _⟩ := r2
    cases o with
    | false =>
      obtain ⟨a, vs, rfl, h1, _, n, l, _⟩ := r1
      obtain ⟨v, e, r⟩ := RL.at l hp f
      exact .inl (.inl ⟨a, vs, _, v, rfl, rfl, .inl (.inl h1), e, q.same r⟩)
    | true =>
      obtain ⟨a, vs, _, rfl, h1, n, l, _⟩ := r1
      obtain ⟨v, e, r⟩ := RL.at l hp f
      exact .inl (.inl ⟨a, vs, _, v, rfl, rfl, .inl (.inl h1), e, q.same r⟩)
  · rename_i z i
    obtain ⟨rfl, n, _⟩ := r1
    obtain ⟨rfl, _⟩ := r2
    rw [ixD_at] at f
    cases e : atI z.toList i with
    | none => rw [e] at f; cases f
    | some c =>
      rw [e] at f; cases f
      refine .inl (.inr (.inr ⟨_, i, c.toNat, rfl, rfl, by rw [S_len]; exact Nat.le_trans n most_line, by rw [S_cps, atI_map, e]; rfl, ?_⟩))
      rw [← S_one]
      exact q.same ⟨rfl, by simp [most], rfl⟩
  · obtain ⟨a, kvs, F', rfl, h, l, _⟩ := RV.dict r1
    obtain ⟨rfl, _⟩ := r2
    rcases RE.get _ l with ⟨z1, z2⟩ | ⟨d', v, Fd, z1, z2, z3, z4⟩
    · rw [z1] at f; cases f
    · rw [z1] at f; cases f
      have := RV.pure_nil _ _ _ hp z3
      subst this
      refine .inr ⟨a, v, rfl, ?_, q.same z3⟩
      rw [← z2]; exact DGet.k (k := Sum.inr _) h
  · rename_i o es k
    cases o with
    | true => exact r1.elim
    | false => exact r1.elim
theorem s_ix (hu : X.A.units + 1 < cLine) (ha : PE X a (SE X.K X.mg Wx ea)) (hb : PE X b (SE X.K X.mg Wx eb)) (hs : PlainIx b) :
    PE X (.Subscript a b pos) (SE X.K X.mg Wx (ea >>= fun x => eb >>= fun y => M.lift (ixP x y))) :=
  PE.weak (pe_ix (o_ix hu) ha hb hs) fun _ _ _ h => two_rd h

/-! ### slices -/
variable {lo hi : Option Expr} {ml mh : M (Option Int)} {p2 : Pos}
def ContO (K : PySem.W.Frag) (mg : Str → Option Value) (Wx : WX) (QO : Option Int → Hp → Prop) (s : L2.St) (H : Hp) (F G : List Addr) : Res (Option Int) → Prop
  | .ok o r => ∀ H' F', RS K mg H' (F' ++ G) r s F' → (F' ++ G).Nodup → Po H H' F F' → QO o H'
  | .exc c r => ExcE K mg Wx s H F G c r
  | .err => False
def SO (K : PySem.W.Frag) (mg : Str → Option Value) (Wx : WX) (ev : M (Option Int)) : TO := fun s H Q => ∃ r F G, Gd K mg H r s F G ∧ ContO K mg Wx Q s H F G (ev r)
theorem PO.weak {o : Option Expr} {t t' : TO} (h : PO X o t) (i : ∀ s H Q, t' s H Q → t s H Q) : PO X o t' := ⟨fun pins s σ H Q I q => h.run pins s σ H Q I (i _ _ _ q)⟩
theorem so_no : PO X none (SO X.K X.mg Wx (pure none)) := PO.weak po_none fun s H Q h => by
  obtain ⟨r, F, G, gd, h⟩ := h
  exact h H F gd.rs gd.nd Po.refl
theorem so_so (ha : PE X a (SE X.K X.mg Wx ea)) : PO X (some a) (SO X.K X.mg Wx (ea >>= fun x => match x with | .int i => pure (some i) | _ => M.err)) := PO.weak (po_some ha) fun s H Q h => by
  obtain ⟨r, F, G, gd, h⟩ := h
  refine ⟨r, F, G, gd, ?_⟩
  rw [M.bind_def] at h
  cases e : ea r with
  | err => rw [e] at h; exact h
  | exc c r' => rw [e] at h; exact h
  | ok d r1 =>
    rw [e] at h
    intro v H1 Fd F1 rs p
    simp only at h
    cases d <;> try exact h.elim
    obtain ⟨rfl, _⟩ := rs.rv
    refine ⟨_, rfl, h H1 F1 (rs.rs.reW fun a z => .inl (by grind)) ?_ (p.sub fun a z => List.mem_append_right _ z)⟩
    have := rs.nd; grind [List.nodup_append]
theorem keepO {ev : M (Option Int)} {k : Option Int → M D} {d1 : D} {v1 : V} {r1 : Env} {H1 : Hp} {F1 : List Addr} (rs1 : Rs K mg H1 d1 v1 r1 s Fd F1 G) (t1 : ∀ a ∈ G, H1 a ≠ none) (h : Cont K mg Wx Q s H1 (Fd ++ F1) G ((ev >>= k) r1)) :
    SO K mg Wx ev s H1 fun o H2 => ∃ r2 F2, Rs K mg H2 d1 v1 r2 s Fd F2 G ∧ (∀ a ∈ G, H2 a ≠ none) ∧ Cont K mg Wx Q s H2 (Fd ++ F2) G (k o r2) := by
  refine ⟨r1, F1, Fd ++ G, rs1.gd t1, ?_⟩
  rw [M.bind_def] at h
  cases e : ev r1 with
  | err => rw [e] at h; exact h
  | exc c r' => rw [e] at h; exact ExcE.drop h
  | ok o r2 =>
    rw [e] at h
    intro H2 F2 rs nd p
    refine ⟨r2, F2, ⟨?_, rs.reW fun a z => .inl (by grind), by grind [List.nodup_append]⟩, fun a z => p.gr a (t1 a z), ?_⟩
    · exact RV.stab p.kp (fun a z => by grind) (fun a z => by
        have := p.fp a
        grind) _ _ _ rs1.rv (by have := rs1.nd; grind [List.nodup_append])
    · have h' : Cont K mg Wx Q s H1 (Fd ++ F1) G (k o r2) := h
      exact h'.of (p.frame (RV.tracked _ _ _ rs1.rv))
theorem ContO.imp {res : Res (Option Int)} {QO QO' : Option Int → Hp → Prop} (h : ContO K mg Wx QO s H F G res) (i : ∀ v H', QO v H' → QO' v H') : ContO K mg Wx QO' s H F G res := by
  cases res with
  | ok d r => exact fun H2 F2 rs nd q => i _ _ (h H2 F2 rs nd q)
  | exc c r => exact h
  | err => exact h
theorem clip_eq' (n d : Nat) (o : Option Int) : clip n d o = HT.sIx n d o := by cases o <;> rfl
theorem cut_eq {α : Type} (xs : List α) (lo hi : Option Int) : cut xs lo hi = (xs.drop (HT.sIx xs.length 0 lo)).take (HT.sIx xs.length xs.length hi - HT.sIx xs.length 0 lo) := by
  unfold cut; rw [clip_eq', clip_eq']
theorem cutV_eq (xs : List V) (lo hi : Option Int) : cutV xs lo hi = cut xs lo hi := by rw [cut_eq]; rfl
theorem RL.cut {ds : List D} {vs : List V} (h : RL K mg H W ds vs []) (lo hi : Option Int) : RL K mg H W (TT.cut ds lo hi) (TT.cut vs lo hi) [] := by
  rw [cut_eq, cut_eq, h.length]
  exact RL.take _ (RL.drop _ h)
theorem cut_len {α : Type} (xs : List α) (lo hi : Option Int) : (cut xs lo hi).length ≤ xs.length := by
  unfold cut
  simp only [List.length_take, List.length_drop]
  omega
theorem map_cut {α β : Type} (f : α → β) (xs : List α) (lo hi : Option Int) : (cut xs lo hi).map f = cut (xs.map f) lo hi := by
  unfold cut; simp
def P1s (K : PySem.W.Frag) (mg : Str → Option Value) : V → Option Int → Option Int → Hp → VK → Prop := fun x lo hi H Q => ∃ d1 d F W, RV K mg H W d1 x F ∧ (∀ a ∈ W, H a ≠ none) ∧ slF d1 lo hi = some d ∧ NewV (K := K) (mg := mg) Q H W d
theorem SlR.weak {r r' : V → Option Int → Option Int → Hp → VK → Prop} (h : SlR X r) (i : ∀ x lo hi H Q, r' x lo hi H Q → r x lo hi H Q) : SlR X r' :=
  fun pins s σ H x v vl vu lo hi sl Q I rx hs p1 p2 q => h pins s σ H x v vl vu lo hi sl Q I rx hs p1 p2 (i _ _ _ _ _ q)
theorem o_sl : SlR X (P1s X.K X.mg) := by
  refine SlR.weak (SlR.or sl_tupA (SlR.or sl_list sl_str)) fun x lo hi H Q h => ?_
  obtain ⟨d1, d, F, W, r, t, f, q⟩ := h
  unfold slF at f
  split at f <;> try (first | (cases f; done) | contradiction)
  · rename_i ys
    split at f <;> cases f
    rename_i hp
    obtain ⟨a, vs, rfl, h1, n, l⟩ := r
    have := RL.pure_nil _ _ _ hp l
    subst this
    refine .inl ⟨a, vs, rfl, h1, fun e => ?_, fun _ => ?_⟩
    · have e2 : cut vs lo hi = vs := by rw [cut_eq, e.1, e.2]; simp
      have e3 : cut ys lo hi = ys := by
        have z := e
        rw [l.length] at z
        rw [cut_eq, z.1, z.2, List.drop_zero, Nat.sub_zero, List.take_length]
      rw [e3] at q
      exact q.same ⟨a, vs, rfl, h1, n, l⟩
    · rw [cutV_eq]
      exact q.tup (l.cut lo hi) (Nat.le_trans (cut_len _ _ _) n)
  · split at f <;> cases f
    rename_i hp
    obtain ⟨a, vs, rfl, h1, l, n⟩ := lst_any hp r
    refine .inr (.inl ⟨a, vs, rfl, .inl (.inl h1), ?_⟩)
    rw [cutV_eq]
    exact q.lst (l.cut lo hi) (Nat.le_trans (cut_len _ _ _) n)
  · rename_i z
    cases f
    obtain ⟨rfl, n, _⟩ := r
    refine .inr (.inr ⟨_, rfl, by rw [S_len]; exact Nat.le_trans n most_line, ?_⟩)
    have e : cutS (Str.ofString z) lo hi = Str.ofString (String.ofList (cut z.toList lo hi)) := by
      rw [S_eq (String.ofList _), String.toList_ofList, map_cut, cut_eq]
      unfold cutS
      rw [S_cps, S_len]
      simp [String.length_toList]
    rw [e]
    refine q.same ⟨rfl, ?_, rfl⟩
    rw [String.length_ofList]
    exact Nat.le_trans (cut_len _ _ _) (by rw [String.length_toList]; exact n)
theorem s_sl (ha : PE X a (SE X.K X.mg Wx ea)) (hl : PO X lo (SO X.K X.mg Wx ml)) (hh : PO X hi (SO X.K X.mg Wx mh)) :
    PE X (.Subscript a (.Slice lo hi none p2) pos) (SE X.K X.mg Wx (ea >>= fun x => ml >>= fun l => mh >>= fun h => M.lift (slF x l h))) :=
  PE.weak (pe_slice o_sl ha hl hh) fun s H Q h => (seq1 h).imp fun v H1 h => by
    obtain ⟨d, r1, Fd, F1, G, rs, t, h⟩ := h
    obtain ⟨r', F', G', gd', h'⟩ := keepO rs t h
    refine ⟨r', F', G', gd', h'.imp fun l H2 h => ?_⟩
    obtain ⟨r2, F2, rs2, t2, h⟩ := h
    obtain ⟨r', F', G', gd', h'⟩ := keepO rs2 t2 h
    refine ⟨r', F', G', gd', h'.imp fun u H3 h => ?_⟩
    obtain ⟨r3, F3, rs3, t3, h⟩ := h
    obtain ⟨d', fe, h⟩ := h.lift
    have rss : Rss X.K X.mg H3 [d] [v] r3 s Fd F3 G := ⟨⟨v, [], Fd, [], rfl, rs3.rv, ⟨rfl, rfl⟩, by simp⟩, rs3.rs, rs3.nd⟩
    exact ⟨d, d', Fd, _, rs3.rv, rss.tr t3, fe, Cont.new rss t3 h⟩
end
end TT
set_option Elab.async false
set_option linter.all false
/-! TJ: built-in functions -/
namespace TT
open PySem PySem.Spec L2
section
variable {X : Cx} {Wx : WX} {pos p : Pos} {e : Expr} {es : List Expr} {el : M (List D)}
variable {K : PySem.W.Frag} {mg : Str → Option Value} {H H' : Hp} {W W' F F' G A Fd : List Addr} {Q : VK} {s : L2.St}
def PN (K : PySem.W.Frag) (mg : Str → Option Value) (f : List D → Option D) : List V → Hp → VK → Prop := fun vs H Q => ∃ ds d F W, RL K mg H W ds vs F ∧ (∀ a ∈ W, H a ≠ none) ∧ f ds = some d ∧ NewV (K := K) (mg := mg) Q H W d
theorem CallR.weak {f : Value} {r r' : List V → Hp → VK → Prop} (h : CallR X f r) (i : ∀ x H Q, r' x H Q → r x H Q) : CallR X f r' :=
  fun pins s σ H xs us Q I rx q => h pins s σ H xs us Q I rx (i _ _ _ q)
theorem RL.one {d : D} {vs : List V} (h : RL K mg H W [d] vs F) : ∃ v, vs = [v] ∧ RV K mg H W d v F := by
  obtain ⟨v, vs', F1, F2, rfl, h1, ⟨rfl, rfl⟩, rfl⟩ := h
  exact ⟨v, rfl, by simpa using h1⟩
theorem RL.pair {d d' : D} {vs : List V} (h : RL K mg H W [d, d'] vs F) : ∃ v v' F1 F2, vs = [v, v'] ∧ RV K mg H W d v F1 ∧ RV K mg H W d' v' F2 := by
  obtain ⟨v, vs', F1, F2, rfl, h1, h2, rfl⟩ := h
  obtain ⟨v', rfl, h3⟩ := RL.one h2
  exact ⟨v, v', F1, F2, rfl, h1, h3⟩
theorem callF {f : List D → Option D} {r : List V → Hp → VK → Prop} {u : Value} (h : CallR X u r) (i : ∀ ds d vs F W H Q, RL X.K X.mg H W ds vs F → f ds = some d → NewV (K := X.K) (mg := X.mg) Q H W d → r vs H Q) : CallR X u (PN X.K X.mg f) :=
  CallR.weak h fun vs H Q ⟨ds, d, F, W, rl, t, f, q⟩ => i ds d vs F W H Q rl f q
/-- a list of either kind: its place -/
theorem RV.list {o : Bool} {xs : List D} {x : V} (r : RV K mg H W (.lst o xs) x F) : ∃ a vs F', x = .ref a ∧ H a = some (.lst vs) ∧ RL K mg H W xs vs F' ∧ xs.length ≤ most := by
  cases o with
  | false => obtain ⟨a, vs, rfl, h, _, n, l, _⟩ := r; exact ⟨a, vs, _, rfl, h, l, n⟩
  | true => obtain ⟨a, vs, F', rfl, h, n, l, _⟩ := r; exact ⟨a, vs, _, rfl, h, l, n⟩
theorem c_len : CallR X (.builtin "len") (PN X.K X.mg lenF) := by
  refine callF (CallR.or call_len call_lenD) fun ds d vs F W H Q rl f q => ?_
  unfold lenF at f
  split at f <;> cases f
  · obtain ⟨v, rfl, r⟩ := rl.one
    obtain ⟨a, rfl, hs, n⟩ := RV.scrL r
    exact .inl ⟨_, _, rfl, .inl ⟨_, hs, by simp⟩, q.same ⟨rfl, rfl⟩⟩
  · obtain ⟨v, rfl, rfl, n, _⟩ := rl.one
    refine .inl ⟨_, _, rfl, ⟨by rw [S_len]; exact Nat.le_trans n most_line, rfl⟩, ?_⟩
    rw [S_len]
    exact q.same ⟨rfl, rfl⟩
  · obtain ⟨v, rfl, a, vs, rfl, h, n, l⟩ := rl.one
    exact .inl ⟨_, _, rfl, .inr ⟨vs, h, l.length.symm⟩, q.same ⟨rfl, rfl⟩⟩
  · obtain ⟨v, rfl, r⟩ := rl.one
    obtain ⟨a, vs, F', rfl, h, l, n⟩ := RV.list r
    exact .inl ⟨_, _, rfl, .inl ⟨vs, .inl (.inl h), l.length.symm⟩, q.same ⟨rfl, rfl⟩⟩
  · rename_i o k es
    obtain ⟨v, rfl, r⟩ := rl.one
    cases k with
    | true => cases o <;> exact r.elim
    | false =>
      obtain ⟨a, kvs, F', rfl, h, l, _⟩ := RV.dict r
      refine .inr ⟨a, kvs, rfl, h, ?_⟩
      rw [RE.length l]
      exact q.same ⟨rfl, rfl⟩
theorem c_tuple : CallR X (.type "tuple") (PN X.K X.mg tupleF) := by
  refine callF call_tuple_of fun ds d vs F W H Q rl f q => ?_
  unfold tupleF at f
  split at f <;> try (cases f; done)
  · split at f <;> cases f
    rename_i hp
    obtain ⟨v, rfl, a, vs, rfl, h, n, l⟩ := rl.one
    have := RL.pure_nil _ _ _ hp l
    subst this
    exact ⟨a, vs, rfl, .inr ⟨h, q.same ⟨a, vs, rfl, h, n, l⟩⟩⟩
  · split at f <;> cases f
    rename_i hp
    obtain ⟨v, rfl, r⟩ := rl.one
    obtain ⟨a, vs, rfl, h, l, n⟩ := lst_any hp r
    exact ⟨a, vs, rfl, .inl ⟨.inl (.inl h), q.tup l n⟩⟩
theorem RE.keys : ∀ {es : List D} {kvs : List (Key × V)} {F : List Addr}, RE K mg H W es kvs F → (∀ s d, D.tup [.str s, d] ∈ es → s.length ≤ most) → RL K mg H W (es.map entKey) (kvs.map fun kv => kV kv.1) []
  | [], _, _, h, _ => by obtain ⟨rfl, _⟩ := h; exact ⟨rfl, rfl⟩
  | .tup [.str s, d] :: es, _, _, h, n => by
    obtain ⟨v, kvs, F1, F2, rfl, h1, h2, rfl⟩ := h
    exact ⟨.str (Str.ofString s), _, [], [], rfl, ⟨rfl, n s d (by simp), rfl⟩, RE.keys h2 (fun s d z => n s d (by simp [z])), rfl⟩
theorem c_list (hc : X.calm = true) : CallR X (.type "list") (PN X.K X.mg listF) := by
  refine callF (CallR.or call_list_of (call_list_dK hc)) fun ds d vs F W H Q rl f q => ?_
  unfold listF at f
  split at f <;> try (cases f; done)
  · split at f <;> cases f
    rename_i hp
    obtain ⟨v, rfl, a, vs, rfl, h, n, l⟩ := rl.one
    have := RL.pure_nil _ _ _ hp l
    subst this
    exact .inl ⟨a, vs, rfl, .inr h, q.lst l n⟩
  · split at f <;> cases f
    rename_i hp
    obtain ⟨v, rfl, r⟩ := rl.one
    obtain ⟨a, vs, rfl, h, l, n⟩ := lst_any hp r
    exact .inl ⟨a, vs, rfl, .inl (.inl (.inl h)), q.lst l n⟩
  · rename_i o k es
    cases f
    obtain ⟨v, rfl, r⟩ := rl.one
    cases k with
    | true => cases o <;> exact r.elim
    | false =>
      obtain ⟨a, kvs, F', rfl, h, l, n, _⟩ := RV.dict r
      exact .inr ⟨a, kvs, rfl, h, q.lst (RE.keys l n.2) (by rw [List.length_map]; exact n.1)⟩
theorem digit_text : ∀ c n, digit c = some n → intText? ⟨#[c.toNat]⟩ = some n := by
  intro c n h
  unfold digit at h
  split at h <;> cases h <;> decide +kernel
theorem c_int : CallR X (.type "int") (PN X.K X.mg intF) := by
  refine callF (CallR.or call_int1 call_int_str) fun ds d vs F W H Q rl f q => ?_
  unfold intF at f
  split at f <;> try (cases f; done)
  · cases f
    obtain ⟨v, rfl, rfl, _⟩ := rl.one
    exact .inl (.inr ⟨_, rfl, q.same ⟨rfl, rfl⟩⟩)
  · cases f
    obtain ⟨v, rfl, rfl, _⟩ := rl.one
    exact .inl (.inl ⟨_, rfl, q.same ⟨rfl, rfl⟩⟩)
  · obtain ⟨v, rfl, rfl, _⟩ := rl.one
    split at f <;> try (cases f; done)
    rename_i c hc
    cases e : digit c with
    | none => rw [e] at f; cases f
    | some n =>
      rw [e] at f; cases f
      refine .inr ⟨_, n, rfl, ?_, ?_, q.same ⟨rfl, rfl⟩⟩
      · rw [sign_of hc]; exact digit_text c n e
      · rw [sign_of hc]; show 1 ≤ 640; decide
theorem c_str : CallR X (.type "str") (PN X.K X.mg strF) := by
  refine callF call_str_int fun ds d vs F W H Q rl f q => ?_
  unfold strF at f
  split at f <;> try (cases f; done)
  split at f <;> cases f
  rename_i i hi
  simp only [Bool.and_eq_true, decide_eq_true_eq] at hi
  obtain ⟨v, rfl, rfl, _⟩ := rl.one
  refine ⟨i, rfl, ?_, ?_⟩
  · have h2 : i.natAbs.log2 ≤ 20 := by
      rcases Nat.eq_zero_or_pos i.natAbs with h0 | h0
      · rw [h0]; decide
      · exact Nat.le_of_lt_succ ((Nat.log2_lt (by omega)).mpr (by omega))
    omega
  · have e : toString i = natStr i.toNat := by
      obtain ⟨n, rfl⟩ : ∃ n : Nat, i = n := ⟨i.toNat, by omega⟩
      rfl
    rw [e]
    refine q.same ⟨rfl, ?_, rfl⟩
    have key : ∀ n : Nat, n < 100 → (natStr n).length ≤ 2 := by decide
    exact Nat.le_trans (key i.toNat (by omega)) (by decide)
theorem TyX.of {d : D} {x : V} {t : String} (r : RV K mg H W d x F) (e : tyOf d = some t) : TyX K H x (.type t) := by
  unfold tyOf at e
  split at e <;> cases e
  · obtain ⟨rfl, _⟩ := r; exact .base .non
  · obtain ⟨rfl, _⟩ := r; exact .base (.bl _)
  · obtain ⟨rfl, _⟩ := r; exact .base (.int _)
  · obtain ⟨rfl, _⟩ := r; exact .base (.str _)
  · obtain ⟨a, vs, rfl, (h | ⟨o, h⟩) | ⟨o, its, n, h, c, _⟩, _⟩ := r
    · exact .base (.tup h)
    · exact .fTuple h
    · exact .kTuple h c
  · obtain ⟨a, vs, F', rfl, h, _⟩ := RV.list r
    exact .base (.lst h)
  · obtain ⟨a, rfl, ⟨o, h⟩ | ⟨o, its, n, h, c, _⟩, _⟩ := r
    · exact .base (.frz h)
    · exact .kList h c
theorem kit_all {t u : String} {b : Bool} (h : isTy d u = some b) (e : tyOf d = some t) : PySem.W.kitOne K (.type t) (.type u) = some b := by
  apply kit_ty
  unfold isTy at h
  unfold tyOf at e h
  split at e <;> cases e <;> (split at h <;> first | (cases h; decide +kernel; done) | (simp at h; done) | (cases h; done))
theorem c_isi : CallR X (.builtin "isinstance") (PN X.K X.mg isiF) := by
  refine callF call_isi fun ds d vs F W H Q rl f q => ?_
  unfold isiF at f
  split at f <;> try (cases f; done)
  rename_i x t
  obtain ⟨v, v', F1, F2, rfl, r1, r2⟩ := rl.pair
  obtain ⟨rfl, _⟩ := r2
  cases e : isTy x t with
  | none => rw [e] at f; cases f
  | some b =>
    rw [e] at f; cases f
    have : ∃ n, tyOf x = some n := by
      unfold isTy at e
      cases h : tyOf x with
      | some n => exact ⟨n, rfl⟩
      | none => rw [h] at e; split at e <;> cases e
    obtain ⟨n, hn⟩ := this
    exact ⟨v, .ty t, .type n, .type t, b, rfl, .ty t, TyX.of r1 hn, kit_all e hn, q.same ⟨rfl, rfl⟩⟩
theorem allB_of : ∀ {xs : List D} {bs : List Bool} {vs : List V} {F : List Addr}, allB xs = some bs → RL K mg H W xs vs F → vs = bs.map V.bl
  | [], bs, _, _, e, h => by obtain ⟨rfl, _⟩ := h; cases e; rfl
  | d :: xs, bs, _, _, e, h => by
    obtain ⟨v, vs, F1, F2, rfl, h1, h2, rfl⟩ := h
    unfold allB at e
    split at e <;> try (cases e; done)
    · rename_i h0; cases h0
    · rename_i h0; cases h0
      obtain ⟨rfl, _⟩ := h1
      cases e2 : allB xs with
      | none => rw [e2] at e; cases e
      | some b =>
        rw [e2] at e; cases e
        rw [allB_of e2 h2]; rfl
theorem allI_of : ∀ {xs : List D} {bs : List Int} {vs : List V} {F : List Addr}, allI xs = some bs → RL K mg H W xs vs F → vs = bs.map V.int
  | [], bs, _, _, e, h => by obtain ⟨rfl, _⟩ := h; cases e; rfl
  | d :: xs, bs, _, _, e, h => by
    obtain ⟨v, vs, F1, F2, rfl, h1, h2, rfl⟩ := h
    unfold allI at e
    split at e <;> try (cases e; done)
    · rename_i h0; cases h0
    · rename_i h0; cases h0
      obtain ⟨rfl, _⟩ := h1
      cases e2 : allI xs with
      | none => rw [e2] at e; cases e
      | some b =>
        rw [e2] at e; cases e
        rw [allI_of e2 h2]; rfl
theorem allS_of : ∀ {xs : List D} {bs : List String} {vs : List V} {F : List Addr}, allS xs = some bs → RL K mg H W xs vs F → vs = (bs.map Str.ofString).map V.str
  | [], bs, _, _, e, h => by obtain ⟨rfl, _⟩ := h; cases e; rfl
  | d :: xs, bs, _, _, e, h => by
    obtain ⟨v, vs, F1, F2, rfl, h1, h2, rfl⟩ := h
    unfold allS at e
    split at e <;> try (cases e; done)
    · rename_i h0; cases h0
    · rename_i h0; cases h0
      obtain ⟨rfl, _⟩ := h1
      cases e2 : allS xs with
      | none => rw [e2] at e; cases e
      | some b =>
        rw [e2] at e; cases e
        rw [allS_of e2 h2]; rfl
theorem c_allF (hc : X.calm = true) : CallR X (.builtin "all") (PN X.K X.mg allF) := by
  refine callF (cr_all hc) fun ds d vs F W H Q rl f q => ?_
  unfold allF at f
  split at f <;> try (cases f; done)
  rename_i o xs
  obtain ⟨v, rfl, r⟩ := rl.one
  obtain ⟨a, vs, F', rfl, h, l, n⟩ := RV.list r
  cases e : allB xs with
  | none => rw [e] at f; cases f
  | some bs =>
    rw [e] at f; cases f
    exact ⟨a, bs, rfl, by rw [← allB_of e l]; exact .inl (.inl h), q.same ⟨rfl, rfl⟩⟩
theorem c_anyF (hc : X.calm = true) : CallR X (.builtin "any") (PN X.K X.mg anyF) := by
  refine callF (cr_any hc) fun ds d vs F W H Q rl f q => ?_
  unfold anyF at f
  split at f <;> try (cases f; done)
  rename_i o xs
  obtain ⟨v, rfl, r⟩ := rl.one
  obtain ⟨a, vs, F', rfl, h, l, n⟩ := RV.list r
  cases e : allB xs with
  | none => rw [e] at f; cases f
  | some bs =>
    rw [e] at f; cases f
    exact ⟨a, bs, rfl, by rw [← allB_of e l]; exact .inl (.inl h), q.same ⟨rfl, rfl⟩⟩
theorem c_sum (hc : X.calm = true) : CallR X (.builtin "sum") (PN X.K X.mg sumF) := by
  refine callF (cr_sum hc) fun ds d vs F W H Q rl f q => ?_
  unfold sumF at f
  split at f <;> try (cases f; done)
  rename_i o xs
  obtain ⟨v, rfl, r⟩ := rl.one
  obtain ⟨a, vs, F', rfl, h, l, n⟩ := RV.list r
  cases e : allI xs with
  | none => rw [e] at f; cases f
  | some bs =>
    rw [e] at f; cases f
    exact ⟨a, bs, rfl, by rw [← allI_of e l]; exact .inl (.inl h), q.same ⟨rfl, rfl⟩⟩
theorem foldl_max_ge : ∀ (r : List Int) (n : Int), n ≤ r.foldl max n ∧ ∀ y ∈ r, y ≤ r.foldl max n
  | [], n => ⟨Int.le_refl _, fun _ z => nomatch z⟩
  | a :: r, n => by
    obtain ⟨h1, h2⟩ := foldl_max_ge r (max n a)
    refine ⟨Int.le_trans (Int.le_max_left n a) h1, fun y hy => ?_⟩
    rcases List.mem_cons.mp hy with rfl | hy
    · exact Int.le_trans (Int.le_max_right n y) h1
    · exact h2 y hy
theorem foldl_max_mem : ∀ (r : List Int) (n : Int), r.foldl max n ∈ n :: r
  | [], n => by simp
  | a :: r, n => by
    have h := foldl_max_mem r (max n a)
    simp only [List.foldl_cons, List.mem_cons] at h ⊢
    rcases h with h | h
    · rw [h]
      rcases Int.le_total n a with z | z
      · right; left; exact Int.max_eq_right z
      · left; exact Int.max_eq_left z
    · right; right; exact h
theorem c_max (hc : X.calm = true) : CallR X (.builtin "max") (PN X.K X.mg maxF) := by
  refine callF (cr_max hc) fun ds d vs F W H Q rl f q => ?_
  unfold maxF at f
  split at f <;> try (cases f; done)
  rename_i o xs
  obtain ⟨v, rfl, r⟩ := rl.one
  obtain ⟨a, vs, F', rfl, h, l, n⟩ := RV.list r
  cases e : allI xs with
  | none => rw [e] at f; cases f
  | some bs =>
    rw [e] at f
    cases bs with
    | nil => cases f
    | cons n r =>
      cases f
      refine ⟨a, n :: r, rfl, by rw [← allI_of e l]; exact .inl (.inl h), by simp, fun m hm hle => ?_⟩
      have e3 : m = r.foldl max n := by
        obtain ⟨g1, g2⟩ := foldl_max_ge r n
        have g3 := hle _ (foldl_max_mem r n)
        rcases List.mem_cons.mp hm with rfl | hm
        · omega
        · have := g2 m hm; omega
      rw [e3]
      exact q.same ⟨rfl, rfl⟩
/-- a built-in function's name, its value -/
def Bl.nm : Bl → String
  | .len => "len" | .tuple => "tuple" | .list => "list" | .int => "int" | .str => "str" | .isinstance => "isinstance" | .all => "all" | .any => "any" | .sum => "sum" | .max => "max"
  | .sortset => "" | .sorted => "sorted" | .dict => "dict"
def Bl.fine : Bl → Bool
  | .sortset => false | .sorted => false | .dict => false
  | _ => true
def Bl.needs : Bl → Bool
  | .list => true | .all => true | .any => true | .sum => true | .max => true
  | _ => false
theorem s_blt (b : Bl) (hb : b.fine = true) (hc : b.needs = true → X.calm = true) (hg : Gl X (Str.ofString b.nm)) (hm : X.mg (Str.ofString b.nm) = none) (ha : PA X (e :: es) (SL X.K X.mg Wx el))
    (he : starEach (e :: es) X.env = (false, eval e X.env) :: starEach es X.env) (hpl : (backTo pos (starEach es X.env)).any (·.1) = false) :
    PE X (.Call (.Name (Str.ofString b.nm) p) (e :: es) [] pos) (SE X.K X.mg Wx (el >>= fun ds => M.lift (bltF b ds))) := by
  have key : ∀ {t : TE} {r : List V → Hp → VK → Prop}, PE X (.Call (.Name (Str.ofString b.nm) p) (e :: es) [] pos) (tCB r (SL X.K X.mg Wx el)) → (∀ vs H Q, PN X.K X.mg (bltF b) vs H Q → r vs H Q) →
      PE X (.Call (.Name (Str.ofString b.nm) p) (e :: es) [] pos) (SE X.K X.mg Wx (el >>= fun ds => M.lift (bltF b ds))) := fun h i => PE.weak h fun s H Q h => by
    obtain ⟨r, F, G, gd, h⟩ := seqL h
    refine ⟨r, F, G, gd, ?_⟩
    cases e : el r with
    | err => rw [e] at h; exact h
    | exc c r' => rw [e] at h; exact h
    | ok ds r1 =>
      rw [e] at h
      intro vs H1 Fd F1 rs p
      obtain ⟨ds', r2, Fd', F2, G', rss, t, h⟩ := h vs H1 Fd F1 rs p
      obtain ⟨d, fe, h⟩ := h.lift
      exact i _ _ _ ⟨ds', d, Fd', _, rss.rv, rss.tr t, fe, Cont.new rss t h⟩
  cases b with
  | len => exact key (t := fun _ _ _ => False) (pe_callB c_len hg hm PySem.boot_len ha (by decide) (by decide) he hpl) fun _ _ _ h => h
  | tuple => exact key (t := fun _ _ _ => False) (pe_callTy c_tuple hg hm (by decide +kernel) ha (by decide) (by decide) he hpl) fun _ _ _ h => h
  | list => exact key (t := fun _ _ _ => False) (pe_callTy (c_list (hc rfl)) hg hm (by decide +kernel) ha (by decide) (by decide) he hpl) fun _ _ _ h => h
  | int => exact key (t := fun _ _ _ => False) (pe_callTy c_int hg hm (by decide +kernel) ha (by decide) (by decide) he hpl) fun _ _ _ h => h
  | str => exact key (t := fun _ _ _ => False) (pe_callTy c_str hg hm (by decide +kernel) ha (by decide) (by decide) he hpl) fun _ _ _ h => h
  | isinstance => exact key (t := fun _ _ _ => False) (pe_callB c_isi hg hm (by decide +kernel) ha (by decide) (by decide) he hpl) fun _ _ _ h => h
  | all => exact key (t := fun _ _ _ => False) (pe_callB (c_allF (hc rfl)) hg hm (by decide +kernel) ha (by decide) (by decide) he hpl) fun _ _ _ h => h
  | any => exact key (t := fun _ _ _ => False) (pe_callB (c_anyF (hc rfl)) hg hm (by decide +kernel) ha (by decide) (by decide) he hpl) fun _ _ _ h => h
  | sum => exact key (t := fun _ _ _ => False) (pe_callB (c_sum (hc rfl)) hg hm (by decide +kernel) ha (by decide) (by decide) he hpl) fun _ _ _ h => h
  | max => exact key (t := fun _ _ _ => False) (pe_callB (c_max (hc rfl)) hg hm (by decide +kernel) ha (by decide) (by decide) he hpl) fun _ _ _ h => h
  | sortset => cases hb
  | sorted => cases hb
  | dict => cases hb
end
end TT
set_option Elab.async false
set_option linter.all false
/-! TK: calls of the module's own defs -/
namespace TT
open PySem PySem.Spec L2
section
variable (K : PySem.W.Frag) (mg : Str → Option Value)
/-- what the changeable arguments are behind a call -/
def RO (H : Hp) (W : List Addr) : List Bool → List D → List V → List Addr → Prop
  | [], os, _, F => os = [] ∧ F = []
  | false :: bs, os, vs, F => ∃ v vs', vs = v :: vs' ∧ RO H W bs os vs' F
  | true :: bs, os, vs, F => ∃ o os' v vs' F1 F2, os = o :: os' ∧ vs = v :: vs' ∧ RV K mg H W o v F1 ∧ RO H W bs os' vs' F2 ∧ F = F1 ++ F2
/-- a def's promise: as the meaning cl says of it -/
def CSp (cl : Cl) (x : String) (io : List Bool) : Sp := fun vs H Q E => ∃ ds F G, RL K mg H (F ++ G) ds vs F ∧ (F ++ G).Nodup ∧ (∀ a ∈ G, H a ≠ none) ∧ ds.length = io.length ∧ (match cl x ds with
  | .ok d os => ∀ v H' Fd Fo, RV K mg H' (Fd ++ Fo ++ G) d v Fd → RO K mg H' (Fd ++ Fo ++ G) io os vs Fo → (Fd ++ Fo ++ G).Nodup → Po H H' F (Fd ++ Fo) → Q v H'
  | .exc c os => ∀ H' Fo, RO K mg H' (Fo ++ G) io os vs Fo → (Fo ++ G).Nodup → Po H H' F Fo → ∀ C, Glo mg c C → E (.ref C) none H'
  | .err => False)
/-- the arguments, as they are handed in -/
def RA (H : Hp) (W : List Addr) (s : L2.St) : List AV → List V → List Addr → Prop
  | [], vs, F => vs = [] ∧ F = []
  | .val d :: as, vs, F => ∃ v vs', vs = v :: vs' ∧ RV K mg H W d v [] ∧ RA H W s as vs' F
  | .tmp d :: as, vs, F => ∃ v vs' F1 F2, vs = v :: vs' ∧ RV K mg H W d v F1 ∧ RA H W s as vs' F2 ∧ F = F1 ++ F2
  | .io (.sl i) :: as, vs, F => ∃ v vs', vs = v :: vs' ∧ s[i]? = some (some v) ∧ RA H W s as vs' F
  | .io _ :: _, _, _ => False
structure Rsa (H : Hp) (as : List AV) (vs : List V) (r : Env) (s : L2.St) (Fa F G : List Addr) : Prop where
  ra : RA K mg H (Fa ++ F ++ G) s as vs Fa
  rs : RS K mg H (Fa ++ F ++ G) r s F
  nd : (Fa ++ F ++ G).Nodup
def ContA (Wx : WX) (Q : List V → Hp → Prop) (s : L2.St) (H : Hp) (F G : List Addr) : Res (List AV) → Prop
  | .ok as r => ∀ vs H' Fa F', Rsa K mg H' as vs r s Fa F' G → Po H H' F (Fa ++ F') → Q vs H'
  | .exc c r => ExcE K mg Wx s H F G c r
  | .err => False
def SA (Wx : WX) (ev : M (List AV)) : TA := fun s H Q => ∃ r F G, Gd K mg H r s F G ∧ ContA K mg Wx Q s H F G (ev r)
end
def modes : List AV → List Bool
  | [] => []
  | .val _ :: as => false :: modes as
  | _ :: as => true :: modes as
section
variable {X : Cx} {Wx : WX} {pos p : Pos} {e : Expr} {es : List Expr} {ea : M D} {el : M (List AV)}
variable {K : PySem.W.Frag} {mg : Str → Option Value} {H H' H2 : Hp} {W W' M F F' F2 G A Fd : List Addr} {Q : VK} {QA : List V → Hp → Prop} {s : L2.St}
theorem CSp.len {cl : Cl} {x : String} {io : List Bool} {vs : List V} {E : XK} (h : CSp K mg cl x io vs H Q E) : vs.length = io.length := by
  obtain ⟨ds, F, G, h1, _, _, h2, _⟩ := h
  rw [h1.length, h2]
theorem RA.stab (k : Kp H H' M) (hM : ∀ a ∈ M, a ∈ W) (hW : ∀ a ∈ W', a ∈ W ∨ H a = none) : ∀ (as : List AV) (vs : List V) (F : List Addr), RA K mg H W s as vs F → (∀ a ∈ F, a ∉ M) → RA K mg H' W' s as vs F
  | [], _, _, h, _ => h
  | .val d :: as, vs, F, h, hF => by
    obtain ⟨v, vs', e, h1, h2⟩ := h
    exact ⟨v, vs', e, RV.stab k hM hW d v [] h1 (fun _ z => nomatch z), RA.stab k hM hW as vs' F h2 hF⟩
  | .tmp d :: as, vs, F, h, hF => by
    obtain ⟨v, vs', F1, F2, e, h1, h2, f⟩ := h
    subst f
    exact ⟨v, vs', F1, F2, e, RV.stab k hM hW d v F1 h1 (fun a z => hF a (by simp [z])), RA.stab k hM hW as vs' F2 h2 (fun a z => hF a (by simp [z])), rfl⟩
  | .io (.sl i) :: as, vs, F, h, hF => by
    obtain ⟨v, vs', e, h1, h2⟩ := h
    exact ⟨v, vs', e, h1, RA.stab k hM hW as vs' F h2 hF⟩
theorem RA.reW {as : List AV} {vs : List V} (h : RA K mg H W s as vs F) (q : ∀ a ∈ W', a ∈ W ∨ H a = none) : RA K mg H W' s as vs F := RA.stab (M := []) (Kp.refl H []) (fun _ z => nomatch z) q as vs F h (fun _ _ z => nomatch z)
theorem RA.tracked : ∀ (as : List AV) (vs : List V) (F : List Addr), RA K mg H W s as vs F → ∀ a ∈ F, H a ≠ none
  | [], _, _, h, a, z => by obtain ⟨_, rfl⟩ := h; cases z
  | .val d :: as, _, _, h, a, z => by
    obtain ⟨v, vs', _, _, h2⟩ := h
    exact RA.tracked as vs' _ h2 a z
  | .tmp d :: as, _, _, h, a, z => by
    obtain ⟨v, vs', F1, F2, _, h1, h2, rfl⟩ := h
    rcases List.mem_append.mp z with z | z
    · exact RV.tracked d v _ h1 a z
    · exact RA.tracked as vs' _ h2 a z
  | .io (.sl i) :: as, _, _, h, a, z => by
    obtain ⟨v, vs', _, _, h2⟩ := h
    exact RA.tracked as vs' _ h2 a z
theorem sa_nil : PA X [] (SA X.K X.mg Wx (pure [])) := PA.weak pa_nil fun s H Q h => by
  obtain ⟨r, F, G, gd, h⟩ := h
  exact h [] H [] F ⟨⟨rfl, rfl⟩, gd.rs, gd.nd⟩ (by simpa using Po.refl)
theorem sa_val (ha : PE X e (SE X.K X.mg Wx ea)) (hl : PA X es (SA X.K X.mg Wx el)) (hs : starEach (e :: es) X.env = (false, eval e X.env) :: starEach es X.env) :
    PA X (e :: es) (SA X.K X.mg Wx (ea >>= fun x => pureM x.frz >>= fun x => el >>= fun xs => pure (.val x :: xs))) := PA.weak (pa_cons ha hl hs) fun s H Q h => by
  obtain ⟨r, F, G, gd, h⟩ := h
  refine ⟨r, F, G, gd, ?_⟩
  rw [M.bind_def] at h
  cases e : ea r with
  | err => rw [e] at h; exact h
  | exc c r' => rw [e] at h; exact h
  | ok d1 r1 =>
    rw [e] at h
    intro v1 H1 Fd F1 rs1 p1
    have t1 : ∀ a ∈ G, H1 a ≠ none := fun a z => p1.gr a (gd.tr a z)
    simp only [M.bind_def] at h
    unfold pureM at h
    by_cases hp : d1.frz.pur = true
    case neg => rw [if_neg hp] at h; exact h.elim
    rw [if_pos hp] at h
    have nd1 := rs1.nd
    have rf : RV X.K X.mg H1 (F1 ++ G) d1.frz v1 [] := RV.frz (fun a z => by grind) _ _ _ rs1.rv hp (fun a z => by grind [List.nodup_append])
    refine ⟨r1, F1, G, ⟨rs1.rs.reW fun a z => .inl (by grind), by grind [List.nodup_append], t1⟩, ?_⟩
    simp only [M.pure_def] at h
    have p1' : Po H H1 F F1 := p1.sub fun a z => List.mem_append_right _ z
    cases e : el r1 with
    | err => rw [e] at h; exact h
    | exc c r' => rw [e] at h; exact ExcE.of h p1'
    | ok as r2 =>
      rw [e] at h
      intro vs H2 Fa F2 rs2 p
      refine h (v1 :: vs) H2 Fa F2 ⟨⟨v1, vs, rfl, ?_, rs2.ra⟩, rs2.rs, rs2.nd⟩ (p1'.trans p)
      exact RV.stab p.kp (fun a z => by grind) (fun a z => by
        have := p.fp a
        grind) _ _ _ rf (fun _ z => nomatch z)
theorem sa_tmp (ha : PE X e (SE X.K X.mg Wx ea)) (hl : PA X es (SA X.K X.mg Wx el)) (hs : starEach (e :: es) X.env = (false, eval e X.env) :: starEach es X.env) :
    PA X (e :: es) (SA X.K X.mg Wx (ea >>= fun x => el >>= fun xs => pure (.tmp x :: xs))) := PA.weak (pa_cons ha hl hs) fun s H Q h => by
  obtain ⟨r, F, G, gd, h⟩ := h
  refine ⟨r, F, G, gd, ?_⟩
  rw [M.bind_def] at h
  cases e : ea r with
  | err => rw [e] at h; exact h
  | exc c r' => rw [e] at h; exact h
  | ok d1 r1 =>
    rw [e] at h
    intro v1 H1 Fd F1 rs1 p1
    have t1 : ∀ a ∈ G, H1 a ≠ none := fun a z => p1.gr a (gd.tr a z)
    refine ⟨r1, F1, Fd ++ G, rs1.gd t1, ?_⟩
    simp only [M.bind_def] at h
    cases e : el r1 with
    | err => rw [e] at h; exact h
    | exc c r' => rw [e] at h; exact ExcE.drop (ExcE.of h p1)
    | ok as r2 =>
      rw [e] at h
      intro vs H2 Fd2 F2 rs2 p
      refine h (v1 :: vs) H2 (Fd ++ Fd2) F2 ⟨⟨v1, vs, Fd, Fd2, rfl, ?_, rs2.ra.reW (fun a z => .inl (by grind)), rfl⟩, rs2.rs.reW (fun a z => .inl (by grind)), ?_⟩ ?_
      · exact RV.stab p.kp (fun a z => by grind) (fun a z => by
          have := p.fp a
          grind) _ _ _ rs1.rv (by have := rs1.nd; grind [List.nodup_append])
      · have := rs2.nd; grind [List.nodup_append]
      · have q : Po H1 H2 (Fd ++ F1) (Fd ++ (Fd2 ++ F2)) := p.frame (RV.tracked _ _ _ rs1.rv)
        rw [List.append_assoc]
        exact p1.trans q
theorem sa_io {i : Nat} {x : Str} (hN : X.N[i]? = some x) (hv : Vis X.env.scope x) (hd : (x == ("__debug__" : Str)) = false) (hcd : (x == ("__classdict__" : Str)) = false) (hl : PA X es (SA X.K X.mg Wx el))
    (hs : starEach (.Name x p :: es) X.env = (false, eval (.Name x p) X.env) :: starEach es X.env) :
    PA X (.Name x p :: es) (SA X.K X.mg Wx (hereM i >>= fun _ => el >>= fun xs => pure (.io (.sl i) :: xs))) := PA.weak (pa_cons (pe_var hN hv hd hcd) hl hs) fun s H Q h => by
  obtain ⟨r, F, G, gd, h⟩ := h
  rw [M.bind_def] at h
  unfold hereM at h
  cases e : getS r i with
  | none => rw [e] at h; exact h.elim
  | some d =>
    rw [e] at h
    obtain ⟨v, F1, F2, e1, r1, r2, p⟩ := gd.rs.split (getS_some.mp e)
    refine ⟨v, e1, r, F, G, gd, ?_⟩
    simp only [M.bind_def] at h
    cases e : el r with
    | err => rw [e] at h; exact h
    | exc c r' => rw [e] at h; exact h
    | ok as r2 =>
      rw [e] at h
      intro vs H2 Fa F2 rs2 p
      exact h (v :: vs) H2 Fa F2 ⟨⟨v, vs, rfl, e1, rs2.ra⟩, rs2.rs, rs2.nd⟩ p

def slotsOf : List AV → List Nat
  | [] => []
  | .io (.sl i) :: as => i :: slotsOf as
  | _ :: as => slotsOf as
theorem take_ok : ∀ (as : List AV) (vs : List V) (Fa F : List Addr) (r : Env) (ds : List D) (r1 : Env), RA K mg H W s as vs Fa → RS K mg H W r s F → takeA as r = some (ds, r1) →
    (∃ Fd F1, RL K mg H W ds vs Fd ∧ RS K mg H W r1 s F1 ∧ (Fa ++ F).Perm (Fd ++ F1)) ∧ (slotsOf as).Nodup ∧ (∀ i ∈ slotsOf as, r[i]? ≠ some (some .hole)) ∧ (∀ i, i ∉ slotsOf as → r1[i]? = r[i]?) ∧ ∀ i ∈ slotsOf as, r1[i]? = some (some .hole)
  | [], _, _, F, r, ds, r1, h, hr, e => by
    obtain ⟨rfl, rfl⟩ := h
    simp only [takeA, Option.some.injEq, Prod.mk.injEq] at e
    obtain ⟨rfl, rfl⟩ := e
    exact ⟨⟨[], F, ⟨rfl, rfl⟩, hr, .refl _⟩, List.nodup_nil, fun _ z => (nomatch z), fun _ _ => rfl, fun _ z => (nomatch z)⟩
  | .val d :: as, _, Fa, F, r, ds, r1, h, hr, e => by
    obtain ⟨v, vs, rfl, h1, h2⟩ := h
    simp only [takeA, Option.map_eq_some_iff, Prod.mk.injEq, Prod.exists] at e
    obtain ⟨ds', r1', e, rfl, rfl⟩ := e
    obtain ⟨⟨Fd, F1, q1, q2, q3⟩, q4⟩ := take_ok as vs Fa F r ds' r1' h2 hr e
    exact ⟨⟨Fd, F1, ⟨v, vs, [], Fd, rfl, h1, q1, rfl⟩, q2, q3⟩, q4⟩
  | .tmp d :: as, _, _, F, r, ds, r1, h, hr, e => by
    obtain ⟨v, vs, A, Fa, rfl, h1, h2, rfl⟩ := h
    simp only [takeA, Option.map_eq_some_iff, Prod.mk.injEq, Prod.exists] at e
    obtain ⟨ds', r1', e, rfl, rfl⟩ := e
    obtain ⟨⟨Fd, F1, q1, q2, q3⟩, q4⟩ := take_ok as vs Fa F r ds' r1' h2 hr e
    refine ⟨⟨A ++ Fd, F1, ⟨v, vs, A, Fd, rfl, h1, q1, rfl⟩, q2, ?_⟩, q4⟩
    rw [List.append_assoc, List.append_assoc]
    exact q3.append_left A
  | .io (.sl i) :: as, _, Fa, F, r, ds, r1, h, hr, e => by
    obtain ⟨v, vs, rfl, h1, h2⟩ := h
    simp only [takeA, takeP] at e
    cases eg : getS r i with
    | none => rw [eg] at e; cases e
    | some d =>
      rw [eg] at e
      have er := getS_some.mp eg
      obtain ⟨v', F1, F2, e1, r2, r3, pm⟩ := hr.split er
      rw [h1] at e1; cases e1
      have hl : i < r.length := (List.getElem?_eq_some_iff.mp er).1
      have e' : d ≠ .hole ∧ ∃ ds' r1', takeA as (setS r i .hole) = some (ds', r1') ∧ d :: ds' = ds ∧ r1' = r1 := by
        cases d <;> simp only [Option.map_some, Option.map_eq_some_iff, Prod.mk.injEq, Prod.exists] at e <;> first | exact ⟨(fun z => nomatch z), e⟩ | cases e
      obtain ⟨nh, ds', r1', e2, rfl, rfl⟩ := e'
      obtain ⟨⟨Fd, F3, q1, q2, q3⟩, q4, q5, q6, q7⟩ := take_ok as vs Fa F2 (setS r i .hole) ds' r1' h2 r3 e2
      have hi : (setS r i D.hole)[i]? = some (some .hole) := by simp [setS, hl]
      have ni : i ∉ slotsOf as := fun z => q5 i z hi
      refine ⟨⟨F1 ++ Fd, F3, ⟨v, vs, F1, Fd, rfl, r2, q1, rfl⟩, q2, ?_⟩, List.nodup_cons.mpr ⟨ni, q4⟩, fun j hj => ?_, fun j hj => ?_, fun j hj => ?_⟩
      · refine (pm.append_left Fa).trans ?_
        rw [← List.append_assoc]
        refine (List.perm_append_comm.append_right F2).trans ?_
        rw [List.append_assoc, List.append_assoc]
        exact q3.append_left F1
      · rcases List.mem_cons.mp hj with rfl | hj
        · rw [er]; intro z; cases z; exact nh rfl
        · intro z
          refine q5 j hj ?_
          have : i ≠ j := fun w => ni (w ▸ hj)
          rw [setS, List.getElem?_set_ne this]; exact z
      · have n1 : i ≠ j := fun w => hj (w ▸ List.mem_cons_self)
        rw [q6 j (fun z => hj (List.mem_cons_of_mem _ z)), setS, List.getElem?_set_ne n1]
      · rcases List.mem_cons.mp hj with rfl | hj
        · rw [q6 j ni]; exact hi
        · exact q7 j hj
theorem give_ok : ∀ (as : List AV) (vs os : List D) (us : List V) (Fa Fo F1 : List Addr) (r1 : Env), RA K mg H W s as us Fa → (slotsOf as).Nodup → (∀ i ∈ slotsOf as, r1[i]? = some (some .hole)) → RO K mg H' W' (modes as) os us Fo → RS K mg H' W' r1 s F1 →
    ∃ F2 B, RS K mg H' W' (giveA as os r1) s F2 ∧ (F2 ++ B).Perm (Fo ++ F1)
  | [], _, os, us, _, Fo, F1, r1, _, _, _, ho, hr => by
    obtain ⟨rfl, rfl⟩ := ho
    exact ⟨F1, [], hr, by simp⟩
  | .val d :: as, vs, os, _, Fa, Fo, F1, r1, h, nd, hh, ho, hr => by
    obtain ⟨v, us, rfl, h1, h2⟩ := h
    obtain ⟨v', us', e, ho⟩ := ho
    cases e
    have : giveA (.val d :: as) os r1 = giveA as os r1 := by cases os <;> rfl
    rw [this]
    exact give_ok as vs os us Fa Fo F1 r1 h2 nd hh ho hr
  | .tmp d :: as, vs, _, _, _, _, F1, r1, h, nd, hh, ho, hr => by
    obtain ⟨v, us, A, Fa, rfl, h1, h2, rfl⟩ := h
    obtain ⟨o, os, v', us', A1, Fo, rfl, e, ho1, ho, rfl⟩ := ho
    cases e
    obtain ⟨F2, B, q1, q2⟩ := give_ok as vs os us Fa Fo F1 r1 h2 nd hh ho hr
    refine ⟨F2, A1 ++ B, q1, ?_⟩
    rw [← List.append_assoc]
    refine (List.perm_append_comm.append_right B).trans ?_
    rw [List.append_assoc, List.append_assoc]
    exact q2.append_left A1
  | .io (.sl i) :: as, vs, _, _, Fa, _, F1, r1, h, nd, hh, ho, hr => by
    obtain ⟨v, us, rfl, h1, h2⟩ := h
    obtain ⟨o, os, v', us', A1, Fo, rfl, e, ho1, ho, rfl⟩ := ho
    cases e
    obtain ⟨ni, nd⟩ := List.nodup_cons.mp nd
    obtain ⟨F3, r3, p3⟩ := RS.plug hr (hh i List.mem_cons_self) h1 ho1
    obtain ⟨F2, B, q1, q2⟩ := give_ok as vs os us Fa Fo F3 (setS r1 i o) h2 nd (fun j hj => by
      have : i ≠ j := fun w => ni (w ▸ hj)
      rw [setS, List.getElem?_set_ne this]
      exact hh j (List.mem_cons_of_mem _ hj)) ho r3
    refine ⟨F2, B, q1, q2.trans ?_⟩
    refine (p3.append_left Fo).trans ?_
    rw [← List.append_assoc]
    exact List.perm_append_comm.append_right F1
/-- the call itself -/
theorem call_rd {cl : Cl} {x : String} {r : Env} {as : List AV} {vs : List V} {Fa : List Addr} {io : List Bool} (rs : Rsa K mg H as vs r s Fa F G) (t : ∀ a ∈ G, H a ≠ none) (hm : modes as = io) (h : Cont K mg Wx Q s H (Fa ++ F) G (callM cl x as r)) :
    CSp K mg cl x io vs H Q (WE Wx s) := by
  subst hm
  unfold callM at h
  cases e : takeA as r with
  | none => rw [e] at h; exact h.elim
  | some dr =>
    obtain ⟨ds, r1⟩ := dr
    rw [e] at h
    obtain ⟨⟨Fd, F1, q1, q2, q3⟩, nd, _, _, hh⟩ := take_ok as vs Fa F r ds r1 rs.ra rs.rs e
    have hmem : ∀ a, (a ∈ Fa ∨ a ∈ F) ↔ (a ∈ Fd ∨ a ∈ F1) := fun a => by have := q3.mem_iff (a := a); simpa using this
    have hnd : (Fd ++ F1 ++ G).Nodup := (q3.append_right G).nodup_iff.mp rs.nd
    have hl : ∀ (as : List AV) (vs : List V) (Fa : List Addr), RA K mg H (Fa ++ F ++ G) s as vs Fa → vs.length = (modes as).length := by
      intro as vs Fa h
      have : ∀ (as : List AV) (vs : List V) (Fa W : List Addr), RA K mg H W s as vs Fa → vs.length = (modes as).length := by
        intro as
        induction as with
        | nil => intro vs Fa W h; rw [h.1]; rfl
        | cons a as ih =>
          intro vs Fa W h
          match a, h with
          | .val d, ⟨v, vs', e, _, h2⟩ => rw [e]; simp [modes, ih _ _ _ h2]
          | .tmp d, ⟨v, vs', _, _, e, _, h2, _⟩ => rw [e]; simp [modes, ih _ _ _ h2]
          | .io (.sl i), ⟨v, vs', e, _, h2⟩ => rw [e]; simp [modes, ih _ _ _ h2]
      exact this _ _ _ _ h
    refine ⟨ds, Fd, F1 ++ G, q1.reW fun a z => .inl (by grind), by simpa using hnd, fun a z => ?_, by rw [← hl _ _ _ rs.ra, q1.length], ?_⟩
    · rcases List.mem_append.mp z with z | z
      · exact RS.tracked _ _ _ q2 a z
      · exact t a z
    · simp only at h
      have back : ∀ {H' : Hp} {Fd' Fo : List Addr} {os : List D}, RO K mg H' (Fd' ++ Fo ++ (F1 ++ G)) (modes as) os vs Fo → (Fd' ++ Fo ++ (F1 ++ G)).Nodup → Po H H' Fd (Fd' ++ Fo) →
          ∃ F2, RS K mg H' (Fd' ++ F2 ++ G) (giveA as os r1) s F2 ∧ (Fd' ++ F2 ++ G).Nodup ∧ Po H H' (Fa ++ F) (Fd' ++ F2) ∧ (∀ a ∈ F2, a ∈ Fo ∨ a ∈ F1) := by
        intro H' Fd' Fo os ro nd' po
        have rs1 : RS K mg H' (Fd' ++ Fo ++ (F1 ++ G)) r1 s F1 := RS.stab po.kp (fun a z => by grind) (fun a z => by
          have := po.fp a
          grind) _ _ _ q2 (fun a z => by grind [List.nodup_append])
        obtain ⟨F2, B, g1, g2⟩ := give_ok as ds os vs Fa Fo F1 r1 rs.ra nd hh ro rs1
        have gm : ∀ a, (a ∈ F2 ∨ a ∈ B) ↔ (a ∈ Fo ∨ a ∈ F1) := fun a => by have := g2.mem_iff (a := a); simpa using this
        have gn : (F2 ++ B).Nodup := g2.nodup_iff.mpr (by grind [List.nodup_append])
        refine ⟨F2, g1.reW fun a z => .inl (by grind), by grind [List.nodup_append], ?_, fun a z => (gm a).mp (.inl z)⟩
        have f := po.frame (A := F1) (RS.tracked _ _ _ q2)
        refine (f.sub fun a z => ?_).wide fun a z => ?_
        · have := gm a; grind
        · have := hmem a; grind
      cases ec : cl x ds with
      | err => rw [ec] at h; exact h
      | exc c os =>
        rw [ec] at h
        intro H' Fo ro nd' po C g
        obtain ⟨F2, g1, g2, g3, _⟩ := back (Fd' := []) (by simpa using ro) (by simpa using nd') (by simpa using po)
        exact h H' F2 (by simpa using g1) (by simpa using g2) (by simpa using g3) C g
      | ok d os =>
        rw [ec] at h
        intro v H' Fd' Fo rv ro nd' po
        obtain ⟨F2, g1, g2, g3, g4⟩ := back ro nd' po
        exact h v H' Fd' F2 ⟨rv.reW fun a z => .inl (by have := g4 a; grind), g1, g2⟩ g3

theorem s_call {cl : Cl} {xs : String} {x : Str} {io : List Bool} {k : Nat} {f : Addr} {fd : FuncData} {ps : List Str} (F : FnOk X.prog X.w X.K X.mg X.base (L2.CX X.prog X.w) k f fd ps (CSp X.K X.mg cl xs io)) (hr : Room k X.A) (hg : Gl X x) (hm : X.mg x = some (.ref f))
    (hk : PySem.W.keepIn X.K (.ref f) = true) (hb : Binds X.K fd ps []) (tk : Takes X Wx) (ha : PA X (e :: es) (SA X.K X.mg Wx el)) (hmo : ∀ r as r', el r = .ok as r' → modes as = io)
    (hdb : (x == ("__debug__" : Str)) = false) (he : starEach (e :: es) X.env = (false, eval e X.env) :: starEach es X.env) (hpl : (backTo pos (starEach es X.env)).any (·.1) = false) :
    PE X (.Call (.Name x p) (e :: es) [] pos) (SE X.K X.mg Wx (el >>= fun avs => callM cl xs avs)) := by
  refine PE.weak (pe_callS (E := WE Wx) F hr hg hm hk hb (fun σ => passAt tk σ) ha hdb he hpl) fun s H Q h => ?_
  obtain ⟨r, F, G, gd, h⟩ := h
  refine ⟨r, F, G, gd, ?_⟩
  rw [M.bind_def] at h
  cases e : el r with
  | err => rw [e] at h; exact h
  | exc c r' => rw [e] at h; exact h
  | ok as r1 =>
    rw [e] at h
    intro vs H1 Fa F1 rs p
    refine call_rd rs (fun a z => p.gr a (gd.tr a z)) (hmo _ _ _ e) ?_
    exact Cont.of (F := F) h p
end
end TT
set_option Elab.async false
set_option linter.all false
/-! TL: methods of texts and lists -/
namespace TT
open PySem PySem.Spec PySem.StrLaws L2 TL
theorem mem_toNat {cs : List Char} {c : Char} : (cs.map Char.toNat).contains c.toNat = cs.contains c := by
  rw [Bool.eq_iff_iff, List.contains_iff_mem, List.contains_iff_mem, List.mem_map]
  constructor
  · rintro ⟨d, h, e⟩
    have : d = c := by apply Char.ext; exact UInt32.toNat_inj.mp e
    rw [← this]; exact h
  · exact fun h => ⟨c, h, rfl⟩
theorem tw_map (cs : List Char) : ∀ s : List Char, ((s.map Char.toNat).takeWhile (cs.map Char.toNat).contains) = (s.takeWhile cs.contains).map Char.toNat
  | [] => rfl
  | c :: s => by
    rw [List.map_cons, List.takeWhile_cons, List.takeWhile_cons, mem_toNat]
    cases cs.contains c
    · rfl
    · simp [tw_map cs s]
theorem S_ofList (l : List Char) : Str.ofString (String.ofList l) = ⟨(l.map Char.toNat).toArray⟩ := by rw [S_eq, String.toList_ofList]
theorem tl_S (s : String) : tl (Str.ofString s) = s.toList.map Char.toNat := by rw [S_eq]
theorem strip_S (s cs : String) : Txt.stripChars (Str.ofString s) (Str.ofString cs) = Str.ofString (String.ofList (stripB cs.toList s.toList)) := by
  unfold Txt.stripChars
  rw [PySem.W.stripBy_eq]
  unfold PySem.W.stripped
  apply ext_tl
  rw [tl_strSub, S_ofList, S_len]
  have e : (fun x => (Str.ofString cs).cps.contains x) = (cs.toList.map Char.toNat).contains := by
    funext x
    rw [S_eq]
    simp
  have e1 : (Str.ofString s).cps.toList = s.toList.map Char.toNat := tl_S s
  simp only [if_true]
  rw [show (Str.ofString cs).cps.contains = (cs.toList.map Char.toNat).contains from e, e1, tl_S, ← List.map_drop, ← List.map_reverse, tw_map, tw_map, List.length_map, ← List.map_take, List.length_map]
  unfold stripB
  simp [String.length_toList]
theorem spl_split (c : Char) : ∀ (l acc : List Char), spl [c.toNat] 0 (acc.map Char.toNat) (l.map Char.toNat) = (match splitOn c l with | [] => [acc] | w :: ws => (acc ++ w) :: ws).map (List.map Char.toNat)
  | [], acc => by rw [List.map_nil, spl_nil]; simp [splitOn]
  | d :: r, acc => by
    rw [List.map_cons]
    by_cases e : d = c
    · subst e
      rw [spl_hit (by simp [pre])]
      have ih := spl_split d r []
      simp only [List.map_nil, List.nil_append] at ih
      have : splitOn d (d :: r) = [] :: splitOn d r := by simp [splitOn]
      rw [this]
      simp only [List.length_singleton, Nat.sub_self, List.append_nil, List.map_cons]
      rw [ih]
      cases h : splitOn d r with
      | nil =>
        exfalso
        cases r with
        | nil => simp [splitOn] at h
        | cons a b =>
          simp only [splitOn] at h
          split at h
          · simp at h
          · split at h <;> simp at h
      | cons w ws => rfl
    · have hn : pre [c.toNat] (d.toNat :: r.map Char.toNat) = false := pre_of_head _ _ fun z => e (by apply Char.ext; exact UInt32.toNat_inj.mp z)
      rw [spl_miss hn]
      have ih := spl_split c r (acc ++ [d])
      rw [List.map_append, List.map_cons, List.map_nil] at ih
      rw [ih]
      simp only [splitOn, if_neg e]
      cases h : splitOn c r with
      | nil =>
        exfalso
        cases r with
        | nil => simp [splitOn] at h
        | cons a b =>
          simp only [splitOn] at h
          split at h
          · simp at h
          · split at h <;> simp at h
      | cons w ws => simp
theorem split_S (s sep : String) (c : Char) (h : sep.toList = [c]) (hc : c.toNat < 256) : Txt.split (Str.ofString s) (Str.ofString sep) = (splitOn c s.toList).map fun w => Str.ofString (String.ofList w) := by
  have e := split_spl (Str.ofString s) (Str.ofString sep) (by rw [tl_S, h]; simp) (kind_ok (by rw [S_eq, h]; simpa using hc))
  rw [tl_S, tl_S, h] at e
  have k := spl_split c s.toList []
  simp only [List.map_nil, List.nil_append] at k
  have k2 : spl [c.toNat] 0 [] (s.toList.map Char.toNat) = (splitOn c s.toList).map (List.map Char.toNat) := by
    rw [k]
    cases h : splitOn c s.toList with
    | nil =>
      exfalso
      cases h2 : s.toList with
      | nil => rw [h2] at h; simp [splitOn] at h
      | cons a b =>
        rw [h2] at h
        simp only [splitOn] at h
        split at h
        · simp at h
        · split at h <;> simp at h
    | cons w ws => rfl
  rw [List.map_cons, List.map_nil, k2] at e
  have inj : ∀ (a : List Str) (b : List (List Char)), a.map tl = b.map (List.map Char.toNat) → a = b.map fun w => Str.ofString (String.ofList w) := by
    intro a
    induction a with
    | nil => intro b h; cases b with
      | nil => rfl
      | cons x y => simp at h
    | cons x a ih => intro b h; cases b with
      | nil => simp at h
      | cons y b =>
        rw [List.map_cons, List.map_cons, List.cons.injEq] at h
        rw [List.map_cons, ih b h.2]
        congr 1
        apply ext_tl
        rw [h.1, tl_S, String.toList_ofList]
  exact inj _ _ e
theorem join_S (z : String) : ∀ (l : List String), Txt.join (Str.ofString z) (l.map Str.ofString) = Str.ofString (joinS z l)
  | [] => rfl
  | a :: r => by
    have key : ∀ (r : List String) (a : String), glueT (tl (Str.ofString z)) ((a :: r).map Str.ofString) = tl (Str.ofString (joinS z (a :: r))) := by
      intro r
      induction r with
      | nil => intro a; simp [glueT, glueL, joinS]
      | cons b r ih =>
        intro a
        have := ih b
        rw [joinS, S_app, S_app, tl_append, tl_append, ← this]
        simp [glueT, glueL]
    apply ext_tl
    rw [← key]
    exact glued_list _ _ _
theorem split_le (c : Char) : ∀ l : List Char, (splitOn c l).length ≤ l.length + 1 ∧ ∀ w ∈ splitOn c l, w.length ≤ l.length
  | [] => by simp [splitOn]
  | d :: r => by
    have ih := split_le c r
    simp only [splitOn]
    split
    · refine ⟨by simp; exact ih.1, fun w h => ?_⟩
      rcases List.mem_cons.mp h with rfl | h
      · simp
      · have := ih.2 w h; simp; omega
    · split
      · simp
      · rename_i w ws e
        rw [e] at ih
        refine ⟨by have := ih.1; simp at this ⊢; omega, fun u h => ?_⟩
        rcases List.mem_cons.mp h with rfl | h
        · have := ih.2 w List.mem_cons_self; simp; omega
        · have := ih.2 u (List.mem_cons_of_mem _ h); simp; omega

section
variable {X : Cx} {Wx : WX} {pos p : Pos} {o e : Expr} {es : List Expr} {ea : M D} {el : M (List D)}
variable {K : PySem.W.Frag} {mg : Str → Option Value} {H H' H2 : Hp} {W W' F F' F2 G A Fd : List Addr} {Q : VK} {s : L2.St}
/-- an object and arguments -/
def PM (K : PySem.W.Frag) (mg : Str → Option Value) (f : D → List D → Option D) : V → List V → Hp → VK → Prop := fun x vs H Q => ∃ d0 ds d F1 F W, RV K mg H W d0 x F1 ∧ RL K mg H W ds vs F ∧ (∀ a ∈ W, H a ≠ none) ∧ f d0 ds = some d ∧ NewV (K := K) (mg := mg) Q H W d
theorem MtR.weak {id : String} {r r' : V → List V → Hp → VK → Prop} (h : MtR X id r) (i : ∀ x vs H Q, r' x vs H Q → r x vs H Q) : MtR X id r' :=
  fun pins s σ H x xs v us Q I rx rv q => h pins s σ H x xs v us Q I rx rv (i _ _ _ _ q)
theorem m_strip : MtR X "str.strip" (PM X.K X.mg stripF) := MtR.weak mt_stripChars fun x vs H Q ⟨d0, ds, d, F1, F, W, r, rl, t, f, q⟩ => by
  unfold stripF at f
  split at f <;> cases f
  obtain ⟨v, rfl, rfl, n2, _⟩ := rl.one
  obtain ⟨rfl, n, _⟩ := r
  refine ⟨_, _, rfl, rfl, by rw [S_len]; exact Nat.le_trans n most_line, ?_⟩
  rw [strip_S]
  refine q.same ⟨rfl, ?_, rfl⟩
  rw [← String.length_toList, String.toList_ofList]
  refine Nat.le_trans ?_ n
  unfold stripB
  rw [← String.length_toList, List.length_take, List.length_drop]
  omega
theorem RL.strs : ∀ {xs : List D} {vs : List V} {ss : List String} {F : List Addr}, RL K mg H W xs vs F → allS xs = some ss → vs = (ss.map Str.ofString).map V.str ∧ F = []
  | [], _, _, _, h, e => by obtain ⟨rfl, rfl⟩ := h; cases e; exact ⟨rfl, rfl⟩
  | d :: xs, _, ss, _, h, e => by
    obtain ⟨v, vs, F1, F2, rfl, h1, h2, rfl⟩ := h
    cases d <;> simp only [allS] at e <;> try (cases e; done)
    rename_i z
    cases e2 : allS xs with
    | none => rw [e2] at e; cases e
    | some r =>
      rw [e2] at e; cases e
      obtain ⟨rfl, rfl⟩ := RL.strs h2 e2
      obtain ⟨rfl, _, rfl⟩ := h1
      exact ⟨rfl, rfl⟩
theorem RL.ofStrs : ∀ {ss : List String}, (∀ s ∈ ss, s.length ≤ most) → RL K mg H W (ss.map D.str) ((ss.map Str.ofString).map V.str) []
  | [], _ => ⟨rfl, rfl⟩
  | s :: ss, h => ⟨_, _, [], [], rfl, ⟨rfl, h s List.mem_cons_self, rfl⟩, RL.ofStrs fun z hz => h z (List.mem_cons_of_mem _ hz), rfl⟩
theorem m_split : MtR X "str.split" (PM X.K X.mg splitF) := MtR.weak mt_split fun x vs H Q ⟨d0, ds, d, F1, F, W, r, rl, t, f, q⟩ => by
  unfold splitF at f
  split at f <;> try (cases f; done)
  split at f <;> try (cases f; done)
  split at f <;> cases f
  rename_i s sep _ c hc hb
  simp only [Bool.and_eq_true, decide_eq_true_eq] at hb
  obtain ⟨hc1, hs⟩ := hb
  rw [small_iff] at hs
  obtain ⟨v, rfl, rfl, n2, _⟩ := rl.one
  obtain ⟨rfl, n, _⟩ := r
  have hl : sep.length = 1 := by rw [← String.length_toList, hc]; rfl
  have nl : most + 2 ≤ sizeLine := by decide
  refine ⟨_, _, rfl, rfl, by rw [S_len, hl]; rfl, by rw [S_len]; omega, ?_⟩
  rw [split_S _ _ c hc hc1]
  have e1 : ((splitOn c s.toList).map fun w => D.str (String.ofList w)) = ((splitOn c s.toList).map String.ofList).map D.str := by simp
  have e2 : ((splitOn c s.toList).map fun w => Str.ofString (String.ofList w)) = ((splitOn c s.toList).map String.ofList).map Str.ofString := by simp
  rw [e1] at q
  rw [e2]
  have hle := split_le c s.toList
  rw [String.length_toList] at hle
  refine q.lst (RL.ofStrs fun z hz => ?_) ?_
  · obtain ⟨w, hw, rfl⟩ := List.mem_map.mp hz
    rw [← String.length_toList, String.toList_ofList]
    exact Nat.le_trans (hle.2 w hw) n
  · rw [List.length_map, List.length_map]
    exact Nat.le_trans hle.1 hs
theorem joinS_len (z : String) : ∀ l : List String, (joinS z l).length ≤ (l.map String.length).sum + l.length * z.length
  | [] => by simp [joinS]
  | [a] => by simp [joinS]
  | a :: b :: r => by
    have ih := joinS_len z (b :: r)
    rw [joinS]
    simp only [String.length_append, List.map_cons, List.sum_cons, List.length_cons, Nat.add_mul] at ih ⊢
    omega
theorem m_join : MtR X "str.join" (PM X.K X.mg joinF) := MtR.weak mt_join fun x vs H Q ⟨d0, ds, d, F1, F, W, r, rl, t, f, q⟩ => by
  have fin : ∀ (s : String) (xs : List D) (p : Addr) (us : List V) (F' : List Addr), d0 = .str s → vs = [.ref p] → RL X.K X.mg H W xs us F' → (SqL X.K H p us ∨ SqT X.K H p us) →
      ((allS xs).bind fun ss => if small ((ss.map String.length).sum + ss.length * s.length) then some (D.str (joinS s ss)) else none) = some d →
      ∃ a p, ∃ ys : List Str, x = .str a ∧ vs = [.ref p] ∧ (SqL X.K H p (ys.map V.str) ∨ SqT X.K H p (ys.map V.str)) ∧ (ys.map (·.length)).sum + ys.length * a.length ≤ 16777216 ∧ Q (.str (Txt.join a ys)) H := by
    rintro s xs p us F' rfl rfl hl hp hf
    cases e : allS xs with
    | none => rw [e] at hf; cases hf
    | some ss =>
      rw [e] at hf
      simp only [Option.bind_some] at hf
      split at hf <;> cases hf
      rename_i hs
      rw [small_iff] at hs
      obtain ⟨rfl, rfl⟩ := RL.strs hl e
      obtain ⟨rfl, n, _⟩ := r
      refine ⟨_, p, ss.map Str.ofString, rfl, rfl, hp, ?_, ?_⟩
      · have e1 : ((ss.map Str.ofString).map fun x => x.length) = ss.map String.length := by
          rw [List.map_map]; exact List.map_congr_left fun a _ => S_len a
        rw [e1, List.length_map, S_len]
        have : most ≤ 16777216 := by decide
        omega
      · rw [join_S]
        exact q.same ⟨rfl, Nat.le_trans (joinS_len s ss) hs, rfl⟩
  unfold joinF at f
  split at f <;> try (cases f; done)
  · obtain ⟨v, rfl, rv⟩ := rl.one
    obtain ⟨a, us, F', rfl, h, l, n⟩ := RV.list rv
    exact fin _ _ _ _ _ rfl rfl l (.inl (.inl (.inl h))) f
  · obtain ⟨v, rfl, a, us, rfl, h, n, l⟩ := rl.one
    exact fin _ _ _ _ _ rfl rfl l (.inr h) f
/-- a call of a built-in method -/
theorem bm_rd {T id : String} {m : Bm} (ty : ∀ d v H W F, RV K mg H W d v F → bmTy m d = some () → tyV K T v H) (h : SE K mg Wx (ea >>= fun x => M.lift (bmTy m x) >>= fun _ => el >>= fun ds => M.lift (bmtF m x ds)) s H Q) :
    tBM K T (PM K mg (bmtF m)) (SE K mg Wx ea) (SL K mg Wx el) s H Q := by
  refine (seq1 h).imp fun v1 H1 h => ?_
  obtain ⟨d1, r1, Fd, F1, G, rs1, t1, h⟩ := h
  rw [M.bind_def] at h
  cases e : bmTy m d1 with
  | none => rw [e] at h; exact h.elim
  | some u =>
    rw [e] at h
    refine ⟨ty _ _ _ _ _ rs1.rv e, r1, F1, Fd ++ G, rs1.gd t1, ?_⟩
    simp only [M.lift_some, M.bind_def] at h
    cases e : el r1 with
    | err => rw [e] at h; exact h
    | exc c r' => rw [e] at h; exact ExcE.drop h
    | ok ds r2 =>
      rw [e] at h
      intro vs H2 Fd2 F2 rs2 p
      have q : Po H1 H2 (Fd ++ F1) (Fd ++ (Fd2 ++ F2)) := p.frame (RV.tracked _ _ _ rs1.rv)
      have h2 := Cont.of h q
      obtain ⟨d, fe, h2⟩ := h2.lift
      have rv1 : RV K mg H2 ((Fd ++ Fd2) ++ F2 ++ G) d1 v1 Fd := RV.stab p.kp (fun a z => by grind) (fun a z => by
        have := p.fp a
        grind) _ _ _ rs1.rv (by have := rs1.nd; grind [List.nodup_append])
      have rss : Rss K mg H2 (d1 :: ds) (v1 :: vs) r2 s (Fd ++ Fd2) F2 G := ⟨⟨v1, vs, Fd, Fd2, rfl, rv1, rs2.rv.reW (fun a z => .inl (by grind)), rfl⟩, rs2.rs.reW (fun a z => .inl (by grind)), by have := rs2.nd; grind [List.nodup_append]⟩
      have t2 : ∀ a ∈ G, H2 a ≠ none := fun a z => p.gr a (t1 a z)
      exact ⟨d1, ds, d, Fd, Fd2, _, rv1, rs2.rv.reW (fun a z => .inl (by grind)), rss.tr t2, fe, Cont.new rss t2 (by simpa using h2)⟩
def Bm.ty : Bm → String
  | .strip => "str" | .split => "str" | .join => "str" | .find => "str"
  | .count => "list" | .index => "list"
  | .get => "dict" | .items => "dict"
theorem bm_ty (m : Bm) (d : D) (v : V) (H : Hp) (W F : List Addr) (r : RV K mg H W d v F) (h : bmTy m d = some ()) : tyV K m.ty v H := by
  have st : ∀ s, d = .str s → tyV K "str" v H := by rintro s rfl; obtain ⟨rfl, _⟩ := r; rfl
  have ls : ∀ o xs, d = .lst o xs → tyV K "list" v H := by
    rintro o xs rfl
    obtain ⟨a, vs, _, rfl, h, _⟩ := RV.list r
    exact .inl ⟨rfl, vs, .inl (.inl h)⟩
  have di : ∀ o k es, d = .dct o k es → tyV K "dict" v H := by
    rintro o k es rfl
    cases k with
    | true => cases o <;> exact r.elim
    | false =>
      obtain ⟨a, kvs, F', rfl, h, l, _⟩ := RV.dict r
      exact .inr (.inr (.inl ⟨rfl, .inl ⟨kvs, h⟩⟩))
  cases m <;> cases d <;> simp only [bmTy] at h <;> first | (cases h; done) | exact st _ rfl | exact ls _ _ rfl | exact di _ _ _ rfl
def Bm.nm : Bm → String
  | .strip => "strip" | .split => "split" | .join => "join" | .find => "find" | .count => "count" | .index => "index" | .get => "get" | .items => "items"
def Bm.fine : Bm → Bool
  | .strip => true | .split => true | .join => true
  | _ => false
theorem s_bmt {m : Bm} {apos : Pos} (hm : m.fine = true) (ho : PE X o (SE X.K X.mg Wx ea)) (ha : PA X (e :: es) (SL X.K X.mg Wx el))
    (hbase : attributeBase o (Str.ofString m.nm) X.env (eval o X.env) = eval o X.env)
    (hfew : ((backTo pos (starEach (e :: es) X.env)).all (fun x => !x.1) && (backToKw pos (keywordEach [] X.env)).all (fun x => x.1.isSome)
      && decide ((e :: es).length + ([] : List Keyword).length + (if ([] : List Keyword).isEmpty then 0 else 1) < 30)) = true)
    (hline : (apos.endLine == pos.line) = true) (hs : starEach (e :: es) X.env = (false, eval e X.env) :: starEach es X.env) (hplain : (backTo pos (starEach es X.env)).any (·.1) = false) :
    PE X (.Call (.Attribute o (Str.ofString m.nm) apos) (e :: es) [] pos) (SE X.K X.mg Wx (ea >>= fun x => M.lift (bmTy m x) >>= fun _ => el >>= fun ds => M.lift (bmtF m x ds))) := by
  cases m <;> first | (cases hm; done) | skip
  · exact PE.weak (pe_bm F.plainAttrs_str F.slot_str_strip F.type_str_strip m_strip ho ha hbase hfew hline hs hplain) fun _ _ _ h => bm_rd (m := .strip) (T := "str") (id := "str.strip") (fun d v H W F r e => bm_ty .strip d v H W F r e) h
  · exact PE.weak (pe_bm F.plainAttrs_str F.slot_str_split F.type_str_split m_split ho ha hbase hfew hline hs hplain) fun _ _ _ h => bm_rd (m := .split) (T := "str") (id := "str.split") (fun d v H W F r e => bm_ty .split d v H W F r e) h
  · exact PE.weak (pe_bm F.plainAttrs_str F.slot_str_join F.type_str_join m_join ho ha hbase hfew hline hs hplain) fun _ _ _ h => bm_rd (m := .join) (T := "str") (id := "str.join") (fun d v H W F r e => bm_ty .join d v H W F r e) h
end
end TT
set_option Elab.async false
set_option linter.all false
/-! TM: methods that change a thing -/
namespace TT
open PySem PySem.Spec PySem.StrLaws L2 TL
section
variable {X : Cx} {Wx : WX} {pos p : Pos} {o e : Expr} {es : List Expr} {ea : M D} {el : M (List D)}
variable {K : PySem.W.Frag} {mg : Str → Option Value} {H H' H2 : Hp} {W W' F F' F1 F2 G A Fd : List Addr} {Q : VK} {s : L2.St}
def MW (K : PySem.W.Frag) (mg : Str → Option Value) (f : D → List D → Option (D × D)) : V → List V → Hp → VK → Prop := fun x vs H Q => ∃ d0 ds dv d' F1 F2 G,
  RV K mg H (F1 ++ F2 ++ G) d0 x F1 ∧ RL K mg H (F1 ++ F2 ++ G) ds vs F2 ∧ (F1 ++ F2 ++ G).Nodup ∧ (∀ a ∈ G, H a ≠ none) ∧ f d0 ds = some (dv, d') ∧
  ∀ v H' Fv F', RV K mg H' (Fv ++ F' ++ G) dv v Fv → RV K mg H' (Fv ++ F' ++ G) d' x F' → (Fv ++ F' ++ G).Nodup → Po H H' (F1 ++ F2) (Fv ++ F') → Q v H'
theorem Kp.upd1 {a : Addr} {o o' : HO} (h : H a = some o) (hf : fixd o = false) : Kp H (upd H a o') [a] := fun b u e z => by
  by_cases hb : b = a
  · subst hb
    rw [h] at e; cases e
    rcases z with z | z
    · exact absurd List.mem_cons_self z
    · rw [hf] at z; cases z
  · rw [upd_ne hb]; exact e
/-- a thing of one's own is changed -/
theorem Po.upd1 {a : Addr} {o o' : HO} (h : H a = some o) (hf : fixd o = false) (ha : a ∈ F) (hs : ∀ b ∈ F', b ∈ F) : Po H (upd H a o') F F' where
  kp := fun b u e z => (Kp.upd1 h hf) b u e (z.elim (fun z => .inl fun y => z (by rw [List.mem_singleton.mp y]; exact ha)) .inr)
  gr := fun b z => by
    by_cases hb : b = a
    · subst hb; rw [upd_same]; exact fun x => nomatch x
    · rw [upd_ne hb]; exact z
  fp := fun b z => .inl (hs b z)
theorem m_append : MtR X "list.append" (MW X.K X.mg appendF) := MtR.weak mt_append fun x vs H Q ⟨d0, ds, dv, d', F1, F2, G, r, rl, nd, t, f, q⟩ => by
  unfold appendF at f
  split at f <;> try (cases f; done)
  split at f <;> cases f
  rename_i xs y hs
  rw [small_iff] at hs
  obtain ⟨v, rfl, ry⟩ := rl.one
  obtain ⟨a, us, F', rfl, h, n, l, rfl⟩ := r
  have hsz : us.length < sizeLine := by rw [l.length]; have : most ≤ sizeLine := most_line; omega
  refine ⟨a, us, v, rfl, rfl, h, hsz, ?_⟩
  have k : Kp H (upd H a (.lst (us ++ [v]))) [a] := Kp.upd1 h rfl
  have hM : ∀ b ∈ [a], b ∈ a :: F' ++ F2 ++ G := fun b z => by rw [List.mem_singleton.mp z]; simp
  have hW : ∀ b ∈ ([] : List Addr) ++ (a :: (F' ++ F2)) ++ G, b ∈ a :: F' ++ F2 ++ G ∨ H b = none := fun b z => .inl (by simpa using z)
  refine q .non _ [] (a :: (F' ++ F2)) ⟨rfl, rfl⟩ ⟨a, us ++ [v], F' ++ F2, rfl, upd_same, by simpa using hs, ?_, rfl⟩ (by simpa using nd) (Po.upd1 h rfl (by simp) fun b z => by simpa using z)
  refine RL.append (RL.stab k hM hW _ _ _ l fun b z y => ?_) ⟨v, [], F2, [], rfl, RV.stab k hM hW _ _ _ ry fun b z y => ?_, ⟨rfl, rfl⟩, by simp⟩
  · rw [List.mem_singleton.mp y] at z
    have := nd; simp at this; grind
  · rw [List.mem_singleton.mp y] at z
    have := nd; simp at this; grind
def Mu.nm : Mu → String
  | .append => "append" | .extend => "extend" | .pop => "pop" | .dpop => "pop" | .setL => "" | .setD => ""
/-- a slot's thing is changed by a method -/
theorem mut_rd {m : Mu} {i : Nat} (hl : m.isL = true) (h : SE K mg Wx (tyM m.isL (.sl i) >>= fun _ => el >>= fun ds => mutM m (.sl i) ds) s H Q) :
    tBM K "list" (MW K mg (mutF m)) (tVar i) (SL K mg Wx el) s H Q := by
  obtain ⟨r, F, G, gd, h⟩ := h
  rw [hl, M.bind_def] at h
  simp only [tyM, takeP] at h
  cases eg : getS r i with
  | none => rw [eg] at h; exact h.elim
  | some d0 =>
    rw [eg] at h
    obtain ⟨v, F1, F2, e1, r1, r2, pm⟩ := gd.rs.split (getS_some.mp eg)
    have h' : (∃ xs, d0 = .lst true xs) ∧ Cont K mg Wx Q s H F G ((el >>= fun ds => mutM m (.sl i) ds) r) := by
      cases d0 <;> try exact h.elim
      · rename_i o xs
        cases o
        · exact h.elim
        · exact ⟨⟨xs, rfl⟩, h⟩
      · rename_i o k es
        cases o <;> exact h.elim
    clear h
    obtain ⟨⟨xs, rfl⟩, h⟩ := h'
    refine ⟨v, e1, ?_, r, F, G, gd, ?_⟩
    · obtain ⟨a, us, F', rfl, hh, _⟩ := r1
      exact .inl ⟨rfl, us, .inl (.inl hh)⟩
    · rw [M.bind_def] at h
      cases e : el r with
      | err => rw [e] at h; exact h
      | exc c r' => rw [e] at h; exact h
      | ok ds r2 =>
        rw [e] at h
        intro vs H2 Fd F2 rs2 p
        simp only at h
        simp only [mutM, takeP] at h
        cases eg2 : getS r2 i with
        | none => rw [eg2] at h; exact h.elim
        | some d1 =>
          rw [eg2] at h
          simp only [Option.map_some] at h
          cases em : mutF m d1 ds with
          | none => rw [em] at h; exact h.elim
          | some dd =>
            obtain ⟨dv, d'⟩ := dd
            rw [em] at h
            obtain ⟨v', A1, A2, e2, q1, q2, pm2⟩ := rs2.rs.split (getS_some.mp eg2)
            rw [e1] at e2; cases e2
            have am : ∀ a, a ∈ F2 ↔ a ∈ A1 ∨ a ∈ A2 := fun a => by rw [pm2.mem_iff, List.mem_append]
            have an : (A1 ++ Fd ++ (A2 ++ G)).Nodup := by
              have h1 := rs2.nd
              have h2 : (Fd ++ (A1 ++ A2) ++ G).Nodup := ((pm2.append_left Fd).append_right G).nodup_iff.mp h1
              grind [List.nodup_append]
            have tG : ∀ a ∈ A2 ++ G, H2 a ≠ none := fun a z => (List.mem_append.mp z).elim (fun z => RS.tracked _ _ _ q2 a z) fun z => p.gr a (gd.tr a z)
            refine ⟨d1, ds, dv, d', A1, Fd, A2 ++ G, q1.reW fun a z => .inl (by grind), rs2.rv.reW fun a z => .inl (by grind), an, tG, em, fun u H' Fv F' rv rd nd' po => ?_⟩
            have hl : i < r2.length := (List.getElem?_eq_some_iff.mp (getS_some.mp eg2)).1
            have rs3 : RS K mg H' (Fv ++ F' ++ (A2 ++ G)) (r2.set i (some .hole)) s A2 := RS.stab po.kp (fun a z => by grind) (fun a z => by
              have := po.fp a
              grind) _ _ _ q2 (fun a z => by grind [List.nodup_append])
            obtain ⟨F3, g1, g2⟩ := RS.plug rs3 (by simp [hl]) e1 rd
            rw [List.set_set] at g1
            have gm : ∀ a, a ∈ F3 ↔ a ∈ F' ∨ a ∈ A2 := fun a => by rw [g2.mem_iff, List.mem_append]
            have g1' : RS K mg H' (Fv ++ F3 ++ G) (r2.set i (some d')) s F3 := g1.reW fun a z => .inl (by have := gm a; grind)
            have h3 := Cont.of h p
            have eS : putP (.sl i) d' (setS r2 i .hole) = r2.set i (some d') := by simp [putP, setS]
            simp only [eS] at h3
            refine h3 u H' Fv F3 ⟨rv.reW fun a z => .inl (by have := gm a; grind), g1', ?_⟩ ?_
            · have h1 : (Fv ++ (F' ++ A2) ++ G).Nodup := by grind [List.nodup_append]
              exact ((g2.append_left Fv).append_right G).nodup_iff.mpr h1
            · have f := po.frame (A := A2) (RS.tracked _ _ _ q2)
              exact (f.sub fun a z => by have := gm a; grind).wide fun a z => by have := am a; grind
def Mu.fine : Mu → Bool
  | .append => true
  | _ => false
theorem s_mut {m : Mu} {i : Nat} {x : Str} {apos : Pos} (hm : m.fine = true) (hN : X.N[i]? = some x) (hv : Vis X.env.scope x) (hd : (x == ("__debug__" : Str)) = false) (hcd : (x == ("__classdict__" : Str)) = false) (ha : PA X (e :: es) (SL X.K X.mg Wx el))
    (hbase : attributeBase (.Name x p) (Str.ofString m.nm) X.env (eval (.Name x p) X.env) = eval (.Name x p) X.env)
    (hfew : ((backTo pos (starEach (e :: es) X.env)).all (fun x => !x.1) && (backToKw pos (keywordEach [] X.env)).all (fun x => x.1.isSome)
      && decide ((e :: es).length + ([] : List Keyword).length + (if ([] : List Keyword).isEmpty then 0 else 1) < 30)) = true)
    (hline : (apos.endLine == pos.line) = true) (hs : starEach (e :: es) X.env = (false, eval e X.env) :: starEach es X.env) (hplain : (backTo pos (starEach es X.env)).any (·.1) = false) :
    PE X (.Call (.Attribute (.Name x p) (Str.ofString m.nm) apos) (e :: es) [] pos) (SE X.K X.mg Wx (tyM m.isL (.sl i) >>= fun _ => el >>= fun ds => mutM m (.sl i) ds)) := by
  cases m <;> first | (cases hm; done) | skip
  · exact PE.weak (pe_bm F.plainAttrs_list F.slot_list_append F.type_list_append m_append (pe_var hN hv hd hcd) ha hbase hfew hline hs hplain) fun _ _ _ h => mut_rd (m := .append) rfl h
end
end TT
set_option Elab.async false
set_option linter.all false
/-! TN: statements -/
namespace TT
open PySem PySem.Spec PySem.StrLaws L2
/-- these slots are as they were -/
def Kq (kp : Nat → Bool) (s s' : L2.St) : Prop := ∀ i, kp i = true → s'[i]? = s[i]?
section
variable (K : PySem.W.Frag) (mg : Str → Option Value)
def ContS (Wx : WX) (kp : Nat → Bool) (Z : Ends) (s : L2.St) (H : Hp) (F G : List Addr) : Res Fl → Prop
  | .ok .nx r => ∀ s' H' F', RS K mg H' (F' ++ G) r s' F' → (F' ++ G).Nodup → Po H H' F F' → Kq kp s s' → Z.nx s' H'
  | .ok (.rt d) r => ∀ v s' H' Fd F', Rs K mg H' d v r s' Fd F' G → Po H H' F (Fd ++ F') → Kq kp s s' → Z.rt v H'
  | .exc c r => ∀ s' H' F', RS K mg H' (F' ++ G) r s' F' → (F' ++ G).Nodup → Po H H' F F' → Kq kp s s' → ∀ C, Glo mg c C → Wx (.ref C) none s' H'
  | .err => False
def SS (Wx : WX) (kp : Nat → Bool) (ev : M Fl) : TS := fun Z s H => ∃ r F G, Gd K mg H r s F G ∧ ContS K mg Wx kp Z s H F G (ev r)
end
section
variable {X : Cx} {Wx : WX} {kp : Nat → Bool} {pos p : Pos} {e : Expr} {es : List Expr} {ea : M D} {el : M (List D)} {st : Stmt} {sts a b : List Stmt} {Z : Ends} {e1 e2 : M Fl}
variable {K : PySem.W.Frag} {mg : Str → Option Value} {H H' H2 : Hp} {W W' F F' F1 F2 G A Fd : List Addr} {s s' : L2.St}
theorem Kq.refl : Kq kp s s := fun _ _ => rfl
theorem Kq.trans {s2 : L2.St} (h : Kq kp s s') (h2 : Kq kp s' s2) : Kq kp s s2 := fun i hi => (h2 i hi).trans (h i hi)
theorem Kq.set {i : Nat} {o : Option V} (h : kp i = false) : Kq kp s (s.set i o) := fun j hj => by
  have : i ≠ j := fun z => by rw [z, hj] at h; cases h
  exact List.getElem?_set_ne this
theorem ContS.of {res : Res Fl} (h : ContS K mg Wx kp Z s H F G res) (p : Po H H' F F') (q : Kq kp s s') : ContS K mg Wx kp Z s' H' F' G res := by
  match res, h with
  | .ok .nx r, h => exact fun s2 H2 F2 rs nd p2 q2 => h s2 H2 F2 rs nd (p.trans p2) (q.trans q2)
  | .ok (.rt d) r, h => exact fun v s2 H2 Fd F2 rs p2 q2 => h v s2 H2 Fd F2 rs (p.trans p2) (q.trans q2)
  | .exc c r, h => exact fun s2 H2 F2 rs nd p2 q2 => h s2 H2 F2 rs nd (p.trans p2) (q.trans q2)
/-- what a temporary owned is let go -/
theorem ContS.wide {res : Res Fl} (h : ContS K mg Wx kp Z s H (Fd ++ F) G res) : ContS K mg Wx kp Z s H F G res := by
  match res, h with
  | .ok .nx r, h => exact fun s2 H2 F2 rs nd p2 q2 => h s2 H2 F2 rs nd (p2.wide fun a z => List.mem_append_right _ z) q2
  | .ok (.rt d) r, h => exact fun v s2 H2 Fd F2 rs p2 q2 => h v s2 H2 Fd F2 rs (p2.wide fun a z => List.mem_append_right _ z) q2
  | .exc c r, h => exact fun s2 H2 F2 rs nd p2 q2 => h s2 H2 F2 rs nd (p2.wide fun a z => List.mem_append_right _ z) q2
theorem ContS.exc {c : String} {r : Env} (h : ContS K mg Wx kp Z s H F G (.exc c r)) : ExcE K mg Wx s H F G c r := fun H' F' rs nd p C g => h s H' F' rs nd p Kq.refl C g
/-- an expression, then what is done with it -/
theorem seqE {k : D → M Fl} {Z : Ends} (h : SS K mg Wx kp (ea >>= k) Z s H) :
    SE K mg Wx ea s H fun v H1 => ∃ d r1 Fd F1 G, Rs K mg H1 d v r1 s Fd F1 G ∧ (∀ a ∈ G, H1 a ≠ none) ∧ ContS K mg Wx kp Z s H1 (Fd ++ F1) G (k d r1) := by
  obtain ⟨r, F, G, gd, h⟩ := h
  refine ⟨r, F, G, gd, ?_⟩
  rw [M.bind_def] at h
  cases e : ea r with
  | err => rw [e] at h; exact h
  | exc c r' => rw [e] at h; exact ContS.exc h
  | ok d r' =>
    rw [e] at h
    exact fun v H' Fd F' rs p => ⟨d, r', Fd, F', G, rs, fun a z => p.gr a (gd.tr a z), ContS.of h p Kq.refl⟩
theorem ss_nil : PSs X [] (SS X.K X.mg Wx kp (pure .nx)) := PSs.weak pss_nil fun Z s H h => by
  obtain ⟨r, F, G, gd, h⟩ := h
  exact h s H F gd.rs gd.nd Po.refl Kq.refl
def seqM (e1 e2 : M Fl) : M Fl := e1 >>= fun f => match f with
  | .nx => e2
  | .rt d => pure (.rt d)
theorem seq_rd (h : SS K mg Wx kp (seqM e1 e2) Z s H) : SS K mg Wx kp e1 { Z with nx := fun s H => SS K mg Wx kp e2 Z s H } s H := by
  obtain ⟨r, F, G, gd, h⟩ := h
  refine ⟨r, F, G, gd, ?_⟩
  unfold seqM at h
  rw [M.bind_def] at h
  cases e : e1 r with
  | err => rw [e] at h; exact h
  | exc c r' => rw [e] at h; exact h
  | ok fl r' =>
    rw [e] at h
    cases fl with
    | rt d => exact h
    | nx => exact fun s' H' F' rs nd p q => ⟨r', F', G, ⟨rs, nd, fun a z => p.gr a (gd.tr a z)⟩, ContS.of h p q⟩
theorem ss_cons (h1 : PS X st (SS X.K X.mg Wx kp e1)) (h2 : PSs X sts (SS X.K X.mg Wx kp e2)) : PSs X (st :: sts) (SS X.K X.mg Wx kp (seqM e1 e2)) :=
  PSs.weak (pss_cons h1 h2) fun Z s H h => seq_rd h
theorem ss_pass : PS X (.Pass pos) (SS X.K X.mg Wx kp (pure .nx)) := PS.weak ps_pass fun Z s H h => by
  obtain ⟨r, F, G, gd, h⟩ := h
  exact h s H F gd.rs gd.nd Po.refl Kq.refl
theorem ss_ret (ha : PE X e (SE X.K X.mg Wx ea)) : PS X (.Return (some e) pos) (SS X.K X.mg Wx kp (ea >>= fun d => pure (.rt d))) := PS.weak (ps_ret ha) fun Z s H h => by
  refine (seqE h).imp fun v H1 h => ?_
  obtain ⟨d, r, Fd, F, G, rs, t, h⟩ := h
  exact h v s H1 Fd F rs Po.refl Kq.refl
theorem ss_retN : PS X (.Return none pos) (SS X.K X.mg Wx kp (pure (.rt .non))) := PS.weak ps_retN fun Z s H h => by
  obtain ⟨r, F, G, gd, h⟩ := h
  exact h .non s H [] F ⟨⟨rfl, rfl⟩, by simpa using gd.rs, by simpa using gd.nd⟩ (by simpa using Po.refl) Kq.refl
theorem ss_exp (ha : PE X e (SE X.K X.mg Wx ea)) (hs : swapsWith e none pos.line X.env = pure false) : PS X (.Expr e pos) (SS X.K X.mg Wx kp (ea >>= fun _ => pure .nx)) := PS.weak (ps_expr ha hs) fun Z s H h => by
  refine (seqE h).imp fun v H1 h => ?_
  obtain ⟨d, r, Fd, F, G, rs, t, h⟩ := h
  have g := rs.gd0 t
  exact ContS.wide h s H1 F g.rs g.nd Po.refl Kq.refl
theorem RS.store' {r : Env} {i : Nat} {d : D} {v : V} (h : RS K mg H W r s F) (q : RV K mg H W d v Fd) :
    ∃ F2 C, RS K mg H W (r.set i (some d)) (s.set i (some v)) F2 ∧ (F2 ++ C).Perm (Fd ++ F) := by
  by_cases hi : i < r.length
  · obtain ⟨F2, h2, B, p, b⟩ := RS.store h hi q
    obtain ⟨C, hc⟩ := b.exists_perm_append
    refine ⟨F2, C, h2, (p.append_right C).trans ?_⟩
    rw [List.append_assoc]
    exact hc.symm.append_left Fd
  · have hl := h.length
    rw [List.set_eq_of_length_le (by omega), List.set_eq_of_length_le (by omega)]
    exact ⟨F, Fd, h, List.perm_append_comm⟩
/-- a value is stored into a slot -/
theorem Rs.store {d : D} {v : V} {r : Env} (i : Nat) (h : Rs K mg H d v r s Fd F G) : ∃ F2, RS K mg H (F2 ++ G) (setS r i d) (s.set i (some v)) F2 ∧ (F2 ++ G).Nodup ∧ ∀ a ∈ F2, a ∈ Fd ++ F := by
  obtain ⟨F2, C, h2, p⟩ := RS.store' (i := i) h.rs h.rv
  have m : ∀ a, (a ∈ F2 ∨ a ∈ C) ↔ (a ∈ Fd ∨ a ∈ F) := fun a => by have := p.mem_iff (a := a); simpa using this
  have n : (F2 ++ C).Nodup := p.nodup_iff.mpr (by have := h.nd; grind [List.nodup_append])
  refine ⟨F2, h2.reW fun a z => .inl (by have := m a; grind), ?_, fun a z => by have := m a; grind⟩
  have := h.nd
  have : ∀ a ∈ F2, a ∉ G := fun a z => by have := m a; grind [List.nodup_append]
  grind [List.nodup_append]
theorem set_rd {i : Nat} (hk : kp i = false) (h : SS K mg Wx kp (ea >>= fun d => fun r => .ok .nx (setS r i d)) Z s H) : tAsg (SE K mg Wx ea) (gName i) Z s H := by
  refine (seqE h).imp fun v H1 h => ?_
  obtain ⟨d, r, Fd, F, G, rs, t, h⟩ := h
  obtain ⟨F2, r2, n2, m2⟩ := rs.store i
  exact h _ H1 F2 r2 n2 (Po.refl.sub m2) (Kq.set hk)
theorem ss_set {i : Nat} {x : Str} {pos' : Pos} (hN : X.N.Nodup) (hi : X.N[i]? = some x) (hx : Loc X.env.scope x) (hf : X.fn x = true ∨ X.env.scope.names.lookup x = some .local) (hk : kp i = false) (ha : PE X e (SE X.K X.mg Wx ea))
    (hs : swapsWith e (some (.Name x pos')) pos.line X.env = pure false) : PS X (.Assign [.Name x pos'] e pos) (SS X.K X.mg Wx kp (ea >>= fun d => fun r => .ok .nx (setS r i d))) :=
  PS.weak (ps_set hN hi hx ha hs hf) fun _ _ _ h => set_rd hk h
theorem test_rd {tc : M Bool} {k : Bool → M Fl} {T : Bool → Hp → Prop} (h : SS K mg Wx kp (tc >>= k) Z s H) (hk : ∀ b H1, SS K mg Wx kp (k b) Z s H1 → T b H1) : ST K mg Wx tc s H T := by
  obtain ⟨r, F, G, gd, h⟩ := h
  refine ⟨r, F, G, gd, ?_⟩
  rw [M.bind_def] at h
  cases e : tc r with
  | err => rw [e] at h; exact h
  | exc c r' => rw [e] at h; exact ContS.exc h
  | ok b r1 =>
    rw [e] at h
    exact fun H1 F1 rs nd p => hk b H1 ⟨r1, F1, G, ⟨rs, nd, fun a z => p.gr a (gd.tr a z)⟩, ContS.of h p Kq.refl⟩
theorem ss_ite {c : Expr} {tc : M Bool} (hc : PT X c (ST X.K X.mg Wx tc)) (ha : PSs X a (SS X.K X.mg Wx kp e1)) (hb : PSs X b (SS X.K X.mg Wx kp e2)) :
    PS X (.If c a b pos) (SS X.K X.mg Wx kp (tc >>= fun k => if k then e1 else e2)) := PS.weak (ps_if hc ha hb) fun Z s H h => test_rd h fun k H1 h => by
  cases k <;> exact h
/-- raise -/
theorem ss_raise {x m : Str} {c : String} {j : Nat} {p p2 pos2 : Pos} {C : Addr} {bmB : List Value} {B newId initId : String} (hc : X.calm = true) (tk : Takes X Wx) (E : ExcBaseFacts B newId initId bmB) (q : PySem.W.excIn X.K C bmB newId = true) (gC : X.mg x = some (.ref C)) (hx : x = Str.ofString c)
    (kC : PySem.W.keepIn X.K (.ref C) = true) (r : Raises X (.ref C)) (hg : Gl X x) (hdb : (x == ("__debug__" : Str)) = false) :
    PS X (.Raise (some (.Call (.Name x p) [.Constant (.str m) j p2] [] pos)) none pos2) (SS X.K X.mg Wx kp (fun r => .exc c r)) := by
  refine PS.weak (ps_raise hc tk (pmk_own E q gC kC r hg hdb)) fun Z s H h => ?_
  obtain ⟨r, F, G, gd, h⟩ := h
  exact h s H F gd.rs gd.nd Po.refl Kq.refl C (by show X.mg (Str.ofString c) = _; rw [← hx]; exact gC)
/-- while -/
theorem ss_whl {c : Expr} {tc : M Bool} (hp : PassesOwn (model X.prog X.w) X.A X.env X.xe) (hc : PT X c (ST X.K X.mg Wx tc)) (hb : PSs X b (SS X.K X.mg Wx kp e1)) :
    PS X (.While c b [] pos) (SS X.K X.mg Wx kp (whileM tc e1)) := PS.weak (ps_while hp hc hb) fun Z s H h => by
  obtain ⟨r, F, G, gd, h⟩ := h
  by_cases hne : (whileM tc e1 r).isErr = false
  case neg =>
    have : whileM tc e1 r = .err := by cases e : whileM tc e1 r <;> first | rfl | (rw [e] at hne; exact absurd rfl hne)
    rw [this] at h
    exact h.elim
  obtain ⟨n, en, hn⟩ := whileM_some tc e1 r hne
  rw [en] at h
  refine ⟨fun m s H => ∃ r F G, Gd X.K X.mg H r s F G ∧ ContS X.K X.mg Wx kp Z s H F G (whileN tc e1 m r), ⟨n, r, F, G, gd, h⟩, ?_⟩
  rintro m s H ⟨r, F, G, gd, h⟩
  cases m with
  | zero => exact h.elim
  | succ m =>
    rw [whileN] at h
    refine ⟨r, F, G, gd, ?_⟩
    cases ec : tc r with
    | err => rw [ec] at h; exact h
    | exc c r' => rw [ec] at h; exact ContS.exc h
    | ok k r1 =>
      rw [ec] at h
      intro H1 F1 rs nd p
      have gd1 : Gd X.K X.mg H1 r1 s F1 G := ⟨rs, nd, fun a z => p.gr a (gd.tr a z)⟩
      cases k with
      | false => exact h s H1 F1 rs nd p Kq.refl
      | true =>
        simp only at h
        refine ⟨fun s' H' => ∃ r F G, Gd X.K X.mg H' r s' F G ∧ ContS X.K X.mg Wx kp Z s' H' F G (whileN tc e1 m r), fun s' H' w => ⟨m, Nat.lt_succ_self m, w⟩, r1, F1, G, gd1, ?_⟩
        cases eb : e1 r1 with
        | err => rw [eb] at h; exact h
        | exc c r' => rw [eb] at h; exact ContS.of h p Kq.refl
        | ok fl r2 =>
          rw [eb] at h
          cases fl with
          | rt d => exact ContS.of h p Kq.refl
          | nx => exact fun s' H' F' rs' nd' p' q' => ⟨r2, F', G, ⟨rs', nd', fun a z => p'.gr a (gd1.tr a z)⟩, ContS.of h (p.trans p') q'⟩
end
end TT
set_option Elab.async false
set_option linter.all false
set_option maxRecDepth 100000
/-! TO: what is walked -/
namespace TT
open PySem PySem.Spec PySem.StrLaws L2 PyProof.Rows
section
variable {X : Cx} {tg e : Expr} {te : TE} {ta : TA}
/-- a list, a tuple or a text -/
def iAny (K : PySem.W.Frag) (te : TE) : TI := fun s H R => te s H fun x H1 =>
  (∃ a xs, x = .ref a ∧ SqL K H1 a xs ∧ R (Itl K a) H1) ∨ (∃ a xs, x = .ref a ∧ SqT K H1 a xs ∧ R (Itt K a) H1) ∨ ∃ z, x = .str z ∧ R (Its z) H1
theorem pi_any (he : PE X e te) : PI X tg e (iAny X.K te) := ⟨fun pins s σ H R I h => by
  refine thn (he.run pins s σ H _ I h) fun v s1 ⟨x, H1, I1, r1, q1⟩ => ?_
  rcases q1 with ⟨a, xs, rfl, hq, q⟩ | ⟨a, xs, rfl, hq, q⟩ | ⟨z, rfl, q⟩
  · cases r1
    obtain ⟨its, rv, p, _⟩ := I1.list hq
    exact wpAny_pyIter_list p.isList (pi_one (tk := s1.toks) I1 _ (turn_list a _) ⟨_, Heap.get?_push_size _ rfl, rfl, rfl⟩ q)
  · cases r1
    obtain ⟨its, rv, p, _⟩ := I1.tuple hq
    exact wpAny_pyIter_tuple (items := its.toArray) p (pi_one (tk := s1.toks) I1 _ (turn_tuple a _) ⟨_, Heap.get?_push_size _ rfl, rfl, rfl⟩ q)
  · obtain ⟨t, rfl⟩ := r1
    cases ha : z.cps.all (· < 128)
    · exact wpAny_pyIter_wide ha (pi_one (tk := s1.toks) I1 _ (turn_str _ z t "str_iterator" (.inr rfl)) ⟨_, Heap.get?_push_size _ rfl, rfl, rfl⟩ q)
    · exact wpAny_pyIter_ascii ha (pi_one (tk := s1.toks) I1 _ (turn_str _ z t "str_ascii_iterator" (.inl rfl)) ⟨_, Heap.get?_push_size _ rfl, rfl, rfl⟩ q)⟩

/-! ### a tuple, counted -/
set_option maxHeartbeats 1000000 in
theorem meets_enum_tup (l : Addr) (items : Array Value) :
    Meets (Builtin.«enumerate.__new__» ⟨[.type "enumerate", .ref l], []⟩) (fun _ R s => s.heap.IsTuple l items ∧
      R (.ok (.ret (.ref (s.heap.push { cls := .type "tuple_iterator", data := .fields #[.ref l, .int 0 0] }).objs.size)))
        { s with heap := (s.heap.push { cls := .type "tuple_iterator", data := .fields #[.ref l, .int 0 0] }).push { cls := .type "enumerate", data := .fields #[.none, .bool false, .ref s.heap.objs.size, rawInt 0, .none, .none] } }) :=
  .of_wp fun prog w A R s ⟨hl, h⟩ => by
    obtain ⟨hp, g, d, tk, os⟩ := s
    have hsub := sub_enumerate
    have hl' : hp.IsTuple l items := hl
    obtain ⟨ob, ho, hc, nn, hd⟩ := hl'
    wp_walk
    refine wpAny_stack_any fun st => wpAny_pure ?_
    split
    · rename_i c _ _ _ _ _
      cases (c == Value.type "enumerate")
      · wp_walk using AutoSeq1.wpAny_loadPart' ho, wpAny_pyIter_tuple hl
        exact ⟨_, rfl, h⟩
      · wp_walk using AutoSeq1.wpAny_loadPart' ho, wpAny_pyIter_tuple hl
        exact ⟨_, rfl, h⟩
    · wp_walk using AutoSeq1.wpAny_loadPart' ho, wpAny_pyIter_tuple hl
      exact ⟨_, rfl, h⟩

theorem call_enum_tup {w : World} {P : Program} {A : Around} {E : Value → Shared → Prop} {s : Shared} {l : Addr} {items : Array Value} {Q : Value → Shared → Prop} (hl : s.heap.IsTuple l items)
    (h : ∀ h', IsEnum h' (s.heap.objs.size + 1) s.heap.objs.size 0 .none → h'.IsTupleIter s.heap.objs.size l 0 → (∀ b o, s.heap.get? b = some o → h'.get? b = some o) → Q (.ref (s.heap.objs.size + 1)) { s with heap := h' }) :
    wpAny (model P w) A (call (.type "enumerate") [.ref l]) Q E s := by
  refine callType_new F.called_enumerate (by decide) (F.typeCall_enumerate_1 _) (F.newCall_enumerate_1 _) (fun obj => F.args_object_init_2 obj _) F.entry_enumerate_new (meets_enum_tup l items) ⟨hl, ?_⟩
  have hz := Heap.size_push s.heap { cls := .type "tuple_iterator", data := .fields #[.ref l, .int 0 0] }
  have he := Heap.get?_push_size (s.heap.push { cls := .type "tuple_iterator", data := .fields #[.ref l, .int 0 0] }) (o := { cls := .type "enumerate", data := .fields #[.none, .bool false, .ref s.heap.objs.size, rawInt 0, .none, .none] }) rfl
  rw [hz] at he
  show _ ∧ _
  rw [hz]
  exact ⟨⟨_, he, rfl⟩, h _ he ⟨_, Heap.get?_push_of_some _ (Heap.get?_push_size _ rfl), rfl, rfl⟩ fun b o y => Heap.get?_push_of_some _ (Heap.get?_push_of_some _ y)⟩
/-- the tuple at a, each item in a new pair -/
def IteT (K : PySem.W.Frag) (a : Addr) : It :=
  ⟨fun i H => ∃ (xs : List V) (x : V), SqT K H a xs ∧ xs[i]? = some x, fun i H v H' => ∃ T x, v = .ref T ∧ H T = none ∧ H' = upd H T (.tup [.int (i : Nat), x]) ∧ ∀ xs, SqT K H a xs → xs[i]? = some x, fun i H => ∃ xs : List V, SqT K H a xs ∧ xs.length ≤ i⟩
theorem turn_enumT {P : Program} {w : World} {K : PySem.W.Frag} {elts : List Expr} {kk : Nat} {tpos : Pos} (a e it : Addr) :
    Turn P w K (.Tuple elts kk tpos) (IteT K a) [e, it] e (fun i h => (∃ old, IsEnum h e it ((i : Nat) : Int) old) ∧ h.IsTupleIter it a i ∧ e ≠ it) := by
  have two : ∀ {b : Addr}, b ∈ [e, it] → b = e ∨ b = it := fun hb => by simpa using hb
  constructor
  case mem => exact List.mem_cons_self
  case obj =>
    rintro i h ⟨⟨old, he⟩, ⟨o, ho, hc, hd⟩, _⟩ b hb
    rcases two hb with rfl | rfl
    · exact ⟨_, he, fun v q => nomatch q⟩
    · exact ⟨o, ho, fun v q => by rw [hd] at q; cases q⟩
  case keep =>
    rintro i h h' ⟨⟨old, he⟩, hi, hne⟩ k
    exact ⟨⟨old, k e List.mem_cons_self _ he⟩, hi.at fun o q => k it (by simp) o q, hne⟩
  case self =>
    rintro A i s Q E ⟨⟨old, he⟩, _⟩ h
    exact wpAny_pyIter_enum he h
  case item =>
    rintro X rfl rfl rfl hc i pins s σ H E I hf ⟨⟨old, he⟩, hit, hne⟩ ⟨xs, x, hq, hx⟩
    obtain ⟨its, rv, p, hz⟩ := I.tuple hq
    obtain ⟨u, hu, ru⟩ := rv.get hx
    have p' : s.heap.IsTuple a its.toArray := p
    have hel : e < s.heap.objs.size := Heap.lt_size he
    have hil : it < s.heap.objs.size := by obtain ⟨_, q, _⟩ := hit; exact Heap.lt_size q
    have hae : a ≠ it := by
      rintro rfl
      obtain ⟨o1, q1, c1, _⟩ := hit
      obtain ⟨o2, q2, c2, _⟩ := p'
      rw [q1] at q2; cases q2
      rw [c1] at c2
      injection c2 with c3
      exact absurd c3 (by decide)
    have hea : e ∉ [it, a] := by
      intro z
      rcases List.mem_cons.mp z with z | z
      · exact hne z
      · obtain ⟨o2, q2, c2, _⟩ := p'
        rw [List.mem_singleton.mp z] at he
        unfold IsEnum at he
        rw [he] at q2; cases q2
        injection c2 with c3
        exact absurd c3 (by decide)
    have hlt : i < its.toArray.size := by
      rw [List.size_toArray]; exact (List.getElem?_eq_some_iff.mp hu).1
    refine wpAny_pyNext_enum_itemD (Draws.tuple (A := X.A.in1) (I.ok.hd hc) it a hae its.toArray) he ⟨hit, p'⟩ hlt hne hea fun y h' tk hP ho hs' hT hsz hk => ?_
    have hy : y = u := by
      have e1 : its.toArray[i]? = some y := hP
      have e2 : its.toArray[i]? = some u := by simpa using hu
      rw [e1] at e2; exact Option.some.inj e2
    subst hy
    refine ⟨_, rfl, wpAny_letOwnedTupleGo_enum (s := { s with heap := h', toks := tk + 1 }) ho fun h2 he2 sb => ?_⟩
    have hT2 : h2.get? s.heap.objs.size = some { cls := .type "tuple", data := .seq #[.int i tk, y] } := (sb.2 _ (Nat.ne_of_gt hel)).trans hT
    have new : ObjOk X.prog X.w (upd H s.heap.objs.size (.tup [.int (i : Nat), x])) h2 s.heap.objs.size (.tup [.int (i : Nat), x]) := ⟨by show 2 ≤ sizeLine; decide, [.int i tk, y], .cons ⟨_, rfl⟩ (.cons ru .nil), ⟨_, hT2, rfl, _, rfl⟩⟩
    have J : Inv X pins σ (upd H s.heap.objs.size (.tup [.int (i : Nat), x])) { s with heap := h2, toks := tk + 1 } := by
      refine I.turnedNew (ch := [e, it]) (fun b ob hb q => ?_) hf (Nat.le_refl _) new
      have n1 : b ≠ e := fun z => hb (by simp [z])
      have n2 : b ≠ it := fun z => hb (by simp [z])
      exact (sb.2 b n1).trans (hk b ob n1 n2 q)
    refine ⟨.ref s.heap.objs.size, _, J, rfl, ⟨_, x, rfl, I.hok.fresh (Nat.le_refl _), rfl, fun ys hy => by rw [I.tuple_inj hy hq]; exact hx⟩, ⟨⟨y, ?_⟩, hs'.1.at fun o q => (sb.2 it (Ne.symm hne)).trans q, hne⟩, fun b hb => ?_⟩
    · rw [show ((i + 1 : Nat) : Int) = (i : Int) + 1 by omega]; exact he2
    · have hb' : b < s.heap.objs.size := by rcases two hb with rfl | rfl <;> assumption
      rw [upd_ne (Nat.ne_of_lt hb')]
      exact (hf b hb).1
  case done =>
    rintro X rfl rfl rfl hc i pins s σ H E I hf ⟨⟨old, he⟩, hit, hne⟩ ⟨xs, hq, hx⟩
    obtain ⟨its, rv, p, hz⟩ := I.tuple hq
    have p' : s.heap.IsTuple a its.toArray := p
    obtain ⟨f0, f1, f2, f3, f4, f5⟩ := hf it (by simp)
    have hn : its.toArray[i]? = none := by
      have := rv.length
      simp; omega
    have hT : s.TypeIs (.ref e) "enumerate" := ⟨_, he, rfl⟩
    unfold pyNext
    refine wpAny_bind (wpAny_attempt (wpAny_callSpecial?_slot (name := Str.ofString "__next__") hT F.slot_enumerate_next (wpAny_call_entry F.slot_enumerate_next hT F.entry_enumerate_next ?_ (F.args_enumerate_next_1 _))))
    show wpAny _ _ (field (.ref e) 2 >>= _) _ _ _
    refine wpAny_bind (wpAny_field he rfl (x := .ref it) rfl (wpAny_bind (wpAny_nextOf_tuple_end (I.ok.hd hc) hit p' hn fun h' x' he' hx' => ?_)))
    obtain ⟨o, ho, hc'⟩ := hx'
    exact wpAny_bind (wpAny_isInstance (T := "StopIteration") (b := true) ⟨o, ho, hc'⟩ isSubtype_stop (wpAny_pure ⟨rfl, I.turned (t' := s.toks) (fun b o hb q => he' b o hb q) f0 f1 f3 f4 f5⟩))
/-- enumerate of a list or a tuple -/
def iEnumA (K : PySem.W.Frag) (ta : TA) : TI := fun s H R => ta s H fun vs H1 => ∃ a xs, vs = [.ref a] ∧ ((SqL K H1 a xs ∧ R (Ite K a) H1) ∨ (SqT K H1 a xs ∧ R (IteT K a) H1))
theorem pi_enumA {p pos tpos : Pos} {elts : List Expr} {kk : Nat} (hg : Gl X "enumerate") (hm : X.mg "enumerate" = none) (ha : PA X [e] ta) (hs : starEach [e] X.env = [(false, eval e X.env)]) :
    PI X (.Tuple elts kk tpos) (.Call (.Name "enumerate" p) [e] [] pos) (iEnumA X.K ta) := ⟨fun pins s σ H R I h => by
  refine Call_ (ld_blt I hg hm boot_enumerate (callWith_type1 (thn (ha.run pos pins s σ H _ I h) fun us s1 ⟨vs, H1, I1, r1, q1⟩ => ?_) hs rfl))
  obtain ⟨a, xs, rfl, q1⟩ := q1
  obtain ⟨u, rfl, ru⟩ := r1.one
  cases ru
  have fp : ∀ b ∈ [s1.heap.objs.size + 1, s1.heap.objs.size], FpOk X pins H1 b := fun b hb => by
    have hle : s1.heap.objs.size ≤ b := by simp at hb; omega
    exact I1.fpOk hle (I1.hok.fresh hle)
  rcases q1 with ⟨hq, q⟩ | ⟨hq, q⟩
  · obtain ⟨its, rv, p', _⟩ := I1.list hq
    exact call_enumerate_list p'.isList fun h' he hit _ hk => wpAny_pyIter_enum he
      ⟨_, _, _, _, H1, rfl, I1.kept (t' := s1.toks) hk, turn_enum a (s1.heap.objs.size + 1) s1.heap.objs.size, ⟨⟨.none, he⟩, hit, Nat.succ_ne_self _⟩, fp, q⟩
  · obtain ⟨its, rv, p', _⟩ := I1.tuple hq
    exact call_enum_tup (items := its.toArray) p' fun h' he hit hk => wpAny_pyIter_enum he
      ⟨_, _, _, _, H1, rfl, I1.kept (t' := s1.toks) hk, turn_enumT a (s1.heap.objs.size + 1) s1.heap.objs.size, ⟨⟨.none, he⟩, hit, Nat.succ_ne_self _⟩, fp, q⟩⟩
end
end TT
set_option Elab.async false
set_option linter.all false
/-! TP: walks by their items; for -/
namespace TT
open PySem PySem.Spec PySem.StrLaws L2
section
variable (K : PySem.W.Frag) (mg : Str → Option Value)
/-- what J yields is the data xs, while Gq stands -/
structure WD (J : It) (xs : List D) (Gq : Hp → List Addr → Prop) : Prop where
  stab : ∀ H1 H2 W1 W2 M, Gq H1 W1 → Kp H1 H2 M → (∀ a ∈ M, a ∈ W1) → (∀ a ∈ W2, a ∈ W1 ∨ H1 a = none) → Gq H2 W2
  goes : ∀ i H W, i < xs.length → Gq H W → J.go i H
  stops : ∀ H W, Gq H W → J.stop xs.length H
  yields : ∀ i H W x H', Gq H W → J.yld i H x H' → ∀ d, xs[i]? = some d → RV K mg H' W d x [] ∧ Po H H' [] []
def ContI (Wx : WX) (R : It → Hp → Prop) (s : L2.St) (H : Hp) (F G : List Addr) : Res (List D) → Prop
  | .ok xs r => ∀ J Gq H' F', WD K mg J xs Gq → Gq H' (F' ++ G) → RS K mg H' (F' ++ G) r s F' → (F' ++ G).Nodup → Po H H' F F' → R J H'
  | .exc c r => ExcE K mg Wx s H F G c r
  | .err => False
def SI (Wx : WX) (ev : M (List D)) : TI := fun s H R => ∃ r F G, Gd K mg H r s F G ∧ ContI K mg Wx R s H F G (ev r)
end
section
variable {X : Cx} {Wx : WX} {kp : Nat → Bool} {pos p : Pos} {tg e : Expr} {ea eb : M D}
variable {K : PySem.W.Frag} {mg : Str → Option Value} {H H' H2 : Hp} {W W' F F' F1 F2 G A Fd : List Addr} {s s' : L2.St} {R : It → Hp → Prop}
theorem wd_tup {a : Addr} {xs : List D} : WD K mg (Itt K a) xs (fun H W => RV K mg H W (.tup xs) (.ref a) []) where
  stab := fun H1 H2 W1 W2 M h k hM hW => RV.stab k hM hW _ _ _ h (fun _ z => nomatch z)
  goes := fun i H W hi h => by
    obtain ⟨a, vs, e, h, n, l⟩ := h
    cases e
    have := l.length
    exact ⟨vs, vs[i], h, by simp⟩
  stops := fun H W h => by
    obtain ⟨a, vs, e, h, n, l⟩ := h
    cases e
    exact ⟨vs, h, Nat.le_of_eq l.length⟩
  yields := fun i H W x H' h y d hd => by
    obtain ⟨a, vs, e, h, n, l⟩ := h
    cases e
    obtain ⟨rfl, y⟩ := y
    obtain ⟨v, e, r⟩ := l.get hd
    have := y vs h
    rw [e] at this; cases this
    exact ⟨r, Po.refl⟩
theorem wd_lst {a : Addr} {xs : List D} : WD K mg (Itl K a) xs (fun H W => RV K mg H W (.lst false xs) (.ref a) []) where
  stab := fun H1 H2 W1 W2 M h k hM hW => RV.stab k hM hW _ _ _ h (fun _ z => nomatch z)
  goes := fun i H W hi h => by
    obtain ⟨a, vs, e, h, hw, n, l, _⟩ := h
    cases e
    have := l.length
    exact ⟨vs, vs[i], .inl (.inl h), by simp⟩
  stops := fun H W h => by
    obtain ⟨a, vs, e, h, hw, n, l, _⟩ := h
    cases e
    exact ⟨vs, .inl (.inl h), Nat.le_of_eq l.length⟩
  yields := fun i H W x H' h y d hd => by
    obtain ⟨a, vs, e, h, hw, n, l, _⟩ := h
    cases e
    obtain ⟨rfl, y⟩ := y
    obtain ⟨v, e, r⟩ := l.get hd
    have := y vs (.inl (.inl h))
    rw [e] at this; cases this
    exact ⟨r, Po.refl⟩
theorem wd_str {z : String} : WD K mg (Its (Str.ofString z)) (z.toList.map fun c => .str (String.ofList [c])) (fun _ _ => True) where
  stab := fun _ _ _ _ _ _ _ _ _ => trivial
  goes := fun i H W hi _ => by
    show i < (Str.ofString z).cps.size
    rw [S_eq]; simpa using hi
  stops := fun H W _ => by
    show (Str.ofString z).cps.size ≤ _
    rw [S_eq]; simp
  yields := fun i H W x H' _ y d hd => by
    obtain ⟨rfl, c, hc, rfl⟩ := y
    rw [S_eq] at hc
    simp only [List.getElem?_toArray, List.getElem?_map, Option.map_eq_some_iff] at hc hd
    obtain ⟨u, h1, rfl⟩ := hc
    obtain ⟨u', h2, rfl⟩ := hd
    rw [h1] at h2; cases h2
    refine ⟨⟨?_, ?_, rfl⟩, Po.refl⟩
    · rw [S_ofList]; rfl
    · rw [← String.length_toList, String.toList_ofList]; show 1 ≤ most; decide
theorem wd_range {lo : Int} {n : Nat} : WD K mg (Itr lo n) (rngItems lo n) (fun _ _ => True) where
  stab := fun _ _ _ _ _ _ _ _ _ => trivial
  goes := fun i H W hi _ => by
    show i < n
    simpa [rngItems] using hi
  stops := fun H W _ => by
    show n ≤ _
    simp [rngItems]
  yields := fun i H W x H' _ y d hd => by
    obtain ⟨rfl, rfl⟩ := y
    simp only [rngItems, List.getElem?_map, Option.map_eq_some_iff] at hd
    obtain ⟨j, h1, rfl⟩ := hd
    obtain ⟨_, rfl⟩ := List.getElem?_eq_some_iff.mp h1
    exact ⟨⟨by simp, rfl⟩, Po.refl⟩
/-- a new pair of what stands -/
theorem RV.pair {T : Addr} {d1 d2 : D} {v1 v2 : V} (hT : H T = none) (h1 : RV K mg H W d1 v1 []) (h2 : RV K mg H W d2 v2 []) :
    RV K mg (upd H T (.tup [v1, v2])) W (.tup [d1, d2]) (.ref T) [] ∧ Po H (upd H T (.tup [v1, v2])) [] [] := by
  have po : Po H (upd H T (.tup [v1, v2])) [] [] := (Po.new (F := []) hT).sub (fun _ z => nomatch z)
  have st : ∀ {d v}, RV K mg H W d v [] → RV K mg (upd H T (.tup [v1, v2])) W d v [] := fun h => RV.stab po.kp (fun _ z => nomatch z) (fun a z => .inl z) _ _ _ h (fun _ z => nomatch z)
  exact ⟨⟨T, [v1, v2], rfl, .inl (.inl upd_same), by show 2 ≤ most; decide, ⟨v1, [v2], [], [], rfl, st h1, ⟨v2, [], [], [], rfl, st h2, ⟨rfl, rfl⟩, rfl⟩, rfl⟩⟩, po⟩
theorem wd_enumT {a : Addr} {xs : List D} : WD K mg (IteT K a) (enumItems xs) (fun H W => RV K mg H W (.tup xs) (.ref a) []) where
  stab := fun H1 H2 W1 W2 M h k hM hW => RV.stab k hM hW _ _ _ h (fun _ z => nomatch z)
  goes := fun i H W hi h => by
    obtain ⟨a, vs, e, h, n, l⟩ := h
    cases e
    have := l.length
    have hi' : i < vs.length := by simpa [enumItems, this] using hi
    exact ⟨vs, vs[i], h, by simp [hi']⟩
  stops := fun H W h => by
    obtain ⟨a, vs, e, h, n, l⟩ := h
    cases e
    exact ⟨vs, h, by simp [enumItems, l.length]⟩
  yields := fun i H W x H' h y d hd => by
    obtain ⟨a, vs, e, h, n, l⟩ := h
    cases e
    obtain ⟨T, u, rfl, hT, rfl, y⟩ := y
    simp only [enumItems, List.getElem?_mapIdx, Option.map_eq_some_iff] at hd
    obtain ⟨d, hd, rfl⟩ := hd
    obtain ⟨v, e, r⟩ := l.get hd
    have := y vs h
    rw [e] at this; cases this
    exact RV.pair hT ⟨rfl, rfl⟩ r
theorem wd_enumL {a : Addr} {xs : List D} : WD K mg (Ite K a) (enumItems xs) (fun H W => RV K mg H W (.lst false xs) (.ref a) []) where
  stab := fun H1 H2 W1 W2 M h k hM hW => RV.stab k hM hW _ _ _ h (fun _ z => nomatch z)
  goes := fun i H W hi h => by
    obtain ⟨a, vs, e, h, hw, n, l, _⟩ := h
    cases e
    have := l.length
    have hi' : i < vs.length := by simpa [enumItems, this] using hi
    exact ⟨vs, vs[i], .inl (.inl h), by simp [hi']⟩
  stops := fun H W h => by
    obtain ⟨a, vs, e, h, hw, n, l, _⟩ := h
    cases e
    exact ⟨vs, .inl (.inl h), by simp [enumItems, l.length]⟩
  yields := fun i H W x H' h y d hd => by
    obtain ⟨a, vs, e, h, hw, n, l, _⟩ := h
    cases e
    obtain ⟨T, u, rfl, hT, rfl, y⟩ := y
    simp only [enumItems, List.getElem?_mapIdx, Option.map_eq_some_iff] at hd
    obtain ⟨d, hd, rfl⟩ := hd
    obtain ⟨v, e, r⟩ := l.get hd
    have := y vs (.inl (.inl h))
    rw [e] at this; cases this
    exact RV.pair hT ⟨rfl, rfl⟩ r
/-- an expression, then its walk -/
theorem seqI {f : D → Option (List D)} (h : SI K mg Wx (ea >>= fun x => M.lift (f x)) s H R) :
    SE K mg Wx ea s H fun v H1 => ∃ d r1 Fd F1 G xs, Rs K mg H1 d v r1 s Fd F1 G ∧ (∀ a ∈ G, H1 a ≠ none) ∧ f d = some xs ∧ ContI K mg Wx R s H1 (Fd ++ F1) G (.ok xs r1) := by
  obtain ⟨r, F, G, gd, h⟩ := h
  refine ⟨r, F, G, gd, ?_⟩
  rw [M.bind_def] at h
  cases e : ea r with
  | err => rw [e] at h; exact h
  | exc c r' => rw [e] at h; exact h
  | ok d r' =>
    rw [e] at h
    intro v H' Fd F' rs p
    simp only at h
    cases ef : f d with
    | none => rw [ef] at h; exact h.elim
    | some xs =>
      rw [ef] at h
      exact ⟨d, r', Fd, F', G, xs, rs, fun a z => p.gr a (gd.tr a z), ef, fun J Gq H2 F2 w g rs2 nd q => h J Gq H2 F2 w g rs2 nd (p.trans q)⟩
/-- a list of either kind, from now on only read -/
theorem Rs.lstF {o : Bool} {xs : List D} {v : V} {r : Env} (h : Rs K mg H (.lst o xs) v r s Fd F G) (hp : purL xs = true) : ∃ a, v = .ref a ∧ RV K mg H (F ++ G) (.lst false xs) (.ref a) [] := by
  have nd := h.nd
  have q : RV K mg H (F ++ G) (D.frz (.lst o xs)) v [] := RV.frz (fun a z => by grind) _ _ _ h.rv (by rw [D.frz, frzL_pur _ hp, D.pur, hp]; rfl) (fun a z => by grind [List.nodup_append])
  rw [D.frz, frzL_pur _ hp] at q
  have q0 := q
  obtain ⟨a, vs, rfl, _⟩ := q
  exact ⟨a, rfl, q0⟩
theorem Rs.tupF {xs : List D} {v : V} {r : Env} (h : Rs K mg H (.tup xs) v r s Fd F G) (hp : purL xs = true) : ∃ a, v = .ref a ∧ RV K mg H (F ++ G) (.tup xs) (.ref a) [] := by
  have e := RV.pure_nil _ _ _ (show D.pur (.tup xs) = true by rw [D.pur]; exact hp) h.rv
  subst e
  obtain ⟨a, vs, rfl, q⟩ := id h.rv
  exact ⟨a, rfl, by simpa using h.rv⟩
theorem Rs.base {d : D} {v : V} {r : Env} (h : Rs K mg H d v r s Fd F G) : RS K mg H (F ++ G) r s F ∧ (F ++ G).Nodup := ⟨h.rs.reW fun a z => .inl (by grind), by have := h.nd; grind [List.nodup_append]⟩
theorem Po.drop : Po H H (Fd ++ F) F := (Po.refl (F := Fd ++ F)).sub fun a z => List.mem_append_right _ z
theorem i_seq (ha : PE X e (SE X.K X.mg Wx ea)) : PI X tg e (SI X.K X.mg Wx (ea >>= fun x => M.lift (seqItems x))) := ⟨fun pins s σ H R I h => (pi_any ha).run pins s σ H R I (by
  refine (seqI h).imp fun v H1 h => ?_
  obtain ⟨d, r, Fd, F, G, xs, rs, t, f, h⟩ := h
  obtain ⟨rs0, nd0⟩ := rs.base
  unfold seqItems at f
  split at f
  · split at f <;> cases f
    rename_i hp
    obtain ⟨a, rfl, q⟩ := rs.tupF hp
    obtain ⟨_, vs, e, hs, _⟩ := id q
    cases e
    exact .inr (.inl ⟨a, vs, rfl, hs, h _ _ H1 F wd_tup q rs0 nd0 Po.drop⟩)
  · split at f <;> cases f
    rename_i hp
    obtain ⟨a, rfl, q⟩ := rs.lstF hp
    obtain ⟨_, vs, e, hs, _⟩ := id q
    cases e
    exact .inl ⟨a, vs, rfl, .inl (.inl hs), h _ _ H1 F wd_lst q rs0 nd0 Po.drop⟩
  · cases f
    obtain ⟨rfl, _, _⟩ := rs.rv
    exact .inr (.inr ⟨_, rfl, h _ _ H1 F wd_str trivial rs0 nd0 Po.drop⟩)
  · cases f)⟩

theorem SE.one {Q : List V → Hp → Prop} (h : SE K mg Wx ea s H fun v H1 => Q [v] H1) : tCons (SE K mg Wx ea) tNil s H Q := h
theorem i_enum {q : Pos} {elts : List Expr} {kk : Nat} {tpos : Pos} (hg : Gl X "enumerate") (hm : X.mg "enumerate" = none) (ha : PE X e (SE X.K X.mg Wx ea)) (hs : starEach [e] X.env = [(false, eval e X.env)]) :
    PI X (.Tuple elts kk tpos) (.Call (.Name "enumerate" p) [e] [] pos) (SI X.K X.mg Wx (ea >>= fun x => M.lift ((enumSrc x).map enumItems))) := ⟨fun pins st s H R I h => (pi_enumA hg hm (pa_cons ha pa_nil hs) hs).run pins st s H R I (by
  refine (seqI h).imp fun v H1 h => ?_
  obtain ⟨d, r, Fd, F, G, xs, rs, t, f, h⟩ := h
  obtain ⟨rs0, nd0⟩ := rs.base
  unfold enumSrc at f
  split at f
  · split at f <;> cases f
    rename_i hp
    obtain ⟨a, rfl, q⟩ := rs.tupF hp
    obtain ⟨_, vs, e, hs, _⟩ := id q
    cases e
    exact ⟨a, vs, rfl, .inr ⟨hs, h _ _ H1 F wd_enumT q rs0 nd0 Po.drop⟩⟩
  · split at f <;> cases f
    rename_i hp
    obtain ⟨a, rfl, q⟩ := rs.lstF hp
    obtain ⟨_, vs, e, hs, _⟩ := id q
    cases e
    exact ⟨a, vs, rfl, .inl ⟨.inl (.inl hs), h _ _ H1 F wd_enumL q rs0 nd0 Po.drop⟩⟩
  · cases f)⟩
theorem i_rng1 (hg : Gl X "range") (hm : X.mg "range" = none) (ha : PE X e (SE X.K X.mg Wx ea)) (hs : starEach [e] X.env = [(false, eval e X.env)]) :
    PI X tg (.Call (.Name "range" p) [e] [] pos) (SI X.K X.mg Wx (ea >>= fun x => M.lift (rngF1 x))) := ⟨fun pins st s H R I h => (pi_range1 hg hm (pa_cons ha pa_nil hs) hs).run pins st s H R I (by
  refine (seqI h).imp fun v H1 h => ?_
  obtain ⟨d, r, Fd, F, G, xs, rs, t, f, h⟩ := h
  obtain ⟨rs0, nd0⟩ := rs.base
  unfold rngF1 at f
  split at f
  · split at f <;> cases f
    rename_i hp
    simp only [Bool.and_eq_true, decide_eq_true_eq] at hp
    obtain ⟨rfl, _⟩ := rs.rv
    exact ⟨_, rfl, by omega, by omega, h _ _ H1 F wd_range trivial rs0 nd0 Po.drop⟩
  · cases f)⟩

/-! ### targets -/
/-- what is stored where a loop's item goes -/
def GT (K : PySem.W.Frag) (mg : Str → Option Value) (kp : Nat → Bool) (ev : D → M Unit) : TG := fun v s H Q => ∃ d r F G, Gd K mg H r s F G ∧ RV K mg H (F ++ G) d v [] ∧ ∃ r1, ev d r = .ok () r1 ∧
  ∀ s' H' F', RS K mg H' (F' ++ G) r1 s' F' → (F' ++ G).Nodup → Po H H' F F' → Kq kp s s' → Q s' H'
theorem PG.weak {t t' : TG} (h : PG X tg t) (i : ∀ v s H Q, t' v s H Q → t v s H Q) : PG X tg t' := ⟨fun pins st s H v u Q I r q => h.run pins st s H v u Q I r (i _ _ _ _ q)⟩
theorem Gd.set {r : Env} {i : Nat} {d : D} {v : V} (gd : Gd K mg H r s F G) (q : RV K mg H (F ++ G) d v []) : ∃ F2, RS K mg H (F2 ++ G) (setS r i d) (s.set i (some v)) F2 ∧ (F2 ++ G).Nodup ∧ Po H H F F2 := by
  obtain ⟨F2, r2, n2, m2⟩ := Rs.store (K := K) (mg := mg) (Fd := []) (G := G) i ⟨by simpa using q, by simpa using gd.rs, by simpa using gd.nd⟩
  exact ⟨F2, r2, n2, Po.refl.sub m2⟩
theorem g_one {i : Nat} {x : Str} (hN : X.N.Nodup) (hi : X.N[i]? = some x) (hx : Loc X.env.scope x) (hf : X.fn x = true ∨ X.env.scope.names.lookup x = some .local) (hk : kp i = false) : PG X (.Name x pos) (GT X.K X.mg kp (tgtM [i] true)) :=
  PG.weak (pg_name hN hi hx hf) fun v s H Q ⟨d, r, F, G, gd, q, r1, e, h⟩ => by
    cases e
    obtain ⟨F2, r2, n2, p2⟩ := gd.set (i := i) q
    exact h _ H F2 r2 n2 p2 (Kq.set hk)
/-- several values into slots, from the left -/
def GTs (K : PySem.W.Frag) (mg : Str → Option Value) (kp : Nat → Bool) (is : List Nat) : TGs := fun vs s H Q => ∃ ds r F G, Gd K mg H r s F G ∧ RL K mg H (F ++ G) ds vs [] ∧ ∃ r1, bindT is ds r = some r1 ∧
  ∀ s' H' F', RS K mg H' (F' ++ G) r1 s' F' → (F' ++ G).Nodup → Po H H' F F' → Kq kp s s' → Q s' H'
theorem PGs.weak {tgs : List Expr} {t t' : TGs} (h : PGs X tgs t) (i : ∀ v s H Q, t' v s H Q → t v s H Q) : PGs X tgs t' := ⟨fun pins st s H v u Q I r q => h.run pins st s H v u Q I r (i _ _ _ _ q)⟩
theorem gs_nil : PGs X [] (GTs X.K X.mg kp []) := PGs.weak pgs_nil fun vs s H Q ⟨ds, r, F, G, gd, q, r1, e, h⟩ => by
  cases ds with
  | cons _ _ => cases e
  | nil =>
    cases e
    exact ⟨q.1, h s H F gd.rs gd.nd Po.refl Kq.refl⟩
theorem gs_cons {i : Nat} {is : List Nat} {x : Str} {tgs : List Expr} (hN : X.N.Nodup) (hi : X.N[i]? = some x) (hx : Loc X.env.scope x) (hf : X.fn x = true ∨ X.env.scope.names.lookup x = some .local) (hk : kp i = false) (h2 : PGs X tgs (GTs X.K X.mg kp is))
    (hs : (assignEach (.Name x pos :: tgs) X.env).map (·.2) = assign (.Name x pos) X.env :: (assignEach tgs X.env).map (·.2)) : PGs X (.Name x pos :: tgs) (GTs X.K X.mg kp (i :: is)) :=
  PGs.weak (pgs_cons (pg_name hN hi hx hf) h2 hs) fun vs s H Q ⟨ds, r, F, G, gd, q, r1, e, h⟩ => by
    cases ds with
    | nil => cases e
    | cons d ds =>
      obtain ⟨v, vs', F1, F2, rfl, q1, q2, f⟩ := q
      have hf := List.append_eq_nil_iff.mp f.symm
      obtain ⟨A, r2, n2, p2⟩ := gd.set (i := i) (hf.1 ▸ q1)
      refine ⟨v, vs', rfl, ds, setS r i d, A, G, ⟨r2, n2, gd.tr⟩, ?_, r1, e, fun s' H' F' rs nd p k => h s' H' F' rs nd (p2.trans p) ((Kq.set hk).trans k)⟩
      refine (hf.2 ▸ q2).reW fun a z => .inl ?_
      rcases List.mem_append.mp z with z | z
      · rcases p2.fp a z with z | z
        · exact List.mem_append_left _ z
        · exact absurd z (RS.tracked _ _ _ r2 a (by assumption))
      · exact List.mem_append_right _ z
theorem g_tup {tgs : List Expr} {is : List Nat} {k : Nat} (hc : X.calm = true) (h : PGs X tgs (GTs X.K X.mg kp is)) (hn : (assignEach tgs X.env).length = is.length) (hst : (assignEach tgs X.env).findIdx? (·.1) = none) :
    PG X (.Tuple tgs k pos) (GT X.K X.mg kp (tgtM is false)) := PG.weak (pg_tup hc h hn hst) fun v s H Q ⟨d, r, F, G, gd, q, r1, e, h⟩ => by
  cases d <;> simp only [tgtM] at e <;> try (cases e; done)
  rename_i ds
  cases eb : bindT is ds r with
  | none => rw [eb] at e; cases e
  | some r2 =>
    rw [eb] at e; cases e
    obtain ⟨a, vs, rfl, hs, n, l⟩ := q
    have hl : ∀ (is : List Nat) (ds : List D) (r r2 : Env), bindT is ds r = some r2 → ds.length = is.length := by
      intro is
      induction is with
      | nil => intro ds r r2 h; cases ds <;> first | rfl | cases h
      | cons i is ih => intro ds r r2 h; cases ds with
        | nil => cases h
        | cons d ds => simp [ih ds _ _ h]
    exact ⟨a, vs, rfl, hs, by rw [l.length, hl _ _ _ _ eb], ds, r, F, G, gd, l, r1, eb, h⟩

/-! ### for -/
theorem ss_for {ts : List Nat} {one : Bool} {ei : M (List D)} {eb : M Fl} {body : List Stmt} (hp : PassesOwn (model X.prog X.w) X.A X.env X.xe) (hc : X.calm = true) (hi : PI X tg e (SI X.K X.mg Wx ei)) (hg : PG X tg (GT X.K X.mg kp (tgtM ts one))) (hb : PSs X body (SS X.K X.mg Wx kp eb))
    (hs : ∀ x, foldedSetIterable e X.env x = pure x) : PS X (.For tg e body [] pos) (SS X.K X.mg Wx kp (ei >>= fun xs => forM ts one eb xs)) := PS.weak (ps_for hp hc hi hg hb hs) fun Z s H h => by
  obtain ⟨r, F, G, gd, h⟩ := h
  refine ⟨r, F, G, gd, ?_⟩
  rw [M.bind_def] at h
  cases e : ei r with
  | err => rw [e] at h; exact h
  | exc c r' => rw [e] at h; exact ContS.exc h
  | ok xs r' =>
    rw [e] at h
    simp only at h
    intro J Gq H1 F1 w g rs nd p
    have wk : Walk J xs.length (fun H => ∃ W, Gq H W) J.yld := ⟨fun i H hi ⟨W, g⟩ => w.goes i H W hi g, fun H ⟨W, g⟩ => w.stops H W g, fun _ _ _ _ _ _ y => y⟩
    refine for_it wk (fun i s H => ∃ r F, Gd X.K X.mg H r s F G ∧ Gq H (F ++ G) ∧ ContS X.K X.mg Wx kp Z s H F G (forM ts one eb (xs.drop i) r)) ⟨r', F1, ⟨rs, nd, fun a z => p.gr a (gd.tr a z)⟩, g, ContS.of h p Kq.refl⟩ (fun i s H _ ⟨r, F, gd, g, _⟩ => ⟨_, g⟩) ?_ ?_
    · rintro i x s H H' hi ⟨r, F, gd, g, h⟩ y
      obtain ⟨rx, po⟩ := w.yields i H (F ++ G) x H' g y _ (List.getElem?_eq_getElem hi)
      have po' : Po H H' F F := (po.frame (A := F) (RS.tracked _ _ _ gd.rs) |> fun q => by simpa using q)
      rw [List.drop_eq_getElem_cons hi, forM] at h
      cases et : tgtM ts one xs[i] r with
      | err => rw [et] at h; exact h.elim
      | exc c r1 =>
        exfalso
        unfold tgtM at et
        split at et <;> try (cases et; done)
        split at et <;> cases et
      | ok u r1 =>
        rw [et] at h
        simp only at h
        have gd' : Gd X.K X.mg H' r s F G := ⟨RS.stab po.kp (fun _ z => nomatch z) (fun a z => .inl z) _ _ _ gd.rs (fun _ _ z => nomatch z), gd.nd, fun a z => po.gr a (gd.tr a z)⟩
        refine ⟨xs[i], r, F, G, gd', rx, r1, et, fun s2 H2 F2 rs2 nd2 p2 k2 => ⟨r1, F2, G, ⟨rs2, nd2, fun a z => p2.gr a (gd'.tr a z)⟩, ?_⟩⟩
        have g2 : Gq H2 (F2 ++ G) := w.stab _ _ _ _ F (w.stab _ _ _ (F ++ G) [] g po.kp (fun _ z => nomatch z) (fun a z => .inl z)) p2.kp (fun a z => List.mem_append_left _ z) (fun a z => by
          rcases List.mem_append.mp z with z | z
          · exact (p2.fp a z).imp (fun z => List.mem_append_left _ z) id
          · exact .inl (List.mem_append_right _ z))
        cases eb2 : eb r1 with
        | err => rw [eb2] at h; exact h
        | exc c r2 => rw [eb2] at h; exact ContS.of h (po'.trans p2) k2
        | ok fl r2 =>
          rw [eb2] at h
          cases fl with
          | rt d => exact ContS.of h (po'.trans p2) k2
          | nx =>
            intro s3 H3 F3 rs3 nd3 p3 k3
            refine ⟨r2, F3, ⟨rs3, nd3, fun a z => p3.gr a (p2.gr a (gd'.tr a z))⟩, ?_, ContS.of h ((po'.trans p2).trans p3) (k2.trans k3)⟩
            exact w.stab _ _ _ _ F2 g2 p3.kp (fun a z => List.mem_append_left _ z) (fun a z => by
              rcases List.mem_append.mp z with z | z
              · exact (p3.fp a z).imp (fun z => List.mem_append_left _ z) id
              · exact .inl (List.mem_append_right _ z))
    · rintro s H ⟨r, F, gd, g, h⟩
      rw [List.drop_length, forM] at h
      exact h s H F gd.rs gd.nd Po.refl Kq.refl
end
end TT
set_option Elab.async false
set_option linter.all false
/-! TQ: comprehensions -/
namespace TT
open PySem PySem.Spec PySem.StrLaws L2
section
variable {X : Cx} {Wx : WX} {pos p : Pos} {tg e elt iter : Expr} {ea ee : M D} {ei : M (List D)} {ec : M Bool}
variable {K : PySem.W.Frag} {mg : Str → Option Value} {H H' H2 : Hp} {W W' F F' F1 F2 G A Fd : List Addr} {s s' : L2.St} {Q : VK}
theorem RS.agree : ∀ {r : Env} {s s' : L2.St} {F : List Addr}, RS K mg H W r s F → s'.length = s.length → (∀ i : Nat, r[i]? = some none ∨ s'[i]? = s[i]?) → RS K mg H W r s' F
  | [], s, s', F, h, hl, _ => by
    obtain ⟨rfl, rfl⟩ := h
    exact ⟨List.length_eq_zero_iff.mp (by simpa using hl), rfl⟩
  | none :: r, s, s', F, h, hl, hi => by
    obtain ⟨o, t, rfl, h⟩ := h
    cases s' with
    | nil => simp at hl
    | cons o' t' => exact ⟨o', t', rfl, RS.agree h (by simpa using hl) fun i => by simpa using hi (i + 1)⟩
  | some d :: r, s, s', F, h, hl, hi => by
    obtain ⟨v, t, F1, F2, rfl, h1, h2, rfl⟩ := h
    cases s' with
    | nil => simp at hl
    | cons o' t' =>
      have e : o' = some v := by simpa using hi 0
      subst e
      exact ⟨v, t', F1, F2, rfl, h1, RS.agree h2 (by simpa using hl) fun i => by simpa using hi (i + 1), rfl⟩
theorem wipe_out {i : Nat} : ∀ {own : List Nat} {s : L2.St}, i ∉ own → (wipe s own)[i]? = s[i]?
  | [], _, _ => rfl
  | j :: own, s, h => by
    rw [wipe, List.getElem?_set_ne (fun z => h (by simp [z])), wipe_out fun z => h (by simp [z])]
theorem wipe_in {i : Nat} : ∀ {own : List Nat} {s : L2.St}, i ∈ own → i < s.length → (wipe s own)[i]? = some none
  | j :: own, s, h, hl => by
    rw [wipe]
    by_cases e : j = i
    · subst e
      rw [List.getElem?_set_self (by rw [wipe_length]; exact hl)]
    · rw [List.getElem?_set_ne e]
      exact wipe_in ((List.mem_cons.mp h).resolve_left fun z => e z.symm) hl
theorem wipeE_out {i : Nat} : ∀ {own : List Nat} {r : Env}, i ∉ own → (wipeE own r)[i]? = r[i]?
  | [], _, _ => rfl
  | j :: own, r, h => by
    show ((wipeE own r).set j none)[i]? = _
    rw [List.getElem?_set_ne (fun z => h (by simp [z])), wipeE_out fun z => h (by simp [z])]
theorem wipeE_length (r : Env) : ∀ own : List Nat, (wipeE own r).length = r.length
  | [] => rfl
  | j :: own => by
    show ((wipeE own r).set j none).length = _
    rw [List.length_set, wipeE_length r own]
theorem wipeE_in {i : Nat} : ∀ {own : List Nat} {r : Env}, i ∈ own → i < r.length → (wipeE own r)[i]? = some none
  | j :: own, r, h, hl => by
    show ((wipeE own r).set j none)[i]? = _
    by_cases e : j = i
    · subst e
      rw [List.getElem?_set_self (by rw [wipeE_length]; exact hl)]
    · rw [List.getElem?_set_ne e]
      exact wipeE_in ((List.mem_cons.mp h).resolve_left fun z => e z.symm) hl
theorem wipe_same {own : List Nat} (hl : s'.length = s.length) (h : ∀ i, i ∉ own → s'[i]? = s[i]?) : wipe s' own = wipe s own := by
  apply List.ext_getElem?
  intro i
  by_cases hi : i ∈ own
  · by_cases h2 : i < s.length
    · rw [wipe_in hi h2, wipe_in hi (by omega)]
    · rw [List.getElem?_eq_none (by rw [wipe_length]; omega), List.getElem?_eq_none (by rw [wipe_length]; omega)]
  · rw [wipe_out hi, wipe_out hi, h i hi]
theorem RS.wipe {r : Env} : ∀ (own : List Nat) {s : L2.St} {F : List Addr}, RS K mg H W r s F → ∃ B, RS K mg H W (wipeE own r) s B ∧ B.Sublist F
  | [], s, F, h => ⟨F, h, List.Sublist.refl _⟩
  | i :: own, s, F, h => by
    obtain ⟨B, h1, b⟩ := RS.wipe own h
    obtain ⟨C, h2, c⟩ := RS.forget i h1
    exact ⟨C, h2, c.trans b⟩
theorem RS.own {r : Env} {own : List Nat} (h : RS K mg H W (wipeE own r) s F) (hl : s'.length = s.length) (hs : ∀ i, i ∉ own → s'[i]? = s[i]?) : RS K mg H W (wipeE own r) s' F := h.agree hl fun i => by
  by_cases hi : i ∈ own
  · by_cases h2 : i < r.length
    · exact .inl (wipeE_in hi h2)
    · right
      have := h.length
      rw [wipeE_length] at this
      rw [List.getElem?_eq_none (by omega), List.getElem?_eq_none (by omega)]
  · exact .inr (hs i hi)
theorem bindT_length : ∀ {is : List Nat} {ds : List D} {r r' : Env}, bindT is ds r = some r' → r'.length = r.length
  | [], [], _, _, h => by cases h; rfl
  | i :: is, d :: ds, r, r', h => by
    rw [bindT_length (is := is) (ds := ds) h, setS, List.length_set]
  | [], _ :: _, _, _, h => by cases h
  | _ :: _, [], _, _, h => by cases h
theorem tgtM_length {ts : List Nat} {one : Bool} {d : D} {r r' : Env} (h : tgtM ts one d r = .ok () r') : r'.length = r.length := by
  unfold tgtM at h
  split at h
  · cases h; simp [setS]
  · split at h <;> cases h
    rename_i e
    exact bindT_length e
  · cases h
abbrev W0 : WX := fun _ _ _ _ => False
/-- not the block's own -/
def outK (own : List Nat) : Nat → Bool := fun i => !own.contains i
theorem lc_rd {ts : List Nat} {one : Bool} {ifs : List Expr} {scope : Scope} {own : List (Str × Nat)} (hc : X.calm = true) (hN : X.N.Nodup) (hi : PI X tg iter (SI X.K X.mg Wx ei)) (ok : BlkOk X.N X.env.scope scope own)
    (hg : ∀ (s : Shared) (H : Hp) (C : Addr) (cl : List (Str × Addr)) (fp : List Addr), PG (X.blk s H scope (compEnvC scope cl C X.env) fp) tg (GT X.K X.mg (outK (own.map (·.2))) (tgtM ts one)))
    (ht : ∀ (s : Shared) (H : Hp) (C : Addr) (cl : List (Str × Addr)) (fp : List Addr), PTs (X.blk s H scope (compEnvC scope cl C X.env) fp) ifs (ST X.K X.mg W0 ec))
    (he : ∀ (s : Shared) (H : Hp) (C : Addr) (cl : List (Str × Addr)) (fp : List Addr), PE (X.blk s H scope (compEnvC scope cl C X.env) fp) elt (SE X.K X.mg W0 ee)) (hs : ∀ x, foldedSetIterable iter X.env x = pure x) :
    (∀ s H Q, SE X.K X.mg Wx (ei >>= fun xs => lcM (own.map (·.2)) ts one ec ee xs []) s H Q → tLc (SI X.K X.mg Wx ei) (GT X.K X.mg (outK (own.map (·.2))) (tgtM ts one)) (ST X.K X.mg W0 ec) (SE X.K X.mg W0 ee) (own.map (·.2)) s H Q) := by
  generalize own.map (·.2) = ow
  intro s H Q ⟨r, F, G, gd, h⟩
  refine ⟨r, F, G, gd, ?_⟩
  rw [M.bind_def] at h
  cases e : ei r with
  | err => rw [e] at h; exact h
  | exc c r' => rw [e] at h; exact h
  | ok xs r' =>
    rw [e] at h
    simp only at h
    intro J Gq H1 F1 w g rs nd p D0 hD
    have tG : ∀ a ∈ G, H1 a ≠ none := fun a z => p.gr a (gd.tr a z)
    have wk : Walk J xs.length (fun H => ∃ W, Gq H W) J.yld := ⟨fun i H hi ⟨W, g⟩ => w.goes i H W hi g, fun H ⟨W, g⟩ => w.stops H W g, fun _ _ _ _ _ _ y => y⟩
    have nD : D0 ∉ F1 ++ G := fun z => by
      rcases List.mem_append.mp z with z | z
      · exact RS.tracked _ _ _ rs D0 z hD
      · exact tG D0 z hD
    obtain ⟨B0, rsB, sb⟩ := RS.wipe ow rs
    have poN : Po H1 (upd H1 D0 (.lst [])) [] [D0] := Po.new (F := []) hD
    have wk0 : ∀ a ∈ B0 ++ D0 :: G, a ∈ F1 ++ G ∨ H1 a = none := fun a z => by
      have := sb.subset (a := a)
      by_cases e : a = D0
      · subst e; exact .inr hD
      · exact .inl (by grind)
    refine lc_it wk (fun i H => ∃ r F acc us, RS X.K X.mg H (F ++ D0 :: G) (wipeE ow r) s F ∧ (F ++ D0 :: G).Nodup ∧ (∀ a ∈ G, H a ≠ none) ∧ H D0 = some (.lst us) ∧ RL X.K X.mg H (F ++ D0 :: G) acc us [] ∧ purL acc = true ∧ acc.length ≤ most ∧ Gq H (F ++ D0 :: G) ∧ Po H1 H F1 (D0 :: F) ∧
      ∃ rr, rr = lcM ow ts one ec ee (xs.drop i) acc r ∧ Cont X.K X.mg Wx Q s H1 F1 G rr) ?_ (fun i H _ ⟨r, F, acc, us, _, _, _, _, _, _, _, g, _⟩ => ⟨_, g⟩) ?_ ?_
    · refine ⟨r', B0, [], [], RS.stab poN.kp (fun _ z => nomatch z) wk0 _ _ _ rsB (fun _ _ z => nomatch z), ?_, fun a z => poN.gr a (tG a z), upd_same, ⟨rfl, rfl⟩, rfl, Nat.zero_le _, w.stab _ _ _ _ [] g poN.kp (fun _ z => nomatch z) wk0, ?_, _, rfl, Cont.of h p⟩
      · have n1 : (B0 ++ G).Nodup := (sb.append_right G).nodup nd
        have : D0 ∉ B0 := fun z => nD (List.mem_append_left _ (sb.subset z))
        grind [List.nodup_append]
      · exact (Po.new (F := F1) hD).sub fun a z => by
          have := sb.subset (a := a)
          grind
    · rintro i x H H' hi ⟨r, F, acc, us, rs, nd, tG, hus, ra, pa, na, g, po, rr, er, h⟩ y
      obtain ⟨rx, po1⟩ := w.yields i H (F ++ D0 :: G) x H' g y _ (List.getElem?_eq_getElem hi)
      rw [List.drop_eq_getElem_cons hi, lcM] at er
      dsimp only at er
      have ls := rs.length
      have rs0 : RS X.K X.mg H (F ++ D0 :: G) (wipeE ow r) (wipe s ow) F := RS.own rs (wipe_length s ow) fun i hi => wipe_out hi
      have gd1 : Gd X.K X.mg H' (wipeE ow r) (wipe s ow) F (D0 :: G) := ⟨RS.stab po1.kp (fun _ z => nomatch z) (fun a z => .inl z) _ _ _ rs0 (fun _ _ z => nomatch z), nd, fun a z => po1.gr a (by
        rcases List.mem_cons.mp z with z | z
        · rw [z, hus]; exact fun x => nomatch x
        · exact tG a z)⟩
      cases et : tgtM ts one xs[i] (wipeE ow r) with
      | err => rw [et] at er; subst er; exact h.elim
      | exc c r1 => rw [et] at er; subst er; exact h.elim
      | ok u r1 =>
        rw [et] at er
        simp only at er
        refine ⟨xs[i], wipeE ow r, F, D0 :: G, gd1, rx, r1, et, fun s2 H2 F2 rs2 nd2 p2 k2 => ?_⟩
        have l2 : s2.length = s.length := by rw [rs2.length, tgtM_length et, ls]
        have out2 : ∀ i, i ∉ ow → s2[i]? = s[i]? := fun i hi => by
          rw [k2 i (by simp [outK, hi]), wipe_out hi]
        refine ⟨wipe_same l2 out2, ?_⟩
        have po2 : Po H H2 F F2 := by
          have := po1.frame (A := F) (RS.tracked _ _ _ rs0)
          rw [List.append_nil] at this
          exact this.trans p2
        have ra2 : ∀ {H3 : Hp} {F3 : List Addr}, Po H H3 F F3 → RL X.K X.mg H3 (F3 ++ D0 :: G) acc us [] ∧ H3 D0 = some (.lst us) ∧ Gq H3 (F3 ++ D0 :: G) ∧ (∀ a ∈ G, H3 a ≠ none) := fun {H3 F3} q => by
          have hW : ∀ a ∈ F3 ++ D0 :: G, a ∈ F ++ D0 :: G ∨ H a = none := fun a z => by
            have := q.fp a; grind
          refine ⟨RL.stab q.kp (fun a z => List.mem_append_left _ z) hW _ _ _ ra (fun _ z => nomatch z), q.kp D0 _ hus (.inl fun z => ?_), w.stab _ _ _ _ F g q.kp (fun a z => List.mem_append_left _ z) hW, fun a z => q.gr a (tG a z)⟩
          grind [List.nodup_append]
        have gd2 : Gd X.K X.mg H2 r1 s2 F2 (D0 :: G) := ⟨rs2, nd2, fun a z => p2.gr a (gd1.tr a z)⟩
        refine ⟨r1, F2, D0 :: G, gd2, ?_⟩
        cases eb : ec r1 with
        | err => rw [eb] at er; subst er; exact h.elim
        | exc c r2 => rw [eb] at er; subst er; exact h.elim
        | ok b r2 =>
          rw [eb] at er
          intro H3 F3 rs3 nd3 p3
          have po3 : Po H H3 F F3 := po2.trans p3
          cases b with
          | false =>
            simp only at er
            obtain ⟨q1, q2, q3, q4⟩ := ra2 po3
            obtain ⟨B, rsB, sb⟩ := RS.wipe ow rs3
            have hsub : ∀ a ∈ B ++ D0 :: G, a ∈ F3 ++ D0 :: G := fun a z => by have := sb.subset (a := a); grind
            rw [if_neg Bool.false_ne_true]
            refine ⟨r2, B, acc, us, RS.own (rsB.reW fun a z => .inl (hsub a z)) l2.symm fun i hi => (out2 i hi).symm, (sb.append_right _).nodup nd3, q4, q2, q1.reW fun a z => .inl (hsub a z), pa, na, w.stab _ _ _ _ [] q3 (Kp.refl _ _) (fun _ z => nomatch z) fun a z => .inl (hsub a z), ?_, rr, er, h⟩
            have f := po3.frame (A := [D0]) (fun a z => by rw [List.mem_singleton.mp z, hus]; exact fun x => nomatch x)
            exact po.trans (f.sub fun a z => by have := sb.subset (a := a); grind)
          | true =>
            simp only at er
            rw [if_pos rfl]
            refine ⟨r2, F3, D0 :: G, ⟨rs3, nd3, fun a z => p3.gr a (gd2.tr a z)⟩, ?_⟩
            cases ed : ee r2 with
            | err => rw [ed] at er; subst er; exact h.elim
            | exc c r3 => rw [ed] at er; subst er; exact h.elim
            | ok d r3 =>
              rw [ed] at er
              intro v H4 Fd F4 rs4 p4
              by_cases hp : (d.pur && small (acc.length + 1)) = true
              case neg => simp only [if_neg hp] at er; subst er; exact h.elim
              simp only [if_pos hp] at er
              simp only [Bool.and_eq_true] at hp
              obtain ⟨hp, hsm⟩ := hp
              rw [small_iff] at hsm
              have e0 := RV.pure_nil _ _ _ hp rs4.rv
              subst e0
              obtain ⟨q1, q2, q3, q4⟩ := ra2 (po3.trans (by simpa using p4))
              have rv4 : RV X.K X.mg H4 (F4 ++ D0 :: G) d v [] := by simpa using rs4.rv
              have rs4' : RS X.K X.mg H4 (F4 ++ D0 :: G) r3 s2 F4 := by simpa using rs4.rs
              have nd4 : (F4 ++ D0 :: G).Nodup := by simpa using rs4.nd
              have hsz : us.length < sizeLine := by
                rw [q1.length]
                have := most_line; omega
              refine ⟨us, q2, hsz, ?_⟩
              obtain ⟨B, rsB, sb⟩ := RS.wipe ow rs4'
              have hsub : ∀ a ∈ B ++ D0 :: G, a ∈ F4 ++ D0 :: G := fun a z => by have := sb.subset (a := a); grind
              have k : Kp H4 (upd H4 D0 (.lst (us ++ [v]))) [D0] := Kp.upd1 q2 rfl
              have hM : ∀ a ∈ [D0], a ∈ F4 ++ D0 :: G := fun a z => by rw [List.mem_singleton.mp z]; simp
              have rsB' : RS X.K X.mg (upd H4 D0 (.lst (us ++ [v]))) (B ++ D0 :: G) (wipeE ow r3) s2 B := RS.stab k hM (fun a z => .inl (hsub a z)) _ _ _ rsB fun a z y => by
                rw [List.mem_singleton.mp y] at z
                have := sb.subset z
                grind [List.nodup_append]
              refine ⟨r3, B, acc ++ [d], us ++ [v], RS.own rsB' l2.symm fun i hi => (out2 i hi).symm, (sb.append_right _).nodup nd4, fun a z => ?_, upd_same, ?_, by rw [purL_append, pa]; simp [purL, hp], by simpa using hsm, w.stab _ _ _ _ [D0] q3 k hM fun a z => .inl (hsub a z), ?_, rr, er, h⟩
              · by_cases e : a = D0
                · rw [e, upd_same]; exact fun x => nomatch x
                · rw [upd_ne e]; exact q4 a z
              · refine RL.append (F := []) (RL.stab k hM (fun a z => .inl (hsub a z)) _ _ _ q1 (fun _ z => nomatch z)) ⟨v, [], [], [], rfl, RV.stab k hM (fun a z => .inl (hsub a z)) _ _ _ rv4 (fun _ z => nomatch z), ⟨rfl, rfl⟩, rfl⟩
              · have p5 : Po H H4 F F4 := po3.trans (by simpa using p4)
                have f := p5.frame (A := [D0]) (fun a z => by rw [List.mem_singleton.mp z, hus]; exact fun x => nomatch x)
                have u := Po.upd1 (F := [D0] ++ F4) (F' := D0 :: B) (o' := .lst (us ++ [v])) q2 rfl (by simp) (fun a z => by have := sb.subset (a := a); grind)
                exact po.trans (f.trans u)
    · rintro H ⟨r, F, acc, us, rs, nd, tG, hus, ra, pa, na, g, po, rr, er, h⟩
      rw [List.drop_length, lcM] at er
      subst er
      refine h (.ref D0) H [D0] F ⟨⟨D0, us, [], rfl, hus, na, ra.reW fun a z => .inl (by grind), rfl⟩, rs.reW fun a z => .inl (by grind), ?_⟩ po
      grind [List.nodup_append]

theorem s_lc {ts : List Nat} {one : Bool} {ifs : List Expr} {scope : Scope} {own : List (Str × Nat)} (hc : X.calm = true) (hN : X.N.Nodup) (hi : PI X tg iter (SI X.K X.mg Wx ei)) (ok : BlkOk X.N X.env.scope scope own)
    (hg : ∀ (s : Shared) (H : Hp) (C : Addr) (cl : List (Str × Addr)) (fp : List Addr), PG (X.blk s H scope (compEnvC scope cl C X.env) fp) tg (GT X.K X.mg (outK (own.map (·.2))) (tgtM ts one)))
    (ht : ∀ (s : Shared) (H : Hp) (C : Addr) (cl : List (Str × Addr)) (fp : List Addr), PTs (X.blk s H scope (compEnvC scope cl C X.env) fp) ifs (ST X.K X.mg W0 ec))
    (he : ∀ (s : Shared) (H : Hp) (C : Addr) (cl : List (Str × Addr)) (fp : List Addr), PE (X.blk s H scope (compEnvC scope cl C X.env) fp) elt (SE X.K X.mg W0 ee)) (hs : ∀ x, foldedSetIterable iter X.env x = pure x) :
    PE X (.ListComp elt [⟨tg, iter, ifs, 0⟩] scope pos) (SE X.K X.mg Wx (ei >>= fun xs => lcM (own.map (·.2)) ts one ec ee xs [])) :=
  PE.weak (pe_lc hc hN hi ok hg ht he hs) (lc_rd hc hN hi ok hg ht he hs)
theorem ss_setLc {kp : Nat → Bool} {i : Nat} {y : Str} {py spos : Pos} {ts : List Nat} {one : Bool} {ifs : List Expr} {scope : Scope} {own : List (Str × Nat)} (hc : X.calm = true) (hN : X.N.Nodup) (hy : X.N[i]? = some y) (hyl : X.env.scope.names.lookup y = some .local) (hk : kp i = false)
    (hsw : swapsWith (.ListComp elt [⟨tg, iter, ifs, 0⟩] scope pos) (some (.Name y py)) spos.line X.env = pure true) (hi : PI X tg iter (SI X.K X.mg Wx ei)) (ok : BlkOk X.N X.env.scope scope own)
    (hg : ∀ (s : Shared) (H : Hp) (C : Addr) (cl : List (Str × Addr)) (fp : List Addr), PG (X.blk s H scope (compEnvC scope cl C X.env) fp) tg (GT X.K X.mg (outK (own.map (·.2))) (tgtM ts one)))
    (ht : ∀ (s : Shared) (H : Hp) (C : Addr) (cl : List (Str × Addr)) (fp : List Addr), PTs (X.blk s H scope (compEnvC scope cl C X.env) fp) ifs (ST X.K X.mg W0 ec))
    (he : ∀ (s : Shared) (H : Hp) (C : Addr) (cl : List (Str × Addr)) (fp : List Addr), PE (X.blk s H scope (compEnvC scope cl C X.env) fp) elt (SE X.K X.mg W0 ee)) (hs : ∀ x, foldedSetIterable iter X.env x = pure x) :
    PS X (.Assign [.Name y py] (.ListComp elt [⟨tg, iter, ifs, 0⟩] scope pos) spos) (SS X.K X.mg Wx kp ((ei >>= fun xs => lcM (own.map (·.2)) ts one ec ee xs []) >>= fun d => fun r => .ok .nx (setS r i d))) :=
  PS.weak (ps_setLc hc hN hy hyl hsw hi ok hg ht he hs) fun Z s H h => lc_rd hc hN hi ok hg ht he hs _ _ _ (set_rd hk h)
theorem ts_nil : PTs X [] (ST X.K X.mg Wx (pure true)) := ⟨fun pins st s H Q I h => pts_nil.run pins st s H Q I (by
  obtain ⟨r, F, G, gd, h⟩ := h
  exact h H F gd.rs gd.nd Po.refl)⟩
theorem ts_one (h : PT X e (ST X.K X.mg Wx ec)) : PTs X [e] (ST X.K X.mg Wx ec) := pts_one h
end
end TT
set_option Elab.async false
set_option linter.all false
/-! TR: try; defs -/
namespace TT
open PySem PySem.Spec PySem.StrLaws L2
/-- try, except one class: what each class that may come is to it -/
def tryM (cs : List (String × Bool)) (e eh : M Fl) : M Fl := fun r => match e r with
  | .exc c r' => match cs.lookup c with
    | some true => (match eh r' with
      | .ok a r2 => .ok a r2
      | _ => .err)
    | some false => .exc c r'
    | none => .err
  | .ok a r' => .ok a r'
  | .err => .err
section
variable {X : Cx} {Wx : WX} {kp : Nat → Bool} {pos pos' np : Pos} {x : Str} {b₀ : Stmt} {body suite : List Stmt} {eb eh : M Fl}
variable {K : PySem.W.Frag} {mg : Str → Option Value} {H H' : Hp} {F F' G : List Addr}
/-- the classes that may come, and whether C takes them -/
def CatchOk (K : PySem.W.Frag) (mg : Str → Option Value) (cs : List (String × Bool)) (c : Value) : Prop := ∀ p ∈ cs, ∀ C, Glo mg p.1 C → PySem.W.exmOne K (.ref C) c = some p.2
theorem mem_lookup {cs : List (String × Bool)} {c : String} {b : Bool} (h : cs.lookup c = some b) : (c, b) ∈ cs := by
  induction cs with
  | nil => cases h
  | cons p cs ih =>
    obtain ⟨c', b'⟩ := p
    rw [List.lookup_cons] at h
    by_cases e : (c == c') = true
    · rw [e] at h
      cases h
      rw [beq_iff_eq.mp e]
      exact List.mem_cons_self
    · rw [Bool.not_eq_true] at e
      rw [e] at h
      exact List.mem_cons_of_mem _ (ih h)
theorem ss_try {cs : List (String × Bool)} {c : Value} (hs : X.stack = X.env :: X.outer) (hf : X.env.frame = some X.env.locals) (hc : Names X x c) (hk : CatchOk X.K X.mg cs c) (tk : Takes X Wx)
    (hb : ∀ (W : WX) (pn : List (Addr × Obj)) (xe : Value → Shared → Prop), Takes (X.tr pn xe) W → PassesOwn (model X.prog X.w) X.A X.env xe → PSs (X.tr pn xe) body (SS X.K X.mg W kp eb))
    (hsu : ∀ (a : Addr) (oe : Obj) (pn : List (Addr × Obj)), PSs (X.suite a ((a, oe) :: pn)) (b₀ :: suite) (SS X.K X.mg W0 kp eh)) :
    PS X (.Try body [.ExceptHandler (some (.Name x np)) none (b₀ :: suite) pos'] [] [] pos) (SS X.K X.mg Wx kp (tryM cs eb eh)) := by
  refine PS.weak (ps_try_only (tb := fun W => SS X.K X.mg W kp eb) (ts := fun _ _ _ => SS X.K X.mg W0 kp eh) (Wout := Wx) hs hf hc tk hb fun a oe cls d pn _ _ => hsu a oe pn) ?_
  · rintro Z s H ⟨r, F, G, gd, h⟩
    refine ⟨r, F, G, gd, ?_⟩
    unfold tryM at h
    cases e : eb r with
    | err => rw [e] at h; exact h
    | ok fl r' => rw [e] at h; cases fl <;> exact h
    | exc c' r' =>
      rw [e] at h
      intro s' H' F' rs nd p k C g
      simp only at h
      cases el : cs.lookup c' with
      | none => rw [el] at h; exact h.elim
      | some b =>
        rw [el] at h
        have hx := hk _ (mem_lookup el) C g
        refine ⟨b, hx, fun eb' a na => ?_, fun eb' => ?_⟩
        · subst eb'
          refine ⟨r', F', G, ⟨rs, nd, fun a z => p.gr a (gd.tr a z)⟩, ?_⟩
          simp only at h
          cases e2 : eh r' with
          | err => rw [e2] at h; exact h.elim
          | exc c r2 => rw [e2] at h; exact h.elim
          | ok fl r2 =>
            rw [e2] at h
            have h2 := ContS.of h p k
            cases fl <;> exact h2
        · subst eb'
          exact h s' H' F' rs nd p k C g

theorem RO.reW {W W' : List Addr} : ∀ (io : List Bool) (os : List D) (vs : List V) (F : List Addr), RO K mg H W io os vs F → (∀ a ∈ W', a ∈ W ∨ H a = none) → RO K mg H W' io os vs F
  | [], _, _, _, h, _ => h
  | false :: bs, os, _, F, h, q => by
    obtain ⟨v, vs, rfl, h⟩ := h
    exact ⟨v, vs, rfl, RO.reW bs os vs F h q⟩
  | true :: bs, _, _, _, h, q => by
    obtain ⟨o, os, v, vs, F1, F2, rfl, rfl, h1, h2, rfl⟩ := h
    exact ⟨o, os, v, vs, F1, F2, rfl, rfl, h1.reW q, RO.reW bs os vs F2 h2 q, rfl⟩
/-- what the changeable parameters are at the end -/
theorem outs_ok {W : List Addr} : ∀ (io : List Bool) (r : Env) (s : L2.St) (vs : List V) (F : List Addr) (os : List D), outsOf io r = some os → RS K mg H W r s F → vs.length = io.length → (∀ i : Nat, io[i]? = some true → s[i]? = (vs.map some)[i]?) →
    ∃ Fo B, RO K mg H W io os vs Fo ∧ (Fo ++ B).Perm F
  | [], r, s, vs, F, os, e, h, _, _ => by
    cases e
    exact ⟨[], F, ⟨rfl, rfl⟩, .refl _⟩
  | false :: bs, [], _, _, _, _, e, _, _, _ => by cases e
  | true :: bs, [], _, _, _, _, e, _, _, _ => by cases e
  | false :: bs, d :: r, s, vs, F, os, e, h, hl, hi => by
    cases vs with
    | nil => simp at hl
    | cons v vs =>
      have e' : outsOf bs r = some os := e
      have key : ∀ (s' : L2.St) (F' : List Addr), RS K mg H W r s' F' → (∀ i : Nat, s'[i]? = s[i + 1]?) → (∃ C, (F' ++ C).Perm F) → ∃ Fo B, RO K mg H W (false :: bs) os (v :: vs) Fo ∧ (Fo ++ B).Perm F := by
        rintro s' F' h' hs ⟨C, hC⟩
        obtain ⟨Fo, B, q1, q2⟩ := outs_ok bs r s' vs F' os e' h' (by simpa using hl) fun i hio => by
          rw [hs i]
          have := hi (i + 1) (by simpa using hio)
          simpa using this
        refine ⟨Fo, B ++ C, ⟨v, vs, rfl, q1⟩, ?_⟩
        rw [← List.append_assoc]
        exact (q2.append_right C).trans hC
      cases d with
      | none =>
        obtain ⟨o, s', rfl, h⟩ := h
        exact key s' F h (fun i => by simp) ⟨[], by simp⟩
      | some d =>
        obtain ⟨u, s', F1, F2, rfl, h1, h2, rfl⟩ := h
        exact key s' F2 h2 (fun i => by simp) ⟨F1, List.perm_append_comm⟩
  | true :: bs, d :: r, s, vs, F, os, e, h, hl, hi => by
    cases vs with
    | nil => simp at hl
    | cons v vs =>
      cases d with
      | none => cases e
      | some d =>
        have e' : ∃ os', outsOf bs r = some os' ∧ d :: os' = os := by
          cases d <;> simp only [outsOf, Option.map_eq_some_iff] at e <;> first | exact e | cases e
        obtain ⟨os', e', rfl⟩ := e'
        obtain ⟨u, s', F1, F2, rfl, h1, h2, rfl⟩ := h
        have hv := hi 0 rfl
        simp at hv
        subst hv
        obtain ⟨Fo, B, q1, q2⟩ := outs_ok bs r s' vs F2 os' e' h2 (by simpa using hl) fun i hio => by
          have := hi (i + 1) (by simpa using hio)
          simpa using this
        refine ⟨F1 ++ Fo, B, ⟨d, os', u, vs, F1, Fo, rfl, rfl, h1, q1, rfl⟩, ?_⟩
        rw [List.append_assoc]
        exact q2.append_left F1
theorem RS.start {W : List Addr} : ∀ (ds : List D) (vs : List V) (F : List Addr) (n : Nat), RL K mg H W ds vs F → RS K mg H W (ds.map some ++ List.replicate n none) (vs.map some ++ List.replicate n none) F
  | [], _, _, 0, h => by obtain ⟨rfl, rfl⟩ := h; exact ⟨rfl, rfl⟩
  | [], _, _, n + 1, h => by
    obtain ⟨rfl, rfl⟩ := h
    exact ⟨none, List.replicate n none, rfl, RS.start [] [] [] n ⟨rfl, rfl⟩⟩
  | d :: ds, _, _, n, h => by
    obtain ⟨v, vs, F1, F2, rfl, h1, h2, rfl⟩ := h
    exact ⟨v, vs.map some ++ List.replicate n none, F1, F2, rfl, h1, RS.start ds vs F2 n h2, rfl⟩
end

/-! ### defs -/
structure Fn where
  /-- is the parameter one that is changed -/
  io : List Bool
  slots : Nat
  body : Cl → M Fl
noncomputable def runF (cl : Cl) (f : Fn) (ds : List D) : Fin :=
  if ds.length = f.io.length then
    match f.body cl (ds.map some ++ List.replicate (f.slots - ds.length) none) with
    | .ok fl r => match outsOf f.io r with
      | some os => .ok (match fl with | .nx => .non | .rt d => d) os
      | none => .err
    | .exc c r => match outsOf f.io r with
      | some os => .exc c os
      | none => .err
    | .err => .err
  else .err
/-- the defs of the table, so deep -/
noncomputable def runT (tbl : String → Option Fn) : Nat → Cl
  | 0, _, _ => .err
  | n + 1, x, ds => match tbl x with
    | some f => runF (runT tbl n) f ds
    | none => .err
/-- the parameters that are changed keep their slots -/
def keepS (io : List Bool) : Nat → Bool := fun i => io[i]? == some true
section
variable {P : Program} {w : World} {K : PySem.W.Frag} {mg : Str → Option Value} {base : Heap}
theorem fn_ok {x qual : Str} {st : Stmt} {f : Addr} {fd : FuncData} {N ps : List Str} {k : Nat} {fn : Fn} {cl : Cl} {nm : String} (F : Fun K x qual st f fd) (S : FnScope N ps (defScope st)) (hps : ps.length = fn.io.length) (hN : N.length = fn.slots) (hle : fn.io.length ≤ fn.slots)
    {cl' : Cl} (hcl : cl' nm = runF cl fn)
    (hb : ∀ (cdv : Value) (A : Around) (outer : List PySem.Env) (s : Shared) (H : Hp) (E : XK), Room k (A.deeper (PyProof.Rows.envOfC qual (defScope st) s.heap.objs.size f cdv)) →
      PSs (cxOf (L2.CX P w) P w K mg base N qual (defScope st) f cdv A outer s H E) (defBody st) (SS K mg (fun cls d _ H => E cls d H) (keepS fn.io) (fn.body cl))) :
    FnOk P w K mg base (L2.CX P w) (k + 1) f fd ps (CSp K mg cl' nm fn.io) := by
  refine F.okX S (fun vs H Q E h => by rw [hps]; exact CSp.len h) fun cdv A outer s H vs Q E hr h => ⟨_, hb cdv A outer s H E hr, ?_⟩
  obtain ⟨ds, F1, G, rl, nd, t, hl, h⟩ := h
  have hv := rl.length
  have hst : L2.start N vs = vs.map some ++ List.replicate (fn.slots - ds.length) none := by
    unfold L2.start
    rw [hN, hv]
  rw [hcl] at h
  unfold runF at h
  rw [if_pos hl] at h
  have kq : ∀ {s' : L2.St}, Kq (keepS fn.io) (L2.start N vs) s' → ∀ i : Nat, fn.io[i]? = some true → s'[i]? = (vs.map some)[i]? := fun {s'} q i hi => by
    rw [q i (by unfold keepS; rw [hi]; rfl), hst]
    have : i < (vs.map some).length := by
      rw [List.length_map, hv, hl]
      exact (List.getElem?_eq_some_iff.mp hi).1
    exact List.getElem?_append_left this
  refine ⟨ds.map some ++ List.replicate (fn.slots - ds.length) none, F1, G, ⟨by rw [hst]; exact RS.start ds vs F1 _ rl, nd, t⟩, ?_⟩
  cases e : fn.body cl (ds.map some ++ List.replicate (fn.slots - ds.length) none) with
  | err => rw [e] at h; exact h
  | exc c r =>
    rw [e] at h
    simp only at h
    cases eo : outsOf fn.io r with
    | none => rw [eo] at h; exact h.elim
    | some os =>
      rw [eo] at h
      intro s' H' F' rs nd' p q C g
      obtain ⟨Fo, B, ro, pm⟩ := outs_ok fn.io r s' vs F' os eo rs (by rw [hv, hl]) (kq q)
      have m : ∀ a, (a ∈ Fo ∨ a ∈ B) ↔ a ∈ F' := fun a => by have := pm.mem_iff (a := a); simpa using this
      have n : (Fo ++ B ++ G).Nodup := (pm.append_right G).nodup_iff.mpr nd'
      exact h H' Fo (RO.reW _ _ _ _ ro fun a z => .inl (by have := m a; grind)) (by grind [List.nodup_append]) (p.sub fun a z => (m a).mp (.inl z)) C g
  | ok fl r =>
    rw [e] at h
    simp only at h
    cases eo : outsOf fn.io r with
    | none => rw [eo] at h; exact h.elim
    | some os =>
      rw [eo] at h
      cases fl with
      | nx =>
        intro s' H' F' rs nd' p q
        obtain ⟨Fo, B, ro, pm⟩ := outs_ok fn.io r s' vs F' os eo rs (by rw [hv, hl]) (kq q)
        have m : ∀ a, (a ∈ Fo ∨ a ∈ B) ↔ a ∈ F' := fun a => by have := pm.mem_iff (a := a); simpa using this
        have n : (Fo ++ B ++ G).Nodup := (pm.append_right G).nodup_iff.mpr nd'
        exact h .non H' [] Fo ⟨rfl, rfl⟩ (RO.reW _ _ _ _ ro fun a z => .inl (by have := m a; grind)) (by grind [List.nodup_append]) (p.sub fun a z => (m a).mp (.inl z))
      | rt d =>
        intro v s' H' Fd F' rs p q
        have nd' := rs.nd
        obtain ⟨Fo, B, ro, pm⟩ := outs_ok fn.io r s' vs F' os eo rs.rs (by rw [hv, hl]) (kq q)
        have m : ∀ a, (a ∈ Fo ∨ a ∈ B) ↔ a ∈ F' := fun a => by have := pm.mem_iff (a := a); simpa using this
        have n : (Fd ++ (Fo ++ B) ++ G).Nodup := ((pm.append_left Fd).append_right G).nodup_iff.mpr nd'
        exact h v H' Fd Fo (rs.rv.reW fun a z => .inl (by have := m a; grind)) (RO.reW _ _ _ _ ro fun a z => .inl (by have := m a; grind)) (by grind [List.nodup_append]) (p.sub fun a z => by have := m a; grind)
end
end TT
set_option Elab.async false
set_option linter.all false
/-! TS: the constructs by short names, side conditions by rule -/
namespace TT
open PySem PySem.Spec PySem.StrLaws L2
/-! ### the language -/
abbrev nilL : M (List D) := pure []
abbrev consL (e : M D) (es : M (List D)) : M (List D) := do let x ← e; let xs ← es; pure (x :: xs)
abbrev nilA : M (List AV) := pure []
abbrev valA (e : M D) (es : M (List AV)) : M (List AV) := e >>= fun x => TT.pureM x.frz >>= fun x => es >>= fun xs => pure (.val x :: xs)
abbrev tmpA (e : M D) (es : M (List AV)) : M (List AV) := e >>= fun x => es >>= fun xs => pure (.tmp x :: xs)
abbrev ioA (i : Nat) (es : M (List AV)) : M (List AV) := hereM i >>= fun _ => es >>= fun xs => pure (.io (.sl i) :: xs)
abbrev binE (op : Operator) (a b : M D) : M D := a >>= fun x => b >>= fun y => M.lift (binF op x y)
abbrev cmpE (op : CmpOp) (a b : M D) : M D := a >>= fun x => b >>= fun y => M.lift ((cmpF op x y).map .bl)
abbrev invE (a : M D) : M D := a >>= fun x => truthM x >>= fun b => pure (.bl !b)
abbrev negE (a : M D) : M D := a >>= fun x => match x with | .int i => pure (.int (-i)) | _ => M.err
abbrev andE (a b : M D) : M D := a >>= fun x => truthM x >>= fun k => if k then b else pure x
abbrev orE (a b : M D) : M D := a >>= fun x => truthM x >>= fun k => if k then pure x else b
abbrev iteE (c : M Bool) (a b : M D) : M D := c >>= fun k => if k then a else b
abbrev tupE (es : M (List D)) : M D := es >>= fun ds => if small ds.length then pure (.tup ds) else M.err
abbrev lstE (es : M (List D)) : M D := es >>= fun ds => if small ds.length then pure (.lst true ds) else M.err
abbrev ixE (a b : M D) : M D := a >>= fun x => b >>= fun y => M.lift (ixP x y)
abbrev noO : M (Option Int) := pure none
abbrev soO (a : M D) : M (Option Int) := a >>= fun x => match x with | .int i => pure (some i) | _ => M.err
abbrev slE (a : M D) (lo hi : M (Option Int)) : M D := a >>= fun x => lo >>= fun l => hi >>= fun h => M.lift (slF x l h)
abbrev bltE (b : Bl) (es : M (List D)) : M D := es >>= fun ds => M.lift (bltF b ds)
abbrev bmtE (m : Bm) (o : M D) (es : M (List D)) : M D := o >>= fun x => M.lift (bmTy m x) >>= fun _ => es >>= fun ds => M.lift (bmtF m x ds)
abbrev mutE (m : Mu) (i : Nat) (es : M (List D)) : M D := tyM m.isL (.sl i) >>= fun _ => es >>= fun ds => mutM m (.sl i) ds
abbrev callE (cl : Cl) (x : String) (as : M (List AV)) : M D := as >>= fun avs => callM cl x avs
abbrev lcE (own ts : List Nat) (one : Bool) (it : M (List D)) (c : M Bool) (e : M D) : M D := it >>= fun xs => lcM own ts one c e xs []
abbrev valT (e : M D) : M Bool := e >>= truthM
abbrev notT (a : M Bool) : M Bool := a >>= fun k => pure !k
abbrev andT (a b : M Bool) : M Bool := a >>= fun k => if k then b else pure false
abbrev orT (a b : M Bool) : M Bool := a >>= fun k => if k then pure true else b
abbrev allT : M Bool := pure true
abbrev sqI (e : M D) : M (List D) := e >>= fun x => M.lift (seqItems x)
abbrev rngI (e : M D) : M (List D) := e >>= fun x => M.lift (rngF1 x)
abbrev enumI (e : M D) : M (List D) := e >>= fun x => M.lift ((enumSrc x).map enumItems)
abbrev retS (e : M D) : M Fl := e >>= fun d => pure (.rt d)
abbrev nxS : M Fl := pure .nx
abbrev setE (i : Nat) (e : M D) : M Fl := e >>= fun d => fun r => .ok .nx (setS r i d)
abbrev expS (e : M D) : M Fl := e >>= fun _ => pure .nx
abbrev iteS (c : M Bool) (a b : M Fl) : M Fl := c >>= fun k => if k then a else b
abbrev forS (ts : List Nat) (one : Bool) (it : M (List D)) (b : M Fl) : M Fl := it >>= fun xs => forM ts one b xs
abbrev raiseS (c : String) : M Fl := fun r => .exc c r

section
variable {K : PySem.W.Frag} {mg : Str → Option Value} {H H' : Hp} {W W' : List Addr}
mutual
theorem RV.noFro : ∀ (d : D) (v : V) (F : List Addr), d.noFro = true → RV K mg H W d v F → RV K mg H W' d v F
  | .non, _, _, _, h => h | .bl _, _, _, _, h => h | .int _, _, _, _, h => h | .str _, _, _, _, h => h | .glo _, _, _, _, h => h | .ty _, _, _, _, h => h | .scr _, _, _, _, h => h
  | .hole, _, _, p, _ => by cases p
  | .obj _ _, _, _, p, _ => by cases p
  | .tup ds, _, _, p, h => by
    obtain ⟨a, vs, e, q, n, l⟩ := h
    exact ⟨a, vs, e, q, n, RL.noFro ds vs _ (by simpa [D.noFro] using p) l⟩
  | .lst false _, _, _, p, _ => by simp [D.noFro] at p
  | .lst true ds, _, _, p, h => by
    obtain ⟨a, vs, F', e, q, n, l, f⟩ := h
    exact ⟨a, vs, F', e, q, n, RL.noFro ds vs _ (by simpa [D.noFro] using p) l, f⟩
  | .dct false _ _, _, _, p, _ => by simp [D.noFro] at p
  | .dct true false es, _, _, p, h => by
    obtain ⟨a, vs, F', e, q, n, l, f⟩ := h
    exact ⟨a, vs, F', e, q, n, RE.noFro es vs _ (by simpa [D.noFro] using p) l, f⟩
  | .dct true true _, _, _, _, h => h.elim
theorem RL.noFro : ∀ (ds : List D) (vs : List V) (F : List Addr), noFroL ds = true → RL K mg H W ds vs F → RL K mg H W' ds vs F
  | [], _, _, _, h => h
  | d :: ds, _, _, p, h => by
    obtain ⟨v, vs, F1, F2, e, h1, h2, f⟩ := h
    simp only [noFroL, Bool.and_eq_true] at p
    exact ⟨v, vs, F1, F2, e, RV.noFro d v F1 p.1 h1, RL.noFro ds vs F2 p.2 h2, f⟩
theorem RE.noFro : ∀ (ds : List D) (vs : List (Key × V)) (F : List Addr), noFroL ds = true → RE K mg H W ds vs F → RE K mg H W' ds vs F
  | [], _, _, _, h => h
  | .tup [.str s, d] :: ds, _, _, p, h => by
    obtain ⟨v, vs, F1, F2, e, h1, h2, f⟩ := h
    simp only [noFroL, D.noFro, Bool.and_eq_true] at p
    exact ⟨v, vs, F1, F2, e, RV.noFro d v F1 p.1.2.1 h1, RE.noFro ds vs F2 p.2 h2, f⟩
end
theorem RS.frzE (hW : ∀ a ∈ W', a ∈ W) : ∀ (r : Env) (s : L2.St) (F : List Addr), RS K mg H W r s F → (∀ a ∈ F, a ∉ W') → RS K mg H W' (frzE r) s []
  | [], _, _, h, _ => ⟨h.1, rfl⟩
  | none :: r, _, _, h, hF => by
    obtain ⟨o, s, rfl, h⟩ := h
    exact ⟨o, s, rfl, RS.frzE hW r s _ h hF⟩
  | some d :: r, _, _, h, hF => by
    obtain ⟨v, s, F1, F2, rfl, h1, h2, rfl⟩ := h
    have h3 := RS.frzE hW r s F2 h2 fun a z => hF a (List.mem_append_right _ z)
    by_cases hp : d.frz.pur = true
    · have e : TT.frzE (some d :: r) = some d.frz :: TT.frzE r := by simp [TT.frzE, hp]
      rw [e]
      exact ⟨v, s, [], [], rfl, RV.frz hW d v F1 h1 hp (fun a z => hF a (List.mem_append_left _ z)), h3, rfl⟩
    · have e : TT.frzE (some d :: r) = none :: TT.frzE r := by simp [TT.frzE, hp]
      rw [e]
      exact ⟨some v, s, rfl, h3⟩
end
/-- looked at, not taken -/
theorem s_bor {X : Cx} {Wx : WX} {e : Expr} {ea : M D} (ha : PE X e (SE X.K X.mg Wx ea)) : PE X e (SE X.K X.mg Wx (borM ea)) := PE.weak ha fun s H Q h => by
  obtain ⟨r, F, G, gd, h⟩ := h
  have nd := gd.nd
  refine ⟨frzE r, [], G, ⟨RS.frzE (W := F ++ G) (fun a z => List.mem_append_right _ z) r s F gd.rs (fun a z => by grind [List.nodup_append]), by grind [List.nodup_append], gd.tr⟩, ?_⟩
  unfold borM at h
  cases e : ea (frzE r) with
  | err => rw [e] at h; exact h
  | exc c r' => rw [e] at h; exact h.elim
  | ok d r' =>
    rw [e] at h
    simp only at h
    by_cases hn : d.noFro = true
    case neg => rw [if_neg hn] at h; exact h.elim
    rw [if_pos hn] at h
    intro v H' Fd F' rs p
    have nd' := rs.nd
    have new : ∀ a ∈ Fd, H a = none := fun a z => (p.fp a (List.mem_append_left _ z)).elim (fun z => nomatch z) id
    have hF : ∀ a ∈ F, a ∉ Fd := fun a z y => RS.tracked _ _ _ gd.rs a z (new a y)
    refine h v H' Fd F ⟨RV.noFro d v Fd hn rs.rv, RS.stab p.kp (fun _ z => nomatch z) (fun a z => ?_) _ _ _ gd.rs (fun _ _ z => nomatch z), by grind [List.nodup_append]⟩ ⟨fun a o e _ => p.kp a o e (.inl fun z => nomatch z), p.gr, fun a z => ?_⟩
    · have := new a; grind
    · have := new a; grind

/-! ### what is known of the module's names -/
section
variable (P : Program) (w : World) (K : PySem.W.Frag) (mg : Str → Option Value) (base : Heap)
/-- a def that may be called -/
def Cee (k : Nat) (cl : Cl) (nm : String) (io : List Bool) : Prop := ∃ f fd ps, FnOk P w K mg base (L2.CX P w) k f fd ps (CSp K mg cl nm io) ∧ mg (Str.ofString nm) = some (.ref f) ∧ PySem.W.keepIn K (.ref f) = true ∧ Binds K fd ps []
/-- a constant of the module's -/
def GC (x : String) (d : D) : Prop := ∃ u v, mg (Str.ofString x) = some u ∧ RelV v u ∧ Fixed K mg d v
/-- an exception's class -/
def XC (c : String) : Prop := ∃ (C : Addr) (bmB : List Value) (B newId initId : String), ExcBaseFacts B newId initId bmB ∧ PySem.W.excIn K C bmB newId = true ∧ mg (Str.ofString c) = some (.ref C) ∧ PySem.W.keepIn K (.ref C) = true ∧
  PySem.W.subIn K (.ref C) (.type "BaseException") = some true ∧ PySem.W.typeIn K (.ref C) = some (.type "type")
end
/-- arguments and how they are handed in -/
structure PAA (X : Cx) (Wx : WX) (es : List Expr) (el : M (List AV)) (io : List Bool) : Prop where
  pa : PA X es (SA X.K X.mg Wx el)
  ma : ∀ r as r', el r = .ok as r' → modes as = io
theorem hu65 {k : Nat} {A : Around} (h : Room k A) : A.units + 65 < cLine := by
  have := h.un
  omega
namespace B
section
variable {X : Cx} {Wx : WX} {kp : Nat → Bool} {pos p p2 : Pos} {a b c e : Expr} {es : List Expr} {ea eb ec : M D} {el : M (List D)} {ai : M (List AV)} {tc : M Bool} {i j k : Nat} {io : List Bool} {x : Str}
theorem v (i : Nat) (hN : X.N[i]? = some x := by rfl) (hv : Vis X.env.scope x := by first | exact Or.inl rfl | exact Or.inr (Or.inl rfl) | exact Or.inr (Or.inr rfl)) (hd : (x == ("__debug__" : Str)) = false := by decide) (hcd : (x == ("__classdict__" : Str)) = false := by decide) :
    PE X (.Name x pos) (SE X.K X.mg Wx (readV i)) := s_var hN hv hd hcd
theorem m (i : Nat) (hN : X.N[i]? = some x := by rfl) (hv : Vis X.env.scope x := by first | exact Or.inl rfl | exact Or.inr (Or.inl rfl) | exact Or.inr (Or.inr rfl)) (hd : (x == ("__debug__" : Str)) = false := by decide) (hcd : (x == ("__classdict__" : Str)) = false := by decide) :
    PE X (.Name x pos) (SE X.K X.mg Wx (moveV i)) := s_mv hN hv hd hcd
theorem cI {n : Int} : PE X (.Constant (.int n) j pos) (SE X.K X.mg Wx (pure (.int n))) := s_fixed pe_int fun _ _ => ⟨rfl, rfl⟩
theorem cB {q : Bool} : PE X (.Constant (.bool q) j pos) (SE X.K X.mg Wx (pure (.bl q))) := s_fixed pe_bl fun _ _ => ⟨rfl, rfl⟩
theorem cN : PE X (.Constant .none j pos) (SE X.K X.mg Wx (pure .non)) := s_fixed pe_non fun _ _ => ⟨rfl, rfl⟩
theorem cS (z : String) (hz : decide (z.length ≤ most) = true := by decide) : PE X (.Constant (.str (Str.ofString z)) j pos) (SE X.K X.mg Wx (pure (.str z))) := s_fixed pe_str fun _ _ => ⟨rfl, of_decide_eq_true hz, rfl⟩
theorem gC {z : String} {d : D} (g : GC X.K X.mg z d) (hg : Gl X (Str.ofString z) := by rfl) (hd : (Str.ofString z == ("__debug__" : Str)) = false := by decide) : PE X (.Name (Str.ofString z) pos) (SE X.K X.mg Wx (pure d)) := by
  obtain ⟨u, v, h1, h2, h3⟩ := g
  exact s_fixed (pe_glob hg h1 h2 hd) h3
theorem ty (t : String) {t2 : String} (hm : X.mg (Str.ofString t) = none) (hv : bootBuiltins (Str.ofString t) = some (.type t2) := by rfl) (hg : Gl X (Str.ofString t) := by rfl) (hn : Str.ofString t ≠ "__name__" := by decide) (hd : (Str.ofString t == ("__debug__" : Str)) = false := by decide) :
    PE X (.Name (Str.ofString t) pos) (SE X.K X.mg Wx (pure (.ty t2))) := s_fixed (v := .ty t2) (pe_bltn hg hm hv rfl hn hd) fun _ _ => ⟨rfl, rfl⟩
theorem bin (op : Operator) (ho : OpR X (binaryOp op) (P2 X.K X.mg (binF op))) (ha : PE X a (SE X.K X.mg Wx ea)) (hb : PE X b (SE X.K X.mg Wx eb)) : PE X (.BinOp a op b pos) (SE X.K X.mg Wx (binE op ea eb)) := s_bin ho ha hb
theorem cmp {op : CmpOp} (hu : X.A.units + 65 < cLine) (ha : PE X a (SE X.K X.mg Wx ea)) (hb : PE X b (SE X.K X.mg Wx eb)) (hm : behindInMarks op b = false := by rfl) : PE X (.Compare a [op] [b] pos) (SE X.K X.mg Wx (cmpE op ea eb)) := s_cmp hu ha hb hm
theorem chn {op op' : CmpOp} (hu : X.A.units + 65 < cLine) (ha : PE X a (SE X.K X.mg Wx ea)) (hb : PE X b (SE X.K X.mg Wx eb)) (hc : PE X c (SE X.K X.mg Wx ec)) (hm : lastMarks [op, op'] [b, c] = false := by rfl) :
    PE X (.Compare a [op, op'] [b, c] pos) (SE X.K X.mg Wx (chnM op op' ea eb ec)) := s_chn hu ha hb hc hm
theorem inv (ha : PE X a (SE X.K X.mg Wx ea)) : PE X (.UnaryOp .Not a pos) (SE X.K X.mg Wx (invE ea)) := s_inv ha
theorem neg (ha : PE X a (SE X.K X.mg Wx ea)) : PE X (.UnaryOp .USub a pos) (SE X.K X.mg Wx (negE ea)) := s_neg ha
theorem and_ {rest : List Expr} (ha : PE X a (SE X.K X.mg Wx ea)) (hb : PE X (.BoolOp .And (b :: rest) pos) (SE X.K X.mg Wx eb)) : PE X (.BoolOp .And (a :: b :: rest) pos) (SE X.K X.mg Wx (andE ea eb)) := s_and ha hb
theorem or_ {rest : List Expr} (ha : PE X a (SE X.K X.mg Wx ea)) (hb : PE X (.BoolOp .Or (b :: rest) pos) (SE X.K X.mg Wx eb)) : PE X (.BoolOp .Or (a :: b :: rest) pos) (SE X.K X.mg Wx (orE ea eb)) := s_or ha hb
theorem one {op : BoolOp} (ha : PE X a (SE X.K X.mg Wx ea)) : PE X (.BoolOp op [a] pos) (SE X.K X.mg Wx ea) := s_one ha
theorem ite (hc : PT X c (ST X.K X.mg Wx tc)) (ha : PE X a (SE X.K X.mg Wx ea)) (hb : PE X b (SE X.K X.mg Wx eb)) : PE X (.IfExp c a b pos) (SE X.K X.mg Wx (iteE tc ea eb)) := s_ite hc ha hb
theorem tup (h : PA X es (SL X.K X.mg Wx el)) : PE X (.Tuple es j pos) (SE X.K X.mg Wx (tupE el)) := s_tup h
theorem lst (h : PA X es (SL X.K X.mg Wx el)) : PE X (.List es pos) (SE X.K X.mg Wx (lstE el)) := s_lst h
theorem ix (hu : X.A.units + 65 < cLine) (ha : PE X a (SE X.K X.mg Wx ea)) (hb : PE X b (SE X.K X.mg Wx eb)) (hs : PlainIx b := by exact fun _ _ => rfl) : PE X (.Subscript a b pos) (SE X.K X.mg Wx (ixE ea eb)) := s_ix (by omega) ha hb hs
theorem oN : PO X none (SO X.K X.mg Wx noO) := so_no
theorem oS (ha : PE X a (SE X.K X.mg Wx ea)) : PO X (some a) (SO X.K X.mg Wx (soO ea)) := so_so ha
theorem sl {lo hi : Option Expr} {ml mh : M (Option Int)} (ha : PE X a (SE X.K X.mg Wx ea)) (hl : PO X lo (SO X.K X.mg Wx ml)) (hh : PO X hi (SO X.K X.mg Wx mh)) : PE X (.Subscript a (.Slice lo hi none p2) pos) (SE X.K X.mg Wx (slE ea ml mh)) := s_sl ha hl hh
theorem nilP : PA X [] (SL X.K X.mg Wx nilL) := sl_nil
theorem consP (ha : PE X e (SE X.K X.mg Wx ea)) (hl : PA X es (SL X.K X.mg Wx el)) (hs : starEach (e :: es) X.env = (false, eval e X.env) :: starEach es X.env := by rfl) : PA X (e :: es) (SL X.K X.mg Wx (consL ea el)) := sl_cons ha hl hs
theorem blt (b : Bl) (hm : X.mg (Str.ofString b.nm) = none) (ha : PA X (e :: es) (SL X.K X.mg Wx el)) (hb : b.fine = true := by rfl) (hc : b.needs = true → X.calm = true := by intro _; rfl) (hg : Gl X (Str.ofString b.nm) := by rfl)
    (he : starEach (e :: es) X.env = (false, eval e X.env) :: starEach es X.env := by rfl) (hpl : (backTo pos (starEach es X.env)).any (·.1) = false := by rfl) : PE X (.Call (.Name (Str.ofString b.nm) p) (e :: es) [] pos) (SE X.K X.mg Wx (bltE b el)) := s_blt b hb hc hg hm ha he hpl
theorem bmt (m : Bm) {o : Expr} {apos : Pos} (ho : PE X o (SE X.K X.mg Wx ea)) (ha : PA X (e :: es) (SL X.K X.mg Wx el)) (hm : m.fine = true := by rfl)
    (hbase : attributeBase o (Str.ofString m.nm) X.env (eval o X.env) = eval o X.env := by rfl)
    (hfew : ((backTo pos (starEach (e :: es) X.env)).all (fun x => !x.1) && (backToKw pos (keywordEach [] X.env)).all (fun x => x.1.isSome)
      && decide ((e :: es).length + ([] : List Keyword).length + (if ([] : List Keyword).isEmpty then 0 else 1) < 30)) = true := by rfl)
    (hline : (apos.endLine == pos.line) = true := by rfl) (hs : starEach (e :: es) X.env = (false, eval e X.env) :: starEach es X.env := by rfl) (hplain : (backTo pos (starEach es X.env)).any (·.1) = false := by rfl) :
    PE X (.Call (.Attribute o (Str.ofString m.nm) apos) (e :: es) [] pos) (SE X.K X.mg Wx (bmtE m ea el)) := s_bmt hm ho ha hbase hfew hline hs hplain
theorem mt (m : Mu) (i : Nat) {apos : Pos} (ha : PA X (e :: es) (SL X.K X.mg Wx el)) (hm : m.fine = true := by rfl) (hN : X.N[i]? = some x := by rfl) (hv : Vis X.env.scope x := by first | exact Or.inl rfl | exact Or.inr (Or.inl rfl) | exact Or.inr (Or.inr rfl)) (hd : (x == ("__debug__" : Str)) = false := by decide)
    (hcd : (x == ("__classdict__" : Str)) = false := by decide) (hbase : attributeBase (.Name x p) (Str.ofString m.nm) X.env (eval (.Name x p) X.env) = eval (.Name x p) X.env := by rfl)
    (hfew : ((backTo pos (starEach (e :: es) X.env)).all (fun x => !x.1) && (backToKw pos (keywordEach [] X.env)).all (fun x => x.1.isSome)
      && decide ((e :: es).length + ([] : List Keyword).length + (if ([] : List Keyword).isEmpty then 0 else 1) < 30)) = true := by rfl)
    (hline : (apos.endLine == pos.line) = true := by rfl) (hs : starEach (e :: es) X.env = (false, eval e X.env) :: starEach es X.env := by rfl) (hplain : (backTo pos (starEach es X.env)).any (·.1) = false := by rfl) :
    PE X (.Call (.Attribute (.Name x p) (Str.ofString m.nm) apos) (e :: es) [] pos) (SE X.K X.mg Wx (mutE m i el)) := s_mut hm hN hv hd hcd ha hbase hfew hline hs hplain
theorem a0 : PAA X Wx [] nilA [] := ⟨sa_nil, fun r as r' h => by cases h; rfl⟩
theorem aV (ha : PE X e (SE X.K X.mg Wx ea)) (hl : PAA X Wx es ai io) (hs : starEach (e :: es) X.env = (false, eval e X.env) :: starEach es X.env := by rfl) : PAA X Wx (e :: es) (valA ea ai) (false :: io) := ⟨sa_val ha hl.pa hs, fun r as r' h => by
  simp only [M.bind_def] at h
  cases h1 : ea r with
  | err => rw [h1] at h; cases h
  | exc c r' => rw [h1] at h; cases h
  | ok d r1 =>
    rw [h1] at h
    simp only at h
    unfold TT.pureM at h
    by_cases hp : d.frz.pur = true
    case neg => rw [if_neg hp] at h; cases h
    rw [if_pos hp] at h
    simp only [M.pure_def] at h
    cases h2 : ai r1 with
    | err => rw [h2] at h; cases h
    | exc c r' => rw [h2] at h; cases h
    | ok q r2 => rw [h2] at h; cases h; exact congrArg _ (hl.ma _ _ _ h2)⟩
theorem aT (ha : PE X e (SE X.K X.mg Wx ea)) (hl : PAA X Wx es ai io) (hs : starEach (e :: es) X.env = (false, eval e X.env) :: starEach es X.env := by rfl) : PAA X Wx (e :: es) (tmpA ea ai) (true :: io) := ⟨sa_tmp ha hl.pa hs, fun r as r' h => by
  simp only [M.bind_def] at h
  cases h1 : ea r with
  | err => rw [h1] at h; cases h
  | exc c r' => rw [h1] at h; cases h
  | ok d r1 =>
    rw [h1] at h
    simp only at h
    cases h2 : ai r1 with
    | err => rw [h2] at h; cases h
    | exc c r' => rw [h2] at h; cases h
    | ok q r2 => rw [h2] at h; cases h; exact congrArg _ (hl.ma _ _ _ h2)⟩
theorem aI (i : Nat) (hl : PAA X Wx es ai io) (hN : X.N[i]? = some x := by rfl) (hv : Vis X.env.scope x := by first | exact Or.inl rfl | exact Or.inr (Or.inl rfl) | exact Or.inr (Or.inr rfl)) (hd : (x == ("__debug__" : Str)) = false := by decide) (hcd : (x == ("__classdict__" : Str)) = false := by decide)
    (hs : starEach (.Name x p :: es) X.env = (false, eval (.Name x p) X.env) :: starEach es X.env := by rfl) : PAA X Wx (.Name x p :: es) (ioA i ai) (true :: io) := ⟨sa_io hN hv hd hcd hl.pa hs, fun r as r' h => by
  simp only [M.bind_def] at h
  unfold hereM at h
  cases h1 : getS r i with
  | none => rw [h1] at h; cases h
  | some d =>
    rw [h1] at h
    simp only at h
    cases h2 : ai r with
    | err => rw [h2] at h; cases h
    | exc c r' => rw [h2] at h; cases h
    | ok q r2 => rw [h2] at h; cases h; exact congrArg _ (hl.ma _ _ _ h2)⟩
theorem call {cl : Cl} {nm : String} (C : Cee X.prog X.w X.K X.mg X.base k cl nm io) (hr : Room k X.A) (tk : Takes X Wx) (ha : PAA X Wx (e :: es) ai io) (hg : Gl X (Str.ofString nm) := by rfl) (hdb : (Str.ofString nm == ("__debug__" : Str)) = false := by decide)
    (he : starEach (e :: es) X.env = (false, eval e X.env) :: starEach es X.env := by rfl) (hpl : (backTo pos (starEach es X.env)).any (·.1) = false := by rfl) : PE X (.Call (.Name (Str.ofString nm) p) (e :: es) [] pos) (SE X.K X.mg Wx (callE cl nm ai)) := by
  obtain ⟨f, fd, ps, F, h1, h2, h3⟩ := C
  exact s_call F hr hg h1 h2 h3 tk ha.pa ha.ma hdb he hpl
theorem bor (ha : PE X e (SE X.K X.mg Wx ea)) : PE X e (SE X.K X.mg Wx (borM ea)) := s_bor ha
/-! tests -/
variable {ta tb : M Bool}
theorem tV (ha : PE X a (SE X.K X.mg Wx ea)) (he : ∀ whole, isTrue a X.env whole = (do let v ← whole; standAt a.pos; holding [v] (truthy v)) := by intro _; rfl) : PT X a (ST X.K X.mg Wx (valT ea)) := t_val ha he
theorem tC {op : CmpOp} (hu : X.A.units + 65 < cLine) (ha : PE X a (SE X.K X.mg Wx ea)) (hb : PE X b (SE X.K X.mg Wx eb)) (hm : behindInMarks op b = false := by rfl) : PT X (.Compare a [op] [b] pos) (ST X.K X.mg Wx (valT (cmpE op ea eb))) := t_cmp hu ha hb hm
theorem tN (ha : PT X a (ST X.K X.mg Wx ta)) : PT X (.UnaryOp .Not a pos) (ST X.K X.mg Wx (notT ta)) := t_not ha
theorem tA {rest : List Expr} (ha : PT X a (ST X.K X.mg Wx ta)) (hb : PW X (.BoolOp .And (b :: rest) pos) (ST X.K X.mg Wx tb)) : PT X (.BoolOp .And (a :: b :: rest) pos) (ST X.K X.mg Wx (andT ta tb)) := t_and ha hb
theorem tO {rest : List Expr} (ha : PT X a (ST X.K X.mg Wx ta)) (hb : PW X (.BoolOp .Or (b :: rest) pos) (ST X.K X.mg Wx tb)) : PT X (.BoolOp .Or (a :: b :: rest) pos) (ST X.K X.mg Wx (orT ta tb)) := t_or ha hb
theorem wA {rest : List Expr} (ha : PT X a (ST X.K X.mg Wx ta)) (hb : PW X (.BoolOp .And (b :: rest) pos) (ST X.K X.mg Wx tb)) : PW X (.BoolOp .And (a :: b :: rest) pos) (ST X.K X.mg Wx (andT ta tb)) := pw_of (t_and ha hb)
theorem wO {rest : List Expr} (ha : PT X a (ST X.K X.mg Wx ta)) (hb : PW X (.BoolOp .Or (b :: rest) pos) (ST X.K X.mg Wx tb)) : PW X (.BoolOp .Or (a :: b :: rest) pos) (ST X.K X.mg Wx (orT ta tb)) := pw_of (t_or ha hb)
theorem w1A (ha : PT X a (ST X.K X.mg Wx ta)) : PW X (.BoolOp .And [a] pos) (ST X.K X.mg Wx ta) := pw_and1 ha
theorem w1O (ha : PT X a (ST X.K X.mg Wx ta)) : PW X (.BoolOp .Or [a] pos) (ST X.K X.mg Wx ta) := pw_or1 ha
/-! walks and targets -/
variable {tg : Expr}
theorem iS (ha : PE X e (SE X.K X.mg Wx ea)) : PI X tg e (SI X.K X.mg Wx (sqI ea)) := i_seq ha
theorem iR (hm : X.mg "range" = none) (ha : PE X e (SE X.K X.mg Wx ea)) (hg : Gl X "range" := by rfl) (hs : starEach [e] X.env = [(false, eval e X.env)] := by rfl) : PI X tg (.Call (.Name "range" p) [e] [] pos) (SI X.K X.mg Wx (rngI ea)) := i_rng1 hg hm ha hs
theorem iE {elts : List Expr} {kk : Nat} {tpos : Pos} (hm : X.mg "enumerate" = none) (ha : PE X e (SE X.K X.mg Wx ea)) (hg : Gl X "enumerate" := by rfl) (hs : starEach [e] X.env = [(false, eval e X.env)] := by rfl) :
    PI X (.Tuple elts kk tpos) (.Call (.Name "enumerate" p) [e] [] pos) (SI X.K X.mg Wx (enumI ea)) := i_enum (q := pos) hg hm ha hs
theorem g1 (i : Nat) (hN : X.N.Nodup) (hi : X.N[i]? = some x := by rfl) (hx : Loc X.env.scope x := by first | exact Or.inl rfl | exact Or.inr rfl) (hf : X.fn x = true ∨ X.env.scope.names.lookup x = some .local := by first | exact Or.inl rfl | exact Or.inr rfl) (hk : kp i = false := by rfl) :
    PG X (.Name x pos) (GT X.K X.mg kp (tgtM [i] true)) := g_one hN hi hx hf hk
theorem gN : PGs X [] (GTs X.K X.mg kp []) := gs_nil
theorem gS {is : List Nat} {tgs : List Expr} (i : Nat) (hN : X.N.Nodup) (h2 : PGs X tgs (GTs X.K X.mg kp is)) (hi : X.N[i]? = some x := by rfl) (hx : Loc X.env.scope x := by first | exact Or.inl rfl | exact Or.inr rfl) (hf : X.fn x = true ∨ X.env.scope.names.lookup x = some .local := by first | exact Or.inl rfl | exact Or.inr rfl) (hk : kp i = false := by rfl)
    (hs : (assignEach (.Name x pos :: tgs) X.env).map (·.2) = assign (.Name x pos) X.env :: (assignEach tgs X.env).map (·.2) := by rfl) : PGs X (.Name x pos :: tgs) (GTs X.K X.mg kp (i :: is)) := gs_cons hN hi hx hf hk h2 hs
theorem gT {is : List Nat} {tgs : List Expr} {kk : Nat} (h : PGs X tgs (GTs X.K X.mg kp is)) (hc : X.calm = true := by rfl) (hn : (assignEach tgs X.env).length = is.length := by rfl) (hst : (assignEach tgs X.env).findIdx? (·.1) = none := by rfl) : PG X (.Tuple tgs kk pos) (GT X.K X.mg kp (tgtM is false)) := g_tup hc h hn hst
/-! statements -/
variable {st : Stmt} {sts body : List Stmt} {e1 e2 fb : M Fl} {ei : M (List D)}
theorem n0 : PSs X [] (SS X.K X.mg Wx kp nxS) := ss_nil
theorem n1 (h1 : PS X st (SS X.K X.mg Wx kp e1)) (h2 : PSs X sts (SS X.K X.mg Wx kp e2)) : PSs X (st :: sts) (SS X.K X.mg Wx kp (seqM e1 e2)) := ss_cons h1 h2
theorem ret (ha : PE X e (SE X.K X.mg Wx ea)) : PS X (.Return (some e) pos) (SS X.K X.mg Wx kp (retS ea)) := ss_ret ha
theorem set (i : Nat) (hN : X.N.Nodup) {pos' : Pos} (ha : PE X e (SE X.K X.mg Wx ea)) (hi : X.N[i]? = some x := by rfl) (hx : Loc X.env.scope x := by first | exact Or.inl rfl | exact Or.inr rfl) (hf : X.fn x = true ∨ X.env.scope.names.lookup x = some .local := by first | exact Or.inl rfl | exact Or.inr rfl)
    (hk : kp i = false := by rfl) (hs : swapsWith e (some (.Name x pos')) pos.line X.env = pure false := by rfl) : PS X (.Assign [.Name x pos'] e pos) (SS X.K X.mg Wx kp (setE i ea)) := ss_set hN hi hx hf hk ha hs
theorem exp (ha : PE X e (SE X.K X.mg Wx ea)) (hs : swapsWith e none pos.line X.env = pure false := by rfl) : PS X (.Expr e pos) (SS X.K X.mg Wx kp (expS ea)) := ss_exp ha hs
theorem cond {s1 s2 : List Stmt} (hc : PT X c (ST X.K X.mg Wx tc)) (ha : PSs X s1 (SS X.K X.mg Wx kp e1)) (hb : PSs X s2 (SS X.K X.mg Wx kp e2)) : PS X (.If c s1 s2 pos) (SS X.K X.mg Wx kp (iteS tc e1 e2)) := ss_ite hc ha hb
theorem for_ {ts : List Nat} {one : Bool} (hp : PassesOwn (model X.prog X.w) X.A X.env X.xe) (hi : PI X tg e (SI X.K X.mg Wx ei)) (hg : PG X tg (GT X.K X.mg kp (tgtM ts one))) (hb : PSs X body (SS X.K X.mg Wx kp fb)) (hc : X.calm = true := by rfl)
    (hs : ∀ x, foldedSetIterable e X.env x = pure x := by intro _; rfl) : PS X (.For tg e body [] pos) (SS X.K X.mg Wx kp (forS ts one ei fb)) := ss_for hp hc hi hg hb hs
theorem whl (hp : PassesOwn (model X.prog X.w) X.A X.env X.xe) (hc : PT X c (ST X.K X.mg Wx tc)) (hb : PSs X body (SS X.K X.mg Wx kp fb)) : PS X (.While c body [] pos) (SS X.K X.mg Wx kp (whileM tc fb)) := ss_whl hp hc hb
theorem raise {c : String} {m : Str} {pos2 : Pos} (C : XC X.K X.mg c) (tk : Takes X Wx) (hc : X.calm = true := by rfl) (hg : Gl X (Str.ofString c) := by rfl) (hdb : (Str.ofString c == ("__debug__" : Str)) = false := by decide) :
    PS X (.Raise (some (.Call (.Name (Str.ofString c) p) [.Constant (.str m) j p2] [] pos)) none pos2) (SS X.K X.mg Wx kp (raiseS c)) := by
  obtain ⟨C, bmB, B, n1, n2, h1, h2, h3, h4, h5, h6⟩ := C
  exact ss_raise hc tk h1 h2 h3 rfl h4 (raises_own h5 h6) hg hdb

/-! comprehensions -/
variable {elt iter : Expr} {ifs : List Expr} {scope : Scope} {ts : List Nat} {on : Bool} {spos py : Pos} {y : Str}
theorem q0 : PTs X [] (ST X.K X.mg Wx allT) := ts_nil
theorem q1 (h : PT X e (ST X.K X.mg Wx tc)) : PTs X [e] (ST X.K X.mg Wx tc) := ts_one h
theorem lc (own : List (Str × Nat)) (hN : X.N.Nodup) (hi : PI X tg iter (SI X.K X.mg Wx ei))
    (hg : ∀ (s : Shared) (H : Hp) (C : Addr) (cl : List (Str × Addr)) (fp : List Addr), PG (X.blk s H scope (compEnvC scope cl C X.env) fp) tg (GT X.K X.mg (outK (own.map (·.2))) (tgtM ts on)))
    (ht : ∀ (s : Shared) (H : Hp) (C : Addr) (cl : List (Str × Addr)) (fp : List Addr), PTs (X.blk s H scope (compEnvC scope cl C X.env) fp) ifs (ST X.K X.mg W0 tc))
    (he : ∀ (s : Shared) (H : Hp) (C : Addr) (cl : List (Str × Addr)) (fp : List Addr), PE (X.blk s H scope (compEnvC scope cl C X.env) fp) elt (SE X.K X.mg W0 ea))
    (ok : blkC X.N X.env.scope scope own = true := by kernel_rfl) (hc : X.calm = true := by rfl) (hs : ∀ x, foldedSetIterable iter X.env x = pure x := by intro _; rfl) :
    PE X (.ListComp elt [⟨tg, iter, ifs, 0⟩] scope pos) (SE X.K X.mg Wx (lcE (own.map (·.2)) ts on ei tc ea)) := s_lc hc hN hi (blkOk_by ok) hg ht he hs
theorem setLc (i : Nat) (own : List (Str × Nat)) (hN : X.N.Nodup) (hi : PI X tg iter (SI X.K X.mg Wx ei))
    (hg : ∀ (s : Shared) (H : Hp) (C : Addr) (cl : List (Str × Addr)) (fp : List Addr), PG (X.blk s H scope (compEnvC scope cl C X.env) fp) tg (GT X.K X.mg (outK (own.map (·.2))) (tgtM ts on)))
    (ht : ∀ (s : Shared) (H : Hp) (C : Addr) (cl : List (Str × Addr)) (fp : List Addr), PTs (X.blk s H scope (compEnvC scope cl C X.env) fp) ifs (ST X.K X.mg W0 tc))
    (he : ∀ (s : Shared) (H : Hp) (C : Addr) (cl : List (Str × Addr)) (fp : List Addr), PE (X.blk s H scope (compEnvC scope cl C X.env) fp) elt (SE X.K X.mg W0 ea))
    (hsw : swapsWith (.ListComp elt [⟨tg, iter, ifs, 0⟩] scope pos) (some (.Name y py)) spos.line X.env = pure true)
    (ok : blkC X.N X.env.scope scope own = true := by kernel_rfl) (hy : X.N[i]? = some y := by rfl) (hyl : X.env.scope.names.lookup y = some .local := by rfl) (hk : kp i = false := by rfl) (hc : X.calm = true := by rfl) (hs : ∀ x, foldedSetIterable iter X.env x = pure x := by intro _; rfl) :
    PS X (.Assign [.Name y py] (.ListComp elt [⟨tg, iter, ifs, 0⟩] scope pos) spos) (SS X.K X.mg Wx kp (setE i (lcE (own.map (·.2)) ts on ei tc ea))) := ss_setLc hc hN hy hyl hk hsw hi (blkOk_by ok) hg ht he hs
/-! try -/
theorem try_ {cs : List (String × Bool)} {suite : List Stmt} {b₀ : Stmt} {np pos' : Pos} {xn : String} {eb eh : M Fl} {C : Addr} (hC : X.mg (Str.ofString xn) = some (.ref C)) (hk : CatchOk X.K X.mg cs (.ref C)) (tk : Takes X Wx)
    (hb : ∀ (W : WX) (pn : List (Addr × Obj)) (xe : Value → Shared → Prop), Takes (X.tr pn xe) W → PassesOwn (model X.prog X.w) X.A X.env xe → PSs (X.tr pn xe) body (SS X.K X.mg W kp eb))
    (hsu : ∀ (a : Addr) (oe : Obj) (pn : List (Addr × Obj)), PSs (X.suite a ((a, oe) :: pn)) (b₀ :: suite) (SS X.K X.mg W0 kp eh))
    (hg : Gl X (Str.ofString xn) := by rfl) (hd : (Str.ofString xn == ("__debug__" : Str)) = false := by decide) (hs : X.stack = X.env :: X.outer := by rfl) (hf : X.env.frame = some X.env.locals := by rfl) :
    PS X (.Try body [.ExceptHandler (some (.Name (Str.ofString xn) np)) none (b₀ :: suite) pos'] [] [] pos) (SS X.K X.mg Wx kp (tryM cs eb eh)) := ss_try hs hf ⟨hg, hd, .inl hC⟩ hk tk hb hsu
end
end B
end TT
set_option Elab.async false
set_option linter.all false
/-! TU: what the top has written; the law's own call -/
namespace TT
open PySem PySem.Spec PySem.StrLaws L2
section
variable {P : Program} {w : World} {K : PySem.W.Frag} {mg : Str → Option Value} {base : Heap} {h : Heap}
/-- a def of the module's as the top has written it -/
def FD (K : PySem.W.Frag) (mg : Str → Option Value) (x : String) (st : Stmt) (ps : List Str) : Prop := ∃ f fd, Fun K (Str.ofString x) (Str.ofString x) st f fd ∧ mg (Str.ofString x) = some (.ref f) ∧ Binds K fd ps []
theorem fd_mk {x : String} {st : Stmt} {ps : List Str} {f : Addr} {oc : Value} {od an : Option Addr} {osl : Array (Option Value)} {kV dc pm cd ct : Value} (X : K.In h) (G : h.Ns mainGlobals mg) (a : PySem.W.nsIn K mainGlobals (Str.ofString x) = some (some (.ref f)))
    (l : K.lookup f = some ⟨oc, od, .func (PySem.W.fnOf (Str.ofString x) (Str.ofString x) (defArgs st) (defBody st) (defScope st) .none kV dc pm an cd ct), osl⟩) (c : PySem.W.codeIn K cd (Str.ofString x) = true) (k : PySem.W.keepIn K (.ref f) = true)
    (hb : ∀ (kV doc pm : Value) (an : Option Addr) (cdv ct : Value) (us : List Value), us.length = ps.length → bindArgs (PySem.W.fnOf (Str.ofString x) (Str.ofString x) (defArgs st) (defBody st) (defScope st) .none kV doc pm an cdv ct) ⟨us, []⟩ = pure (ps.zip us)) : FD K mg x st ps :=
  ⟨f, _, fun_mk l c k, PySem.W.mg_of X G a, (fun_mk l c k).binds hb⟩
theorem fn_zero {x : String} {st : Stmt} {ps : List Str} {io : List Bool} {tbl : String → Option Fn} (hps : ps.length = io.length) (F : FD K mg x st ps) : Cee P w K mg base 0 (runT tbl 0) x io := by
  obtain ⟨f, fd, F, m, b⟩ := F
  refine ⟨f, fd, ps, ⟨fun vs H Q E h => by rw [hps]; exact CSp.len h, fun A outer s H args us vs Q E _ _ _ _ h => ?_⟩, m, F.kp, b⟩
  obtain ⟨ds, F1, G, _, _, _, _, h⟩ := h
  exact h.elim
theorem fn_succ {x : String} {st : Stmt} {ps : List Str} {io : List Bool} {k : Nat} {cl : Cl} (F : FD K mg x st ps) (h : ∀ f fd, Fun K (Str.ofString x) (Str.ofString x) st f fd → FnOk P w K mg base (L2.CX P w) k f fd ps (CSp K mg cl x io)) : Cee P w K mg base k cl x io := by
  obtain ⟨f, fd, F, m, b⟩ := F
  exact ⟨f, fd, ps, h f fd F, m, F.kp, b⟩
/-! constants -/
theorem gc_str {x s : String} {t : Tok} (X : K.In h) (G : h.Ns mainGlobals mg) (a : PySem.W.nsIn K mainGlobals (Str.ofString x) = some (some (.str (Str.ofString s) t))) (hz : decide (s.length ≤ most) = true := by decide) : GC K mg x (.str s) :=
  ⟨_, .str (Str.ofString s), PySem.W.mg_of X G a, ⟨t, rfl⟩, fun _ _ => ⟨rfl, of_decide_eq_true hz, rfl⟩⟩
theorem gc_int {x : String} {i : Int} {t : Tok} (X : K.In h) (G : h.Ns mainGlobals mg) (a : PySem.W.nsIn K mainGlobals (Str.ofString x) = some (some (.int i t))) : GC K mg x (.int i) :=
  ⟨_, .int i, PySem.W.mg_of X G a, ⟨t, rfl⟩, fun _ _ => ⟨rfl, rfl⟩⟩
def isStrs : List String → List Value → Bool
  | [], [] => true
  | s :: ss, .str z _ :: vs => decide (z = Str.ofString s) && isStrs ss vs
  | _, _ => false
theorem isStrs_vals : ∀ {ss : List String} {us : List Value}, isStrs ss us = true → Vals ((ss.map Str.ofString).map V.str) us
  | [], [], _ => .nil
  | s :: ss, u :: us, h => by
    cases u <;> simp only [isStrs, Bool.and_eq_true, decide_eq_true_eq] at h <;> try (cases h; done)
    obtain ⟨rfl, h⟩ := h
    exact .cons ⟨_, rfl⟩ (isStrs_vals h)
  | [], _ :: _, h => by cases h
  | _ :: _, [], h => by cases h
theorem gc_strs {x : String} {ss : List String} {a : Addr} {dd : Option Addr} {its : Array Value} {n : Nat} {osl : Array (Option Value)} (X : K.In h) (G : h.Ns mainGlobals mg) (a1 : PySem.W.nsIn K mainGlobals (Str.ofString x) = some (some (.ref a)))
    (l : K.lookup a = some ⟨.type "tuple", dd, .seq its n, osl⟩) (hs : isStrs ss its.toList = true) (hl : decide (ss.length ≤ 1000) = true := by decide) (hz : ss.all (fun s => decide (s.length ≤ most)) = true := by decide) : GC K mg x (.tup (ss.map .str)) := by
  have v := isStrs_vals hs
  have hl := of_decide_eq_true hl
  have hn : its.size ≤ sizeLine := by
    have := v.length
    simp at this
    rw [← this]
    exact Nat.le_trans hl (by decide)
  refine ⟨_, .ref a, PySem.W.mg_of X G a1, rfl, fun H W => ⟨a, _, rfl, .inr ⟨_, its, n, l, rfl, rfl, hn, v⟩, ?_, RL.ofStrs fun s hs => ?_⟩⟩
  · rw [List.length_map]; exact Nat.le_trans hl (by decide)
  · exact of_decide_eq_true (List.all_eq_true.mp hz s hs)
/-! classes of exceptions -/
theorem xc_val {c : String} {C : Addr} (X : K.In h) (G : h.Ns mainGlobals mg) (a : PySem.W.nsIn K mainGlobals (Str.ofString c) = some (some (.ref C))) (e : PySem.W.excIn K C [.type "ValueError", .type "Exception", .type "BaseException", .type "object"] "ValueError.__new__" = true)
    (k : PySem.W.keepIn K (.ref C) = true) (s : PySem.W.subIn K (.ref C) (.type "BaseException") = some true) (t : PySem.W.typeIn K (.ref C) = some (.type "type")) : XC K mg c :=
  ⟨C, _, _, _, _, PySem.F.excBase_ValueError, e, PySem.W.mg_of X G a, k, s, t⟩
theorem exm_of {C S : Addr} {b : Bool} (h1 : PySem.W.subIn K (.ref S) (.type "BaseException") = some true) (h2 : PySem.W.isClsIn K S = true) (h3 : PySem.W.typeIn K (.ref S) = some (.type "type")) (h4 : PySem.W.subIn K (.ref C) (.ref S) = some b) : PySem.W.exmOne K (.ref C) (.ref S) = some b := by
  have e2 : ((PySem.W.clsIn K S).isSome && PySem.W.typeIn K (.ref S) == some (.type "type")) = true := by
    have h2' : (PySem.W.clsIn K S).isSome = true := h2
    rw [h2', h3]; rfl
  unfold PySem.W.exmOne PySem.W.kitCls
  rw [h1]
  simp only [e2, if_true]
  rw [if_pos (by rfl)]
  exact h4
def CatchS (K : PySem.W.Frag) (mg : Str → Option Value) (S : Addr) (cs : List (String × Bool)) : Prop := ∀ p ∈ cs, ∀ C, Glo mg p.1 C → PySem.W.subIn K (.ref C) (.ref S) = some p.2
theorem catch_nil {S : Addr} : CatchS K mg S [] := fun _ h => nomatch h
theorem catch_cons {cs : List (String × Bool)} {x : String} {b : Bool} {C S : Addr} (X : K.In h) (G : h.Ns mainGlobals mg) (a : PySem.W.nsIn K mainGlobals (Str.ofString x) = some (some (.ref C))) (e : PySem.W.subIn K (.ref C) (.ref S) = some b) (r : CatchS K mg S cs) : CatchS K mg S ((x, b) :: cs) := fun p hp D g => by
  rcases List.mem_cons.mp hp with rfl | hp
  · have : some (Value.ref C) = some (.ref D) := (PySem.W.mg_of X G a).symm.trans g
    cases this
    exact e
  · exact r p hp D g
theorem catch_end {cs : List (String × Bool)} {x : String} {S : Addr} (X : K.In h) (G : h.Ns mainGlobals mg) (a : PySem.W.nsIn K mainGlobals (Str.ofString x) = some (some (.ref S))) (h1 : PySem.W.subIn K (.ref S) (.type "BaseException") = some true) (h2 : PySem.W.isClsIn K S = true)
    (h3 : PySem.W.typeIn K (.ref S) = some (.type "type")) (r : CatchS K mg S cs) : ∃ A, mg (Str.ofString x) = some (.ref A) ∧ CatchOk K mg cs (.ref A) := ⟨S, PySem.W.mg_of X G a, fun p hp C g => exm_of h1 h2 h3 (r p hp C g)⟩
/-! the law -/
def spLaw (K : PySem.W.Frag) : Sp := fun vs H Q _ => ∃ (a : Addr) (ns : List Int), vs = [.ref a] ∧ ns.length ≤ 63 ∧ Only H ∧ SqL K H a (ns.map V.int) ∧ ∀ H', Q (.bl true) H'
theorem sp_law {x : String} {cl : Cl} (hv : ∀ ns : List Int, ns.length ≤ 63 → cl x [.scr ns] = .ok (.bl true) []) (vs : List V) (H : Hp) (Q : VK) (E : XK) (h : spLaw K vs H Q E) : CSp K mg cl x [false] vs H Q E := by
  obtain ⟨a, ns, rfl, hl, hO, hS, q⟩ := h
  have hm : ns.length ≤ most := Nat.le_trans hl (by decide)
  have hr : (∃ o, H a = some (.frz o (.lst (ns.map V.int)))) ∨ KLst K a (ns.map V.int) := by
    rcases hS with (h | h) | h
    · rcases hO a with z | ⟨o, xs, z⟩ <;> rw [z] at h <;> cases h
    · exact .inl h
    · exact .inr h
  refine ⟨[.scr ns], [], [], ⟨.ref a, [], [], [], rfl, ⟨a, rfl, hr, hm, rfl⟩, ⟨rfl, rfl⟩, rfl⟩, List.nodup_nil, fun _ z => (nomatch z), rfl, ?_⟩
  rw [hv ns hl]
  intro v H' Fd Fo rv _ _ _
  obtain ⟨rfl, _⟩ := rv
  exact q H'
theorem law_end {x : Str} {n : Nat} {cl : Cl} {st : Stmt} {f fa : Addr} {oc : Value} {od an : Option Addr} {osl : Array (Option Value)} {kV dc pm cd ct : Value} (X : K.In h) (G : h.Ns mainGlobals mg) (hfa : mg "law" = some (.ref fa)) (a : PySem.W.nsIn K mainGlobals "law" = some (some (.ref f)))
    (l : K.lookup f = some ⟨oc, od, .func (PySem.W.fnOf "law" "law" (defArgs st) (defBody st) (defScope st) .none kV dc pm an cd ct), osl⟩) (c : PySem.W.codeIn K cd "law" = true) (k : PySem.W.keepIn K (.ref f) = true)
    (hb : ∀ (kV doc pm : Value) (an : Option Addr) (cdv ct : Value) (us : List Value), us.length = [x].length → bindArgs (PySem.W.fnOf "law" "law" (defArgs st) (defBody st) (defScope st) .none kV doc pm an cdv ct) ⟨us, []⟩ = pure ([x].zip us))
    (hF : ∀ base f fd, Fun K "law" "law" st f fd → FnOk P w K mg base (L2.CX P w) n f fd [x] (CSp K mg cl "law" [false])) (hv : ∀ ns : List Int, ns.length ≤ 63 → cl "law" [.scr ns] = .ok (.bl true) []) :
    ∃ fd : FuncData, (∀ (s : Shared) (v : Value), BindsTo s fd ⟨[v], []⟩ [(x, v)]) ∧ ∀ base : Heap, K.In base → base.Ns mainGlobals mg → FnOk P w K mg base (L2.CX P w) n fa fd [x] (spLaw K) := by
  have e := hfa.symm.trans (PySem.W.mg_of X G a)
  cases e
  exact ⟨_, fun s v => .of_eq (hb _ _ _ _ _ _ [v] rfl), fun base _ _ => (hF base _ _ (fun_mk l c k)).imp (sp_law hv)⟩
theorem no_exc {P : Program} (w : World) (H : Hp) (s : Shared) (e : Value) (s' : Shared) (h : L2.CX P w [] H s (fun _ _ _ => False) e s') : False := by
  obtain ⟨_, _, _, _, _, _, _, _, _, _, _, _, z⟩ := h
  exact z
/-! the written part by a fact of it -/
abbrev GCX (_ : K.In h) (mg : Str → Option Value) (x : String) (d : D) : Prop := GC K mg x d
abbrev XCX (_ : K.In h) (mg : Str → Option Value) (x : String) : Prop := XC K mg x
abbrev CatchX (_ : K.In h) (mg : Str → Option Value) (cs : List (String × Bool)) (c : Value) : Prop := CatchOk K mg cs c
abbrev FDX (_ : K.In h) (mg : Str → Option Value) (x : String) (st : Stmt) (ps : List Str) : Prop := FD K mg x st ps
abbrev OfX {α : Sort _} (_ : K.In h) (f : PySem.W.Frag → α) : α := f K
end
end TT
set_option Elab.async false
set_option linter.all false
set_option maxRecDepth 100000
namespace TT
open PySem PySem.Spec PySem.StrLaws L2
abbrev PG : Program := PySem.Challenge.pw_ticktree_k25_whole_texts
def topS (i : Nat) : Stmt := PG.main.body.getD i (.Pass ⟨0, 0, 0, 0⟩)
def c_LETTERS : D := .str "abcdefghijklmnopqrstuvwxyz"
def c_FLAGS : D := .str "abc"
def c_TICKS : D := .int 4
def c_TIMES : D := .int 4
def c_DEEP : D := .int 5
def c_SIZE : D := .int 14
def c_ENDS : D := .tup [.str "yes", .str "no"]
def c_MANY_KINDS : D := .tup [.str "row", .str "choice", .str "row anew", .str "choice anew"]
def c_ONE_KINDS : D := .tup [.str "not", .str "yes", .str "no", .str "keep"]
def c_COUNT_KINDS : D := .tup [.str "again", .str "till", .str "hold"]
def c_FIGURES : D := .str "0123456789"
def k_TreeError : List (String × Bool) := [("NoTree", true), ("NoText", true)]
noncomputable def b_p_is_whole (cl : Cl) : M Fl := seqM (retS (andE (bltE .isinstance (consL (readV 0) (consL (pure (.ty "int")) (nilL)))) (andE (invE (bltE .isinstance (consL (readV 0) (consL (pure (.ty "bool")) (nilL))))) (chnM .LtE .LtE (readV 1) (readV 0) (readV 2))))) (nxS)
noncomputable def f_p_is_whole : Fn := ⟨[false, false, false], 3, b_p_is_whole⟩
noncomputable def b_p_is_word (cl : Cl) : M Fl := seqM (retS (andE (bltE .isinstance (consL (readV 0) (consL (pure (.ty "str")) (nilL)))) (cmpE .In (readV 0) (readV 1)))) (nxS)
noncomputable def f_p_is_word : Fn := ⟨[false, false], 2, b_p_is_word⟩
noncomputable def b_p_is_name (cl : Cl) : M Fl := seqM (retS (andE (bltE .isinstance (consL (readV 0) (consL (pure (.ty "str")) (nilL)))) (andE (chnM .LtE .LtE (pure (.int 1)) (bltE .len (consL (readV 0) (nilL))) (pure (.int 3))) (cmpE .Eq (bmtE .strip (readV 0) (consL (pure c_LETTERS) (nilL))) (pure (.str "")))))) (nxS)
noncomputable def f_p_is_name : Fn := ⟨[false], 1, b_p_is_name⟩
noncomputable def b_p_is_flag (cl : Cl) : M Fl := seqM (retS (andE (bltE .isinstance (consL (readV 0) (consL (pure (.ty "str")) (nilL)))) (andE (cmpE .Eq (bltE .len (consL (readV 0) (nilL))) (pure (.int 1))) (cmpE .In (readV 0) (pure c_FLAGS))))) (nxS)
noncomputable def f_p_is_flag : Fn := ⟨[false], 1, b_p_is_flag⟩
noncomputable def b_p_is_leaf (cl : Cl) : M Fl := seqM (iteS (valT (cmpE .Eq (ixE (readV 0) (pure (.int 0))) (pure (.str "ask")))) (seqM (retS (andE (cmpE .Eq (bltE .len (consL (readV 0) (nilL))) (pure (.int 2))) (callE cl "is_flag" (valA (ixE (readV 0) (pure (.int 1))) (nilA))))) (nxS)) (nxS)) (seqM (iteS (valT (cmpE .Eq (ixE (readV 0) (pure (.int 0))) (pure (.str "set")))) (seqM (retS (andE (cmpE .Eq (bltE .len (consL (readV 0) (nilL))) (pure (.int 3))) (andE (callE cl "is_flag" (valA (ixE (readV 0) (pure (.int 1))) (nilA))) (bltE .isinstance (consL (ixE (readV 0) (pure (.int 2))) (consL (pure (.ty "bool")) (nilL))))))) (nxS)) (nxS)) (seqM (iteS (orT (valT (cmpE .NotEq (ixE (readV 0) (pure (.int 0))) (pure (.str "do")))) (orT (valT (cmpE .NotEq (bltE .len (consL (readV 0) (nilL))) (pure (.int 4)))) (notT (valT (callE cl "is_name" (valA (ixE (readV 0) (pure (.int 1))) (nilA))))))) (seqM (retS (pure (.bl false))) (nxS)) (nxS)) (seqM (retS (andE (callE cl "is_whole" (valA (ixE (readV 0) (pure (.int 2))) (valA (pure (.int 1)) (valA (pure c_TICKS) (nilA))))) (callE cl "is_word" (valA (ixE (readV 0) (pure (.int 3))) (valA (pure c_ENDS) (nilA)))))) (nxS))))
noncomputable def f_p_is_leaf : Fn := ⟨[false], 1, b_p_is_leaf⟩
noncomputable def b_p_is_part (cl : Cl) : M Fl := seqM (iteS (orT (valT (cmpE .Eq (readV 1) (pure (.int 0)))) (orT (notT (valT (bltE .isinstance (consL (readV 0) (consL (pure (.ty "tuple")) (nilL)))))) (orT (valT (cmpE .Lt (bltE .len (consL (readV 0) (nilL))) (pure (.int 2)))) (notT (valT (bltE .isinstance (consL (ixE (readV 0) (pure (.int 0))) (consL (pure (.ty "str")) (nilL))))))))) (seqM (retS (pure (.bl false))) (nxS)) (nxS)) (seqM (iteS (valT (cmpE .In (ixE (readV 0) (pure (.int 0))) (tupE (consL (pure (.str "ask")) (consL (pure (.str "set")) (consL (pure (.str "do")) (nilL))))))) (seqM (retS (callE cl "is_leaf" (valA (readV 0) (nilA)))) (nxS)) (nxS)) (seqM (iteS (valT (cmpE .In (ixE (readV 0) (pure (.int 0))) (pure c_MANY_KINDS))) (seqM (retS (andE (cmpE .Eq (bltE .len (consL (readV 0) (nilL))) (pure (.int 2))) (callE cl "are_parts" (valA (ixE (readV 0) (pure (.int 1))) (valA (binE .Sub (readV 1) (pure (.int 1))) (nilA)))))) (nxS)) (nxS)) (seqM (iteS (valT (cmpE .In (ixE (readV 0) (pure (.int 0))) (pure c_ONE_KINDS))) (seqM (retS (andE (cmpE .Eq (bltE .len (consL (readV 0) (nilL))) (pure (.int 2))) (callE cl "is_part" (valA (ixE (readV 0) (pure (.int 1))) (valA (binE .Sub (readV 1) (pure (.int 1))) (nilA)))))) (nxS)) (nxS)) (seqM (iteS (valT (cmpE .In (ixE (readV 0) (pure (.int 0))) (pure c_COUNT_KINDS))) (seqM (retS (andE (cmpE .Eq (bltE .len (consL (readV 0) (nilL))) (pure (.int 3))) (andE (callE cl "is_whole" (valA (ixE (readV 0) (pure (.int 1))) (valA (pure (.int 1)) (valA (pure c_TIMES) (nilA))))) (callE cl "is_part" (valA (ixE (readV 0) (pure (.int 2))) (valA (binE .Sub (readV 1) (pure (.int 1))) (nilA))))))) (nxS)) (nxS)) (seqM (iteS (orT (valT (cmpE .NotEq (ixE (readV 0) (pure (.int 0))) (pure (.str "beside")))) (orT (valT (cmpE .NotEq (bltE .len (consL (readV 0) (nilL))) (pure (.int 3)))) (notT (valT (callE cl "are_parts" (valA (ixE (readV 0) (pure (.int 2))) (valA (binE .Sub (readV 1) (pure (.int 1))) (nilA)))))))) (seqM (retS (pure (.bl false))) (nxS)) (nxS)) (seqM (retS (callE cl "is_whole" (valA (ixE (readV 0) (pure (.int 1))) (valA (pure (.int 1)) (valA (bltE .len (consL (ixE (readV 0) (pure (.int 2))) (nilL))) (nilA)))))) (nxS)))))))
noncomputable def f_p_is_part : Fn := ⟨[false, false], 2, b_p_is_part⟩
noncomputable def b_p_are_parts (cl : Cl) : M Fl := seqM (retS (andE (bltE .isinstance (consL (readV 0) (consL (pure (.ty "tuple")) (nilL)))) (andE (cmpE .Gt (bltE .len (consL (readV 0) (nilL))) (pure (.int 0))) (bltE .all (consL (lcE [2] [2] true (sqI (readV 0)) (allT) (callE cl "is_part" (valA (readV 2) (valA (readV 1) (nilA))))) (nilL)))))) (nxS)
noncomputable def f_p_are_parts : Fn := ⟨[false, false], 3, b_p_are_parts⟩
noncomputable def b_p_parts_of (cl : Cl) : M Fl := seqM (iteS (valT (cmpE .In (ixE (readV 0) (pure (.int 0))) (pure c_MANY_KINDS))) (seqM (retS (ixE (readV 0) (pure (.int 1)))) (nxS)) (nxS)) (seqM (iteS (valT (cmpE .In (ixE (readV 0) (pure (.int 0))) (pure c_ONE_KINDS))) (seqM (retS (tupE (consL (ixE (readV 0) (pure (.int 1))) (nilL)))) (nxS)) (nxS)) (seqM (iteS (valT (cmpE .In (ixE (readV 0) (pure (.int 0))) (pure c_COUNT_KINDS))) (seqM (retS (tupE (consL (ixE (readV 0) (pure (.int 2))) (nilL)))) (nxS)) (nxS)) (seqM (iteS (valT (cmpE .Eq (ixE (readV 0) (pure (.int 0))) (pure (.str "beside")))) (seqM (retS (ixE (readV 0) (pure (.int 2)))) (nxS)) (nxS)) (seqM (retS (tupE (nilL))) (nxS)))))
noncomputable def f_p_parts_of : Fn := ⟨[false], 1, b_p_parts_of⟩
noncomputable def b_p_size_of (cl : Cl) : M Fl := seqM (retS (binE .Add (pure (.int 1)) (bltE .sum (consL (lcE [1] [1] true (sqI (callE cl "parts_of" (valA (readV 0) (nilA)))) (allT) (callE cl "size_of" (valA (readV 1) (nilA)))) (nilL))))) (nxS)
noncomputable def f_p_size_of : Fn := ⟨[false], 2, b_p_size_of⟩
noncomputable def b_p_is_tree (cl : Cl) : M Fl := seqM (retS (andE (callE cl "is_part" (valA (readV 0) (valA (pure c_DEEP) (nilA)))) (cmpE .LtE (callE cl "size_of" (valA (readV 0) (nilA))) (pure c_SIZE)))) (nxS)
noncomputable def f_p_is_tree : Fn := ⟨[false], 1, b_p_is_tree⟩
noncomputable def b_p_need_tree (cl : Cl) : M Fl := seqM (iteS (notT (valT (callE cl "is_tree" (valA (readV 0) (nilA))))) (seqM (raiseS "NoTree") (nxS)) (nxS)) (nxS)
noncomputable def f_p_need_tree : Fn := ⟨[false], 1, b_p_need_tree⟩
noncomputable def b_p_head_of (cl : Cl) : M Fl := seqM (iteS (valT (cmpE .Eq (ixE (readV 0) (pure (.int 0))) (pure (.str "ask")))) (seqM (retS (binE .Add (pure (.str "ask ")) (ixE (readV 0) (pure (.int 1))))) (nxS)) (nxS)) (seqM (iteS (valT (cmpE .Eq (ixE (readV 0) (pure (.int 0))) (pure (.str "set")))) (seqM (retS (binE .Add (binE .Add (pure (.str "set ")) (ixE (readV 0) (pure (.int 1)))) (ixE (lstE (consL (pure (.str " down")) (consL (pure (.str " up")) (nilL)))) (bltE .int (consL (ixE (readV 0) (pure (.int 2))) (nilL)))))) (nxS)) (nxS)) (seqM (iteS (valT (cmpE .Eq (ixE (readV 0) (pure (.int 0))) (pure (.str "do")))) (seqM (retS (bmtE .join (pure (.str " ")) (consL (lstE (consL (pure (.str "do")) (consL (ixE (readV 0) (pure (.int 1))) (consL (bltE .str (consL (ixE (readV 0) (pure (.int 2))) (nilL))) (consL (ixE (readV 0) (pure (.int 3))) (nilL)))))) (nilL)))) (nxS)) (nxS)) (seqM (iteS (orT (valT (cmpE .In (ixE (readV 0) (pure (.int 0))) (pure c_COUNT_KINDS))) (valT (cmpE .Eq (ixE (readV 0) (pure (.int 0))) (pure (.str "beside"))))) (seqM (retS (binE .Add (binE .Add (ixE (readV 0) (pure (.int 0))) (pure (.str " "))) (bltE .str (consL (ixE (readV 0) (pure (.int 1))) (nilL))))) (nxS)) (nxS)) (seqM (retS (ixE (readV 0) (pure (.int 0)))) (nxS)))))
noncomputable def f_p_head_of : Fn := ⟨[false], 1, b_p_head_of⟩
noncomputable def b_p_text_of (cl : Cl) : M Fl := seqM (iteS (valT (cmpE .Eq (callE cl "parts_of" (valA (readV 0) (nilA))) (tupE (nilL)))) (seqM (retS (callE cl "head_of" (valA (readV 0) (nilA)))) (nxS)) (nxS)) (seqM (retS (binE .Add (binE .Add (binE .Add (callE cl "head_of" (valA (readV 0) (nilA))) (pure (.str "("))) (bmtE .join (pure (.str "; ")) (consL (lcE [1] [1] true (sqI (callE cl "parts_of" (valA (readV 0) (nilA)))) (allT) (callE cl "text_of" (valA (readV 1) (nilA)))) (nilL)))) (pure (.str ")")))) (nxS))
noncomputable def f_p_text_of : Fn := ⟨[false], 2, b_p_text_of⟩
noncomputable def b_p_shown (cl : Cl) : M Fl := seqM (expS (callE cl "need_tree" (valA (readV 0) (nilA)))) (seqM (retS (callE cl "text_of" (valA (readV 0) (nilA)))) (nxS))
noncomputable def f_p_shown : Fn := ⟨[false], 1, b_p_shown⟩
noncomputable def b_p_number (cl : Cl) : M Fl := seqM (iteS (orT (valT (cmpE .NotEq (bltE .len (consL (readV 0) (nilL))) (pure (.int 1)))) (valT (cmpE .NotIn (readV 0) (pure c_FIGURES)))) (seqM (retS (pure .non)) (nxS)) (nxS)) (seqM (retS (bltE .int (consL (readV 0) (nilL)))) (nxS))
noncomputable def f_p_number : Fn := ⟨[false], 1, b_p_number⟩
noncomputable def b_p_leaf_of (cl : Cl) : M Fl := seqM (iteS (andT (valT (cmpE .Eq (ixE (readV 0) (pure (.int 0))) (pure (.str "ask")))) (valT (cmpE .Eq (bltE .len (consL (readV 0) (nilL))) (pure (.int 2))))) (seqM (retS (tupE (consL (pure (.str "ask")) (consL (ixE (readV 0) (pure (.int 1))) (nilL))))) (nxS)) (nxS)) (seqM (iteS (andT (valT (cmpE .Eq (ixE (readV 0) (pure (.int 0))) (pure (.str "set")))) (andT (valT (cmpE .Eq (bltE .len (consL (readV 0) (nilL))) (pure (.int 3)))) (valT (cmpE .In (ixE (readV 0) (pure (.int 2))) (tupE (consL (pure (.str "up")) (consL (pure (.str "down")) (nilL)))))))) (seqM (retS (tupE (consL (pure (.str "set")) (consL (ixE (readV 0) (pure (.int 1))) (consL (cmpE .Eq (ixE (readV 0) (pure (.int 2))) (pure (.str "up"))) (nilL)))))) (nxS)) (nxS)) (seqM (iteS (andT (valT (cmpE .Eq (ixE (readV 0) (pure (.int 0))) (pure (.str "do")))) (valT (cmpE .Eq (bltE .len (consL (readV 0) (nilL))) (pure (.int 4))))) (seqM (retS (tupE (consL (pure (.str "do")) (consL (ixE (readV 0) (pure (.int 1))) (consL (callE cl "number" (valA (ixE (readV 0) (pure (.int 2))) (nilA))) (consL (ixE (readV 0) (pure (.int 3))) (nilL))))))) (nxS)) (nxS)) (seqM (retS (pure .non)) (nxS))))
noncomputable def f_p_leaf_of : Fn := ⟨[false], 1, b_p_leaf_of⟩
noncomputable def b_p_part_of (cl : Cl) : M Fl := seqM (setE 2 (bmtE .split (readV 0) (consL (pure (.str " ")) (nilL)))) (seqM (iteS (valT (cmpE .In (readV 0) (pure c_MANY_KINDS))) (seqM (retS (tupE (consL (readV 0) (consL (bltE .tuple (consL (readV 1) (nilL))) (nilL))))) (nxS)) (nxS)) (seqM (iteS (andT (valT (cmpE .In (readV 0) (pure c_ONE_KINDS))) (valT (cmpE .Eq (bltE .len (consL (readV 1) (nilL))) (pure (.int 1))))) (seqM (retS (tupE (consL (readV 0) (consL (ixE (readV 1) (pure (.int 0))) (nilL))))) (nxS)) (nxS)) (seqM (iteS (valT (cmpE .NotEq (bltE .len (consL (readV 2) (nilL))) (pure (.int 2)))) (seqM (retS (pure .non)) (nxS)) (nxS)) (seqM (iteS (andT (valT (cmpE .In (ixE (readV 2) (pure (.int 0))) (pure c_COUNT_KINDS))) (valT (cmpE .Eq (bltE .len (consL (readV 1) (nilL))) (pure (.int 1))))) (seqM (retS (tupE (consL (ixE (readV 2) (pure (.int 0))) (consL (callE cl "number" (valA (ixE (readV 2) (pure (.int 1))) (nilA))) (consL (ixE (readV 1) (pure (.int 0))) (nilL)))))) (nxS)) (nxS)) (seqM (iteS (valT (cmpE .Eq (ixE (readV 2) (pure (.int 0))) (pure (.str "beside")))) (seqM (retS (tupE (consL (pure (.str "beside")) (consL (callE cl "number" (valA (ixE (readV 2) (pure (.int 1))) (nilA))) (consL (bltE .tuple (consL (readV 1) (nilL))) (nilL)))))) (nxS)) (nxS)) (seqM (retS (pure .non)) (nxS)))))))
noncomputable def f_p_part_of : Fn := ⟨[false, false], 3, b_p_part_of⟩
noncomputable def b_p_read_part (cl : Cl) : M Fl := seqM (setE 3 (readV 1)) (seqM (whileM (andT (valT (cmpE .Lt (readV 3) (bltE .len (consL (readV 0) (nilL))))) (valT (cmpE .NotIn (ixE (readV 0) (readV 3)) (pure (.str "();"))))) (seqM (setE 3 (binE .Add (readV 3) (pure (.int 1)))) (nxS))) (seqM (setE 4 (slE (readV 0) (soO (readV 1)) (soO (readV 3)))) (seqM (iteS (orT (valT (cmpE .Eq (readV 3) (bltE .len (consL (readV 0) (nilL))))) (valT (cmpE .NotEq (ixE (readV 0) (readV 3)) (pure (.str "("))))) (seqM (setE 5 (callE cl "leaf_of" (valA (bmtE .split (readV 4) (consL (pure (.str " ")) (nilL))) (nilA)))) (seqM (retS (iteE (valT (cmpE .Is (readV 5) (pure .non))) (pure .non) (tupE (consL (moveV 5) (consL (moveV 3) (nilL)))))) (nxS))) (nxS)) (seqM (iteS (valT (cmpE .Eq (readV 2) (pure (.int 0)))) (seqM (retS (pure .non)) (nxS)) (nxS)) (seqM (setE 6 (lstE (nilL))) (seqM (setE 7 (binE .Add (readV 3) (pure (.int 1)))) (seqM (whileM (valT (pure (.bl true))) (seqM (setE 8 (callE cl "read_part" (valA (readV 0) (valA (readV 7) (valA (binE .Sub (readV 2) (pure (.int 1))) (nilA)))))) (seqM (iteS (valT (cmpE .Is (readV 8) (pure .non))) (seqM (retS (pure .non)) (nxS)) (nxS)) (seqM (expS (mutE .append 6 (consL (ixE (readV 8) (pure (.int 0))) (nilL)))) (seqM (setE 7 (ixE (readV 8) (pure (.int 1)))) (seqM (iteS (valT (cmpE .Eq (slE (readV 0) (soO (readV 7)) (soO (binE .Add (readV 7) (pure (.int 1))))) (pure (.str ")")))) (seqM (setE 9 (callE cl "part_of" (valA (readV 4) (valA (readV 6) (nilA))))) (seqM (retS (iteE (valT (cmpE .Is (readV 9) (pure .non))) (pure .non) (tupE (consL (moveV 9) (consL (binE .Add (readV 7) (pure (.int 1))) (nilL)))))) (nxS))) (nxS)) (seqM (iteS (valT (cmpE .NotEq (slE (readV 0) (soO (readV 7)) (soO (binE .Add (readV 7) (pure (.int 2))))) (pure (.str "; ")))) (seqM (retS (pure .non)) (nxS)) (nxS)) (seqM (setE 7 (binE .Add (readV 7) (pure (.int 2)))) (nxS))))))))) (nxS))))))))
noncomputable def f_p_read_part : Fn := ⟨[false, false, false], 10, b_p_read_part⟩
noncomputable def b_p_read (cl : Cl) : M Fl := seqM (iteS (notT (valT (bltE .isinstance (consL (readV 0) (consL (pure (.ty "str")) (nilL)))))) (seqM (raiseS "NoText") (nxS)) (nxS)) (seqM (setE 1 (callE cl "read_part" (valA (readV 0) (valA (pure (.int 0)) (valA (pure (.int 8)) (nilA)))))) (seqM (iteS (orT (valT (cmpE .Is (readV 1) (pure .non))) (orT (valT (cmpE .NotEq (ixE (readV 1) (pure (.int 1))) (bltE .len (consL (readV 0) (nilL))))) (orT (notT (valT (callE cl "is_tree" (valA (ixE (readV 1) (pure (.int 0))) (nilA))))) (valT (cmpE .NotEq (callE cl "text_of" (valA (ixE (readV 1) (pure (.int 0))) (nilA))) (readV 0)))))) (seqM (raiseS "NoText") (nxS)) (nxS)) (seqM (retS (ixE (readV 1) (pure (.int 0)))) (nxS))))
noncomputable def f_p_read : Fn := ⟨[false], 2, b_p_read⟩
noncomputable def b_l_cell_at (cl : Cl) : M Fl := seqM (iteS (valT (cmpE .Lt (readV 1) (bltE .len (consL (readV 0) (nilL))))) (seqM (retS (ixE (readV 0) (readV 1))) (nxS)) (nxS)) (seqM (iteS (valT (cmpE .Eq (readV 0) (lstE (nilL)))) (seqM (retS (pure (.int 0))) (nxS)) (nxS)) (seqM (retS (binE .Add (binE .Mult (ixE (readV 0) (binE .Mod (readV 1) (bltE .len (consL (readV 0) (nilL))))) (pure (.int 31))) (readV 1))) (nxS)))
noncomputable def f_l_cell_at : Fn := ⟨[false, false], 2, b_l_cell_at⟩
noncomputable def b_l_mixed (cl : Cl) : M Fl := seqM (setE 3 (binE .Mod (binE .Mult (binE .Add (binE .Add (callE cl "_law_cell_at" (valA (readV 0) (valA (readV 1) (nilA)))) (binE .Mult (pure (.int 7919)) (readV 1))) (pure (.int 1))) (pure (.int 48271))) (pure (.int 2147483647)))) (seqM (retS (binE .Mod (binE .Mod (binE .Add (binE .Add (binE .Mult (readV 3) (readV 3)) (binE .Mult (pure (.int 7)) (readV 3))) (readV 1)) (pure (.int 2147483629))) (readV 2))) (nxS))
noncomputable def f_l_mixed : Fn := ⟨[false, false, false], 4, b_l_mixed⟩
noncomputable def b_l_draw (cl : Cl) : M Fl := seqM (expS (mutE .append 1 (consL (pure (.int 0)) (nilL)))) (seqM (retS (callE cl "_law_mixed" (valA (readV 0) (valA (borM (bltE .len (consL (readV 1) (nilL)))) (valA (readV 2) (nilA)))))) (nxS))
noncomputable def f_l_draw : Fn := ⟨[false, true, false], 3, b_l_draw⟩
noncomputable def b_l_pick (cl : Cl) : M Fl := seqM (retS (ixE (readV 2) (callE cl "_law_draw" (valA (readV 0) (ioA 1 (valA (bltE .len (consL (readV 2) (nilL))) (nilA))))))) (nxS)
noncomputable def f_l_pick : Fn := ⟨[false, true, false], 3, b_l_pick⟩
noncomputable def b_l_leaf (cl : Cl) : M Fl := seqM (setE 2 (callE cl "_law_draw" (valA (readV 0) (ioA 1 (valA (pure (.int 5)) (nilA)))))) (seqM (iteS (valT (cmpE .Eq (readV 2) (pure (.int 0)))) (seqM (retS (tupE (consL (pure (.str "ask")) (consL (callE cl "_law_pick" (valA (readV 0) (ioA 1 (valA (lstE (consL (pure (.str "a")) (consL (pure (.str "b")) (consL (pure (.str "a")) (consL (pure (.str "b")) (consL (pure (.str "c")) (nilL))))))) (nilA))))) (nilL))))) (nxS)) (nxS)) (seqM (iteS (valT (cmpE .Eq (readV 2) (pure (.int 1)))) (seqM (retS (tupE (consL (pure (.str "set")) (consL (callE cl "_law_pick" (valA (readV 0) (ioA 1 (valA (lstE (consL (pure (.str "a")) (consL (pure (.str "b")) (nilL)))) (nilA))))) (consL (cmpE .Eq (callE cl "_law_draw" (valA (readV 0) (ioA 1 (valA (pure (.int 2)) (nilA))))) (pure (.int 1))) (nilL)))))) (nxS)) (nxS)) (seqM (setE 3 (callE cl "_law_pick" (valA (readV 0) (ioA 1 (valA (lstE (consL (pure (.str "x")) (consL (pure (.str "y")) (consL (pure (.str "z")) (consL (pure (.str "run")) (nilL)))))) (nilA)))))) (seqM (retS (tupE (consL (pure (.str "do")) (consL (moveV 3) (consL (binE .Add (pure (.int 1)) (callE cl "_law_draw" (valA (readV 0) (ioA 1 (valA (pure (.int 4)) (nilA)))))) (consL (callE cl "_law_pick" (valA (readV 0) (ioA 1 (valA (lstE (consL (pure (.str "yes")) (consL (pure (.str "no")) (nilL)))) (nilA))))) (nilL))))))) (nxS)))))
noncomputable def f_l_leaf : Fn := ⟨[false, true], 4, b_l_leaf⟩
noncomputable def b_l_part (cl : Cl) : M Fl := seqM (expS (mutE .append 3 (consL (pure (.int 1)) (nilL)))) (seqM (iteS (orT (valT (cmpE .Eq (readV 2) (pure (.int 1)))) (orT (valT (cmpE .Gt (borM (bltE .len (consL (readV 3) (nilL)))) (pure (.int 8)))) (valT (cmpE .Eq (callE cl "_law_draw" (valA (readV 0) (ioA 1 (valA (pure (.int 5)) (nilA))))) (pure (.int 0)))))) (seqM (retS (callE cl "_law_leaf" (valA (readV 0) (ioA 1 (nilA))))) (nxS)) (nxS)) (seqM (setE 4 (lstE (consL (pure (.str "row")) (consL (pure (.str "choice")) (consL (pure (.str "row anew")) (consL (pure (.str "choice anew")) (consL (pure (.str "beside")) (consL (pure (.str "row")) (consL (pure (.str "choice anew")) (consL (pure (.str "not")) (consL (pure (.str "yes")) (consL (pure (.str "no")) (consL (pure (.str "keep")) (nilL)))))))))))))) (seqM (setE 5 (callE cl "_law_pick" (valA (readV 0) (ioA 1 (valA (binE .Add (readV 4) (lstE (consL (pure (.str "again")) (consL (pure (.str "till")) (consL (pure (.str "hold")) (nilL)))))) (nilA)))))) (seqM (iteS (valT (cmpE .In (readV 5) (tupE (consL (pure (.str "not")) (consL (pure (.str "yes")) (consL (pure (.str "no")) (consL (pure (.str "keep")) (nilL)))))))) (seqM (retS (tupE (consL (moveV 5) (consL (callE cl "_law_part" (valA (readV 0) (ioA 1 (valA (binE .Sub (readV 2) (pure (.int 1))) (ioA 3 (nilA)))))) (nilL))))) (nxS)) (nxS)) (seqM (iteS (valT (cmpE .In (readV 5) (tupE (consL (pure (.str "again")) (consL (pure (.str "till")) (consL (pure (.str "hold")) (nilL))))))) (seqM (retS (tupE (consL (moveV 5) (consL (binE .Add (pure (.int 1)) (callE cl "_law_draw" (valA (readV 0) (ioA 1 (valA (pure (.int 4)) (nilA)))))) (consL (callE cl "_law_part" (valA (readV 0) (ioA 1 (valA (binE .Sub (readV 2) (pure (.int 1))) (ioA 3 (nilA)))))) (nilL)))))) (nxS)) (nxS)) (seqM (setE 6 (bltE .tuple (consL (lcE [7] [7] true (rngI (binE .Add (pure (.int 1)) (callE cl "_law_draw" (valA (readV 0) (ioA 1 (valA (pure (.int 3)) (nilA))))))) (allT) (callE cl "_law_part" (valA (readV 0) (ioA 1 (valA (binE .Sub (readV 2) (pure (.int 1))) (ioA 3 (nilA))))))) (nilL)))) (seqM (iteS (valT (cmpE .Eq (readV 5) (pure (.str "beside")))) (seqM (retS (tupE (consL (moveV 5) (consL (binE .Add (pure (.int 1)) (callE cl "_law_draw" (valA (readV 0) (ioA 1 (valA (bltE .len (consL (readV 6) (nilL))) (nilA)))))) (consL (moveV 6) (nilL)))))) (nxS)) (nxS)) (seqM (retS (tupE (consL (moveV 5) (consL (moveV 6) (nilL))))) (nxS)))))))))
noncomputable def f_l_part : Fn := ⟨[false, true, false, true], 8, b_l_part⟩
noncomputable def b_l_size (cl : Cl) : M Fl := seqM (retS (binE .Add (pure (.int 1)) (bltE .sum (consL (lcE [1] [1] true (sqI (callE cl "_law_inner" (valA (readV 0) (nilA)))) (allT) (callE cl "_law_size" (valA (readV 1) (nilA)))) (nilL))))) (nxS)
noncomputable def f_l_size : Fn := ⟨[false], 2, b_l_size⟩
noncomputable def b_l_inner (cl : Cl) : M Fl := seqM (iteS (valT (cmpE .In (ixE (readV 0) (pure (.int 0))) (tupE (consL (pure (.str "ask")) (consL (pure (.str "set")) (consL (pure (.str "do")) (nilL))))))) (seqM (retS (tupE (nilL))) (nxS)) (nxS)) (seqM (iteS (valT (cmpE .In (ixE (readV 0) (pure (.int 0))) (tupE (consL (pure (.str "not")) (consL (pure (.str "yes")) (consL (pure (.str "no")) (consL (pure (.str "keep")) (consL (pure (.str "again")) (consL (pure (.str "till")) (consL (pure (.str "hold")) (nilL))))))))))) (seqM (retS (tupE (consL (ixE (readV 0) (negE (pure (.int 1)))) (nilL)))) (nxS)) (nxS)) (seqM (retS (ixE (readV 0) (negE (pure (.int 1))))) (nxS)))
noncomputable def f_l_inner : Fn := ⟨[false], 1, b_l_inner⟩
noncomputable def b_l_tree (cl : Cl) : M Fl := seqM (setE 3 (callE cl "_law_part" (valA (readV 0) (ioA 1 (valA (readV 2) (tmpA (lstE (nilL)) (nilA))))))) (seqM (whileM (valT (cmpE .Gt (callE cl "_law_size" (valA (readV 3) (nilA))) (pure (.int 14)))) (seqM (setE 3 (ixE (callE cl "_law_inner" (valA (readV 3) (nilA))) (pure (.int 0)))) (nxS))) (seqM (retS (moveV 3)) (nxS)))
noncomputable def f_l_tree : Fn := ⟨[false, true, false], 4, b_l_tree⟩
noncomputable def b_l_shown (cl : Cl) : M Fl := seqM (setE 1 (ixE (readV 0) (pure (.int 0)))) (seqM (iteS (valT (cmpE .Eq (readV 1) (pure (.str "ask")))) (seqM (retS (binE .Add (pure (.str "ask ")) (ixE (readV 0) (pure (.int 1))))) (nxS)) (nxS)) (seqM (iteS (valT (cmpE .Eq (readV 1) (pure (.str "set")))) (seqM (retS (binE .Add (binE .Add (pure (.str "set ")) (ixE (readV 0) (pure (.int 1)))) (iteE (valT (ixE (readV 0) (pure (.int 2)))) (pure (.str " up")) (pure (.str " down"))))) (nxS)) (nxS)) (seqM (iteS (valT (cmpE .Eq (readV 1) (pure (.str "do")))) (seqM (retS (binE .Add (binE .Add (binE .Add (binE .Add (binE .Add (pure (.str "do ")) (ixE (readV 0) (pure (.int 1)))) (pure (.str " "))) (bltE .str (consL (ixE (readV 0) (pure (.int 2))) (nilL)))) (pure (.str " "))) (ixE (readV 0) (pure (.int 3))))) (nxS)) (nxS)) (seqM (setE 2 (readV 1)) (seqM (iteS (valT (cmpE .In (readV 1) (tupE (consL (pure (.str "again")) (consL (pure (.str "till")) (consL (pure (.str "hold")) (consL (pure (.str "beside")) (nilL)))))))) (seqM (setE 2 (binE .Add (binE .Add (readV 1) (pure (.str " "))) (bltE .str (consL (ixE (readV 0) (pure (.int 1))) (nilL))))) (nxS)) (nxS)) (seqM (setE 3 (pure (.str ""))) (seqM (forS [4, 5] false (enumI (callE cl "_law_inner" (valA (readV 0) (nilA)))) (seqM (setE 3 (binE .Add (binE .Add (readV 3) (binE .Mult (pure (.str "; ")) (bltE .int (consL (cmpE .Gt (readV 4) (pure (.int 0))) (nilL))))) (callE cl "_law_shown" (valA (readV 5) (nilA))))) (nxS))) (seqM (retS (binE .Add (binE .Add (binE .Add (readV 2) (pure (.str "("))) (readV 3)) (pure (.str ")")))) (nxS)))))))))
noncomputable def f_l_shown : Fn := ⟨[false], 6, b_l_shown⟩
noncomputable def b_l_back (cl : Cl) : M Fl := seqM (tryM k_TreeError (seqM (retS (callE cl "read" (valA (readV 0) (nilA)))) (nxS)) (seqM (retS (pure .non)) (nxS))) (nxS)
noncomputable def f_l_back : Fn := ⟨[false], 1, b_l_back⟩
noncomputable def b_law (cl : Cl) : M Fl := seqM (setE 1 (lstE (nilL))) (seqM (setE 2 (lcE [5] [5] true (rngI (pure (.int 3))) (allT) (callE cl "_law_tree" (valA (readV 0) (ioA 1 (valA (callE cl "_law_pick" (valA (readV 0) (ioA 1 (valA (lstE (consL (pure (.int 1)) (consL (pure (.int 2)) (consL (pure (.int 5)) (nilL))))) (nilA))))) (nilA))))))) (seqM (forS [3] true (sqI (readV 2)) (seqM (iteS (orT (valT (cmpE .NotEq (callE cl "shown" (valA (readV 3) (nilA))) (callE cl "_law_shown" (valA (readV 3) (nilA))))) (valT (cmpE .NotEq (callE cl "_law_back" (valA (callE cl "shown" (valA (readV 3) (nilA))) (nilA))) (readV 3)))) (seqM (retS (pure (.bl false))) (nxS)) (nxS)) (seqM (forS [4] true (sqI (readV 2)) (seqM (iteS (valT (cmpE .NotEq (cmpE .Eq (callE cl "shown" (valA (readV 3) (nilA))) (callE cl "shown" (valA (readV 4) (nilA)))) (cmpE .Eq (readV 3) (readV 4)))) (seqM (retS (pure (.bl false))) (nxS)) (nxS)) (nxS))) (nxS)))) (seqM (retS (pure (.bl true))) (nxS))))
noncomputable def f_law : Fn := ⟨[false], 6, b_law⟩
noncomputable def tbl : String → Option Fn
  | "is_whole" => some f_p_is_whole
  | "is_word" => some f_p_is_word
  | "is_name" => some f_p_is_name
  | "is_flag" => some f_p_is_flag
  | "is_leaf" => some f_p_is_leaf
  | "is_part" => some f_p_is_part
  | "are_parts" => some f_p_are_parts
  | "parts_of" => some f_p_parts_of
  | "size_of" => some f_p_size_of
  | "is_tree" => some f_p_is_tree
  | "need_tree" => some f_p_need_tree
  | "head_of" => some f_p_head_of
  | "text_of" => some f_p_text_of
  | "shown" => some f_p_shown
  | "number" => some f_p_number
  | "leaf_of" => some f_p_leaf_of
  | "part_of" => some f_p_part_of
  | "read_part" => some f_p_read_part
  | "read" => some f_p_read
  | "_law_cell_at" => some f_l_cell_at
  | "_law_mixed" => some f_l_mixed
  | "_law_draw" => some f_l_draw
  | "_law_pick" => some f_l_pick
  | "_law_leaf" => some f_l_leaf
  | "_law_part" => some f_l_part
  | "_law_size" => some f_l_size
  | "_law_inner" => some f_l_inner
  | "_law_tree" => some f_l_tree
  | "_law_shown" => some f_l_shown
  | "_law_back" => some f_l_back
  | "law" => some f_law
  | _ => none
noncomputable abbrev R (k : Nat) : Cl := runT tbl k
theorem R_p_is_whole (k : Nat) (ds : List D) : R (k + 1) "is_whole" ds = runF (R k) f_p_is_whole ds := rfl
theorem R_p_is_word (k : Nat) (ds : List D) : R (k + 1) "is_word" ds = runF (R k) f_p_is_word ds := rfl
theorem R_p_is_name (k : Nat) (ds : List D) : R (k + 1) "is_name" ds = runF (R k) f_p_is_name ds := rfl
theorem R_p_is_flag (k : Nat) (ds : List D) : R (k + 1) "is_flag" ds = runF (R k) f_p_is_flag ds := rfl
theorem R_p_is_leaf (k : Nat) (ds : List D) : R (k + 1) "is_leaf" ds = runF (R k) f_p_is_leaf ds := rfl
theorem R_p_is_part (k : Nat) (ds : List D) : R (k + 1) "is_part" ds = runF (R k) f_p_is_part ds := rfl
theorem R_p_are_parts (k : Nat) (ds : List D) : R (k + 1) "are_parts" ds = runF (R k) f_p_are_parts ds := rfl
theorem R_p_parts_of (k : Nat) (ds : List D) : R (k + 1) "parts_of" ds = runF (R k) f_p_parts_of ds := rfl
theorem R_p_size_of (k : Nat) (ds : List D) : R (k + 1) "size_of" ds = runF (R k) f_p_size_of ds := rfl
theorem R_p_is_tree (k : Nat) (ds : List D) : R (k + 1) "is_tree" ds = runF (R k) f_p_is_tree ds := rfl
theorem R_p_need_tree (k : Nat) (ds : List D) : R (k + 1) "need_tree" ds = runF (R k) f_p_need_tree ds := rfl
theorem R_p_head_of (k : Nat) (ds : List D) : R (k + 1) "head_of" ds = runF (R k) f_p_head_of ds := rfl
theorem R_p_text_of (k : Nat) (ds : List D) : R (k + 1) "text_of" ds = runF (R k) f_p_text_of ds := rfl
theorem R_p_shown (k : Nat) (ds : List D) : R (k + 1) "shown" ds = runF (R k) f_p_shown ds := rfl
theorem R_p_number (k : Nat) (ds : List D) : R (k + 1) "number" ds = runF (R k) f_p_number ds := rfl
theorem R_p_leaf_of (k : Nat) (ds : List D) : R (k + 1) "leaf_of" ds = runF (R k) f_p_leaf_of ds := rfl
theorem R_p_part_of (k : Nat) (ds : List D) : R (k + 1) "part_of" ds = runF (R k) f_p_part_of ds := rfl
theorem R_p_read_part (k : Nat) (ds : List D) : R (k + 1) "read_part" ds = runF (R k) f_p_read_part ds := rfl
theorem R_p_read (k : Nat) (ds : List D) : R (k + 1) "read" ds = runF (R k) f_p_read ds := rfl
theorem R_l_cell_at (k : Nat) (ds : List D) : R (k + 1) "_law_cell_at" ds = runF (R k) f_l_cell_at ds := rfl
theorem R_l_mixed (k : Nat) (ds : List D) : R (k + 1) "_law_mixed" ds = runF (R k) f_l_mixed ds := rfl
theorem R_l_draw (k : Nat) (ds : List D) : R (k + 1) "_law_draw" ds = runF (R k) f_l_draw ds := rfl
theorem R_l_pick (k : Nat) (ds : List D) : R (k + 1) "_law_pick" ds = runF (R k) f_l_pick ds := rfl
theorem R_l_leaf (k : Nat) (ds : List D) : R (k + 1) "_law_leaf" ds = runF (R k) f_l_leaf ds := rfl
theorem R_l_part (k : Nat) (ds : List D) : R (k + 1) "_law_part" ds = runF (R k) f_l_part ds := rfl
theorem R_l_size (k : Nat) (ds : List D) : R (k + 1) "_law_size" ds = runF (R k) f_l_size ds := rfl
theorem R_l_inner (k : Nat) (ds : List D) : R (k + 1) "_law_inner" ds = runF (R k) f_l_inner ds := rfl
theorem R_l_tree (k : Nat) (ds : List D) : R (k + 1) "_law_tree" ds = runF (R k) f_l_tree ds := rfl
theorem R_l_shown (k : Nat) (ds : List D) : R (k + 1) "_law_shown" ds = runF (R k) f_l_shown ds := rfl
theorem R_l_back (k : Nat) (ds : List D) : R (k + 1) "_law_back" ds = runF (R k) f_l_back ds := rfl
theorem R_law (k : Nat) (ds : List D) : R (k + 1) "law" ds = runF (R k) f_law ds := rfl
end TT
set_option Elab.async false
set_option linter.all false
namespace TT
open PySem
/-! ### evaluation -/
theorem lift_def {α : Type} (o : Option α) (r : Env) : (M.lift o : M α) r = match o with | some a => .ok a r | none => .err := by cases o <;> rfl
theorem qii (a b : Int) : pyEq (.int a) (.int b) = (a == b) := by simp [pyEq]
theorem qss (a b : String) : pyEq (.str a) (.str b) = (a == b) := by simp [pyEq]
theorem qbb (a b : Bool) : pyEq (.bl a) (.bl b) = (a == b) := by simp [pyEq]
theorem qnn : pyEq .non .non = true := by simp [pyEq]
theorem qtt (a b : List D) : pyEq (.tup a) (.tup b) = pyEqL a b := by simp [pyEq]
theorem qll (o p : Bool) (a b : List D) : pyEq (.lst o a) (.lst p b) = pyEqL a b := by simp [pyEq]
theorem qts (a : List D) (b : String) : pyEq (.tup a) (.str b) = false := by simp [pyEq]
theorem qst (a : List D) (b : String) : pyEq (.str b) (.tup a) = false := by simp [pyEq]
theorem qnt (a : List D) : pyEq .non (.tup a) = false := by simp [pyEq]
theorem qtn (a : List D) : pyEq (.tup a) .non = false := by simp [pyEq]
theorem q0 : pyEqL [] [] = true := by simp [pyEqL]
theorem q0c (b : D) (bs : List D) : pyEqL [] (b :: bs) = false := by simp [pyEqL]
theorem qc0 (b : D) (bs : List D) : pyEqL (b :: bs) [] = false := by simp [pyEqL]
theorem qcc (a b : D) (as bs : List D) : pyEqL (a :: as) (b :: bs) = (pyEq a b && pyEqL as bs) := by simp [pyEqL]
theorem small_def (n : Nat) : small n = decide (n ≤ 100000) := rfl
theorem up {k c : Nat} (h : c ≤ k) : ∃ j, k = j + c := ⟨k - c, by omega⟩
/-! ### drawing -/
theorem cell_at {k : Nat} (hk : 1 ≤ k) (ns : List Int) (j : Nat) : ∃ v : Int, R k "_law_cell_at" [.scr ns, .int j] = .ok (.int v) [] := by
  obtain ⟨k, rfl⟩ := up hk
  rw [R_l_cell_at]
  have ej : ¬ ((j : Int) < 0) := by omega
  by_cases h : j < ns.length
  · refine ⟨ns[j], ?_⟩
    simp [runF, seqM, readV, moveV, D.isHole, getS, setS, D.pur, purL, D.frz, frzL, bltF, lenF, tupleF, intF, strF, isiF, isTy, tyOf, allF, allB, sumF, allI, cmpF, truthM, D.truth, ixP, ixF, ixD, outsOf, small_def, binF, big64, lift_def, TT.pureM, hereM, callM, takeA, takeP, giveA, putP, tyM, mutM, mutF, appendF, Mu.isL, borM, frzE, D.noFro, noFroL, bmTy, bmtF, D.okEq, D.dat, datL, D.depth, depthL, qii, qss, qbb, qnn, qtt, qll, qts, qst, qnt, qtn, q0, q0c, qc0, qcc, entKey, b2i, rngF1, enumSrc, enumItems, seqItems, f_l_cell_at, b_l_cell_at, h, Option.filter]
  · by_cases h0 : ns = []
    · subst h0
      refine ⟨0, ?_⟩
      simp [runF, seqM, readV, moveV, D.isHole, getS, setS, D.pur, purL, D.frz, frzL, bltF, lenF, tupleF, intF, strF, isiF, isTy, tyOf, allF, allB, sumF, allI, cmpF, truthM, D.truth, ixP, ixF, ixD, outsOf, small_def, binF, big64, lift_def, TT.pureM, hereM, callM, takeA, takeP, giveA, putP, tyM, mutM, mutF, appendF, Mu.isL, borM, frzE, D.noFro, noFroL, bmTy, bmtF, D.okEq, D.dat, datL, D.depth, depthL, qii, qss, qbb, qnn, qtt, qll, qts, qst, qnt, qtn, q0, q0c, qc0, qcc, entKey, b2i, rngF1, enumSrc, enumItems, seqItems, f_l_cell_at, b_l_cell_at, ej, Option.filter]
    · have hp : 0 < ns.length := List.length_pos_iff.mpr h0
      have hm : j % ns.length < ns.length := Nat.mod_lt _ hp
      refine ⟨ns[j % ns.length] * 31 + j, ?_⟩
      have e2 : ((j : Int) % (ns.length : Int)).toNat = j % ns.length := by rw [← Int.natCast_emod]; rfl
      have he : ns.isEmpty = false := by cases ns <;> simp_all
      have e0 : (0 : Int) ≤ ((j : Int) % (ns.length : Int)) := by omega
      simp [runF, seqM, readV, moveV, D.isHole, getS, setS, D.pur, purL, D.frz, frzL, bltF, lenF, tupleF, intF, strF, isiF, isTy, tyOf, allF, allB, sumF, allI, cmpF, truthM, D.truth, ixP, ixF, ixD, outsOf, small_def, binF, big64, lift_def, TT.pureM, hereM, callM, takeA, takeP, giveA, putP, tyM, mutM, mutF, appendF, Mu.isL, borM, frzE, D.noFro, noFroL, bmTy, bmtF, D.okEq, D.dat, datL, D.depth, depthL, qii, qss, qbb, qnn, qtt, qll, qts, qst, qnt, qtn, q0, q0c, qc0, qcc, entKey, b2i, rngF1, enumSrc, enumItems, seqItems, f_l_cell_at, b_l_cell_at, h, hp, he, e0, e2, hm, h0, Option.filter]
theorem mixed {k : Nat} (hk : 2 ≤ k) (ns : List Int) (j : Nat) (hj : j < 1000000) (m : Nat) (hm : 0 < m) : ∃ v : Nat, v < m ∧ R k "_law_mixed" [.scr ns, .int j, .int m] = .ok (.int v) [] := by
  obtain ⟨k, rfl⟩ := up hk
  obtain ⟨c, hc⟩ := cell_at (show 1 ≤ k + 1 by omega) ns j
  rw [R_l_mixed]
  generalize hd : (c + 7919 * (j : Int) + 1) * 48271 % 2147483647 = d
  have h0 : 0 ≤ d := by rw [← hd]; exact Int.emod_nonneg _ (by decide)
  have h1 : d < 2147483647 := by rw [← hd]; exact Int.emod_lt_of_pos _ (by decide)
  have hm' : (0 : Int) < m := by omega
  have b1 : (-18446744073709551616 : Int) < d := by omega
  have b2 : d < 18446744073709551616 := by omega
  refine ⟨((d * d + 7 * d + j) % 2147483629 % (m : Int)).toNat, ?_, ?_⟩
  · have := Int.emod_lt_of_pos ((d * d + 7 * d + j) % 2147483629) hm'
    have := Int.emod_nonneg ((d * d + 7 * d + j) % 2147483629) (Int.ne_of_gt hm')
    omega
  · have := Int.emod_nonneg ((d * d + 7 * d + j) % 2147483629) (Int.ne_of_gt hm')
    simp [runF, seqM, readV, moveV, D.isHole, getS, setS, D.pur, purL, D.frz, frzL, bltF, lenF, tupleF, intF, strF, isiF, isTy, tyOf, allF, allB, sumF, allI, cmpF, truthM, D.truth, ixP, ixF, ixD, outsOf, small_def, binF, big64, lift_def, TT.pureM, hereM, callM, takeA, takeP, giveA, putP, tyM, mutM, mutF, appendF, Mu.isL, borM, frzE, D.noFro, noFroL, bmTy, bmtF, D.okEq, D.dat, datL, D.depth, depthL, qii, qss, qbb, qnn, qtt, qll, qts, qst, qnt, qtn, q0, q0c, qc0, qcc, entKey, b2i, rngF1, enumSrc, enumItems, seqItems, f_l_mixed, b_l_mixed, hc, hd, b1, b2, hm, this]
    omega
/-- the town -/
def tw (n : Nat) : D := .lst true (List.replicate n (.int 0))
theorem rep_pur (n : Nat) (d : D) (h : d.pur = true) : purL (List.replicate n d) = true := by
  induction n with
  | zero => rfl
  | succ n ih => simp [List.replicate_succ, purL, h, ih]
theorem frzL_rep (n : Nat) (d : D) (h : d.pur = true) : frzL (List.replicate n d) = List.replicate n d := frzL_pur _ (rep_pur n d h)
theorem rp (n : Nat) (i : Int) : purL (List.replicate n (D.int i)) = true := rep_pur n _ rfl
theorem rf (n : Nat) (i : Int) : frzL (List.replicate n (D.int i)) = List.replicate n (D.int i) := frzL_rep n _ rfl
theorem tw_snoc (n : Nat) (d : D) : List.replicate n d ++ [d] = List.replicate (n + 1) d := (List.replicate_succ' ..).symm
theorem draw {k : Nat} (hk : 3 ≤ k) (ns : List Int) (n : Nat) (hn : n < 90000) (m : Nat) (hm : 0 < m) : ∃ v : Nat, v < m ∧ R k "_law_draw" [.scr ns, tw n, .int m] = .ok (.int v) [tw (n + 1)] := by
  obtain ⟨k, rfl⟩ := up hk
  obtain ⟨v, hv, hc⟩ := mixed (show 2 ≤ k + 2 by omega) ns (n + 1) (by omega) m hm
  refine ⟨v, hv, ?_⟩
  rw [R_l_draw]
  have e1 : n + 1 ≤ 100000 := by omega
  have hc' : R (k + 2) "_law_mixed" [.scr ns, .int ((n : Int) + 1), .int m] = .ok (.int v) [] := hc
  simp [runF, seqM, readV, moveV, D.isHole, getS, setS, D.pur, purL, D.frz, frzL, bltF, lenF, tupleF, intF, strF, isiF, isTy, tyOf, allF, allB, sumF, allI, cmpF, truthM, D.truth, ixP, ixF, ixD, outsOf, small_def, binF, big64, lift_def, TT.pureM, hereM, callM, takeA, takeP, giveA, putP, tyM, mutM, mutF, appendF, Mu.isL, borM, frzE, D.noFro, noFroL, bmTy, bmtF, D.okEq, D.dat, datL, D.depth, depthL, qii, qss, qbb, qnn, qtt, qll, qts, qst, qnt, qtn, q0, q0c, qc0, qcc, entKey, b2i, rngF1, enumSrc, enumItems, seqItems, f_l_draw, b_l_draw, tw, e1, tw_snoc, rp, rf, hc']
end TT
set_option Elab.async false
set_option linter.all false
namespace TT
open PySem
/-! ### trees -/
inductive Tr where
  | ask (f : String)
  | set (f : String) (b : Bool)
  | dee (nm : String) (n : Nat) (e : String)
  | many (w : String) (ts : List Tr)
  | one (w : String) (t : Tr)
  | cnt (w : String) (n : Nat) (t : Tr)
  | bes (n : Nat) (ts : List Tr)
  deriving Inhabited
mutual
def Tr.D : Tr → D
  | .ask f => .tup [.str "ask", .str f]
  | .set f b => .tup [.str "set", .str f, .bl b]
  | .dee nm n e => .tup [.str "do", .str nm, .int n, .str e]
  | .many w ts => .tup [.str w, .tup (trsD ts)]
  | .one w t => .tup [.str w, t.D]
  | .cnt w n t => .tup [.str w, .int n, t.D]
  | .bes n ts => .tup [.str "beside", .int n, .tup (trsD ts)]
def trsD : List Tr → List TT.D
  | [] => []
  | t :: ts => t.D :: trsD ts
end
theorem trsD_map : ∀ ts : List Tr, trsD ts = ts.map Tr.D
  | [] => rfl
  | t :: ts => by rw [trsD, trsD_map ts]; rfl
mutual
theorem Tr.pur : ∀ t : Tr, t.D.pur = true
  | .ask _ => rfl | .set _ _ => rfl | .dee _ _ _ => rfl
  | .many w ts => by simp [Tr.D, TT.D.pur, purL, trsD_pur ts]
  | .one w t => by simp [Tr.D, TT.D.pur, purL, Tr.pur t]
  | .cnt w n t => by simp [Tr.D, TT.D.pur, purL, Tr.pur t]
  | .bes n ts => by simp [Tr.D, TT.D.pur, purL, trsD_pur ts]
theorem trsD_pur : ∀ ts : List Tr, purL (trsD ts) = true
  | [] => rfl
  | t :: ts => by simp [trsD, purL, Tr.pur t, trsD_pur ts]
end
mutual
/-- right, of at most so many levels -/
def Tr.ok : Nat → Tr → Bool
  | 0, _ => false
  | _ + 1, .ask f => ["a", "b", "c"].contains f
  | _ + 1, .set f _ => ["a", "b", "c"].contains f
  | _ + 1, .dee nm n e => ["x", "y", "z", "run"].contains nm && decide (1 ≤ n) && decide (n ≤ 4) && ["yes", "no"].contains e
  | d + 1, .many w ts => ["row", "choice", "row anew", "choice anew"].contains w && !ts.isEmpty && okL d ts
  | d + 1, .one w t => ["not", "yes", "no", "keep"].contains w && Tr.ok d t
  | d + 1, .cnt w n t => ["again", "till", "hold"].contains w && decide (1 ≤ n) && decide (n ≤ 4) && Tr.ok d t
  | d + 1, .bes n ts => decide (1 ≤ n) && decide (n ≤ ts.length) && decide (n ≤ 9) && !ts.isEmpty && okL d ts
def okL : Nat → List Tr → Bool
  | _, [] => true
  | d, t :: ts => Tr.ok d t && okL d ts
end
theorem okL_iff (d : Nat) : ∀ ts : List Tr, okL d ts = true ↔ ∀ t ∈ ts, t.ok d = true
  | [] => by simp [okL]
  | t :: ts => by simp [okL, okL_iff d ts]
def Tr.parts : Tr → List Tr
  | .many _ ts => ts
  | .one _ t => [t]
  | .cnt _ _ t => [t]
  | .bes _ ts => ts
  | _ => []
mutual
def Tr.size : Tr → Nat
  | .many _ ts => 1 + sizeL ts
  | .one _ t => 1 + t.size
  | .cnt _ _ t => 1 + t.size
  | .bes _ ts => 1 + sizeL ts
  | _ => 1
def sizeL : List Tr → Nat
  | [] => 0
  | t :: ts => t.size + sizeL ts
end
theorem Tr.size_parts (t : Tr) : t.size = 1 + sizeL t.parts := by cases t <;> simp [Tr.size, Tr.parts, sizeL]
theorem sizeL_sum (ts : List Tr) : sizeL ts = (ts.map Tr.size).sum := by
  induction ts with
  | nil => rfl
  | cons t ts ih => simp [sizeL, ih]
theorem ssL_frz (xs : List String) : frzL (xs.map D.str) = xs.map D.str := by
  induction xs with
  | nil => rfl
  | cons x xs ih => simp [frzL, D.frz, ih]
theorem ssL_pur (xs : List String) : purL (xs.map D.str) = true := by
  induction xs with
  | nil => rfl
  | cons x xs ih => simp [purL, D.pur, ih]
/-- one of several is picked -/
theorem pick {k : Nat} (hk : 4 ≤ k) (ns : List Int) (n : Nat) (hn : n < 90000) (xs : List D) (hx : 0 < xs.length) (hp : purL xs = true) : ∃ x ∈ xs, R k "_law_pick" [.scr ns, .lst true (List.replicate n (.int 0)), .lst false xs] = .ok x [.lst true (List.replicate (n + 1) (.int 0))] := by
  obtain ⟨k, rfl⟩ := up hk
  obtain ⟨v, hv, hc⟩ := draw (show 3 ≤ k + 3 by omega) ns n hn xs.length hx
  refine ⟨xs[v], List.getElem_mem hv, ?_⟩
  have hp1 : xs[v].pur = true := (purL_iff xs).mp hp _ (List.getElem_mem hv)
  rw [R_l_pick]
  unfold tw at hc
  simp [runF, seqM, readV, moveV, D.isHole, getS, setS, D.pur, purL, D.frz, frzL, bltF, lenF, tupleF, intF, strF, isiF, isTy, tyOf, allF, allB, sumF, allI, cmpF, truthM, D.truth, ixP, ixF, ixD, outsOf, small_def, binF, big64, lift_def, TT.pureM, hereM, callM, takeA, takeP, giveA, putP, tyM, mutM, mutF, appendF, Mu.isL, borM, frzE, D.noFro, noFroL, bmTy, bmtF, D.okEq, D.dat, datL, D.depth, depthL, qii, qss, qbb, qnn, qtt, qll, qts, qst, qnt, qtn, q0, q0c, qc0, qcc, entKey, b2i, rngF1, enumSrc, enumItems, seqItems, f_l_pick, b_l_pick, hp, rp, rf, hc, hv, hp1, Option.filter]
theorem pickS {k : Nat} (hk : 4 ≤ k) (ns : List Int) (n : Nat) (hn : n < 90000) (ss : List String) (hx : 0 < ss.length) : ∃ s ∈ ss, R k "_law_pick" [.scr ns, .lst true (List.replicate n (.int 0)), .lst false (ss.map .str)] = .ok (.str s) [.lst true (List.replicate (n + 1) (.int 0))] := by
  obtain ⟨x, hx, h⟩ := pick hk ns n hn (ss.map .str) (by simpa using hx) (ssL_pur ss)
  obtain ⟨s, hs, rfl⟩ := List.mem_map.mp hx
  exact ⟨s, hs, h⟩
theorem drawN {k : Nat} (hk : 3 ≤ k) (ns : List Int) (n : Nat) (hn : n < 90000) (m : Nat) (hm : 0 < m) : ∃ v : Nat, v < m ∧ R k "_law_draw" [.scr ns, .lst true (List.replicate n (.int 0)), .int m] = .ok (.int v) [.lst true (List.replicate (n + 1) (.int 0))] := draw hk ns n hn m hm
theorem leaf {k : Nat} (hk : 5 ≤ k) (ns : List Int) (n : Nat) (hn : n < 80000) : ∃ (t : Tr) (m : Nat), t.ok 1 = true ∧ m ≤ 4 ∧ t.size = 1 ∧ R k "_law_leaf" [.scr ns, .lst true (List.replicate n (.int 0))] = .ok t.D [.lst true (List.replicate (n + m) (.int 0))] := by
  obtain ⟨k, rfl⟩ := up hk
  obtain ⟨v, hv, hc⟩ := drawN (show 3 ≤ k + 4 by omega) ns n (by omega) 5 (by omega)
  rw [R_l_leaf]
  simp only [Int.cast_ofNat_Int] at hc
  by_cases h0 : v = 0
  · subst h0
    obtain ⟨f, hf, hp⟩ := pickS (show 4 ≤ k + 4 by omega) ns (n + 1) (by omega) ["a", "b", "a", "b", "c"] (by decide)
    simp only [List.map_cons, List.map_nil] at hp
    refine ⟨.ask f, 2, ?_, by omega, rfl, ?_⟩
    · simp [Tr.ok] at hf ⊢; grind
    · simp [runF, seqM, readV, moveV, D.isHole, getS, setS, D.pur, purL, D.frz, frzL, bltF, lenF, tupleF, intF, strF, isiF, isTy, tyOf, allF, allB, sumF, allI, cmpF, truthM, D.truth, ixP, ixF, ixD, outsOf, small_def, binF, big64, lift_def, TT.pureM, hereM, callM, takeA, takeP, giveA, putP, tyM, mutM, mutF, appendF, Mu.isL, borM, frzE, D.noFro, noFroL, bmTy, bmtF, D.okEq, D.dat, datL, D.depth, depthL, qii, qss, qbb, qnn, qtt, qll, qts, qst, qnt, qtn, q0, q0c, qc0, qcc, entKey, b2i, rngF1, enumSrc, enumItems, seqItems, f_l_leaf, b_l_leaf, rp, rf, hc, hp, Tr.D]
  · by_cases h1 : v = 1
    · subst h1
      obtain ⟨f, hf, hp⟩ := pickS (show 4 ≤ k + 4 by omega) ns (n + 1) (by omega) ["a", "b"] (by decide)
      obtain ⟨b, hb, hd⟩ := drawN (show 3 ≤ k + 4 by omega) ns (n + 2) (by omega) 2 (by omega)
      simp only [List.map_cons, List.map_nil] at hp
      simp only [Int.cast_ofNat_Int] at hd
      refine ⟨.set f (decide (b = 1)), 3, ?_, by omega, rfl, ?_⟩
      · simp [Tr.ok] at hf ⊢; grind
      · have e1 : ((b : Int) == 1) = decide (b = 1) := by rw [Bool.eq_iff_iff]; simp; omega
        simp [runF, seqM, readV, moveV, D.isHole, getS, setS, D.pur, purL, D.frz, frzL, bltF, lenF, tupleF, intF, strF, isiF, isTy, tyOf, allF, allB, sumF, allI, cmpF, truthM, D.truth, ixP, ixF, ixD, outsOf, small_def, binF, big64, lift_def, TT.pureM, hereM, callM, takeA, takeP, giveA, putP, tyM, mutM, mutF, appendF, Mu.isL, borM, frzE, D.noFro, noFroL, bmTy, bmtF, D.okEq, D.dat, datL, D.depth, depthL, qii, qss, qbb, qnn, qtt, qll, qts, qst, qnt, qtn, q0, q0c, qc0, qcc, entKey, b2i, rngF1, enumSrc, enumItems, seqItems, f_l_leaf, b_l_leaf, rp, rf, hc, hp, hd, Tr.D, e1]
    · obtain ⟨f, hf, hp⟩ := pickS (show 4 ≤ k + 4 by omega) ns (n + 1) (by omega) ["x", "y", "z", "run"] (by decide)
      obtain ⟨b, hb, hd⟩ := drawN (show 3 ≤ k + 4 by omega) ns (n + 2) (by omega) 4 (by omega)
      obtain ⟨e, he, hq⟩ := pickS (show 4 ≤ k + 4 by omega) ns (n + 3) (by omega) ["yes", "no"] (by decide)
      simp only [List.map_cons, List.map_nil] at hp hq
      simp only [Int.cast_ofNat_Int] at hd
      refine ⟨.dee f (1 + b) e, 4, ?_, by omega, rfl, ?_⟩
      · simp [Tr.ok] at hf he ⊢; grind
      · have n0 : ¬ ((v : Int) = 0) := by omega
        have n1 : ¬ ((v : Int) = 1) := by omega
        simp [runF, seqM, readV, moveV, D.isHole, getS, setS, D.pur, purL, D.frz, frzL, bltF, lenF, tupleF, intF, strF, isiF, isTy, tyOf, allF, allB, sumF, allI, cmpF, truthM, D.truth, ixP, ixF, ixD, outsOf, small_def, binF, big64, lift_def, TT.pureM, hereM, callM, takeA, takeP, giveA, putP, tyM, mutM, mutF, appendF, Mu.isL, borM, frzE, D.noFro, noFroL, bmTy, bmtF, D.okEq, D.dat, datL, D.depth, depthL, qii, qss, qbb, qnn, qtt, qll, qts, qst, qnt, qtn, q0, q0c, qc0, qcc, entKey, b2i, rngF1, enumSrc, enumItems, seqItems, f_l_leaf, b_l_leaf, rp, rf, hc, hp, hd, hq, Tr.D, h0, h1, n0, n1]
end TT
set_option Elab.async false
set_option linter.all false
namespace TT
open PySem
mutual
theorem Tr.okS : ∀ (d : Nat) (t : Tr), t.ok d = true → t.ok (d + 1) = true
  | 0, _, h => by simp [Tr.ok] at h
  | d + 1, .ask f, h => by simpa [Tr.ok] using h
  | d + 1, .set f b, h => by simpa [Tr.ok] using h
  | d + 1, .dee a b c, h => by simpa [Tr.ok] using h
  | d + 1, .many w ts, h => by
    rw [Tr.ok] at h ⊢
    simp only [Bool.and_eq_true] at h ⊢
    exact ⟨h.1, okLS d ts h.2⟩
  | d + 1, .one w t, h => by
    rw [Tr.ok] at h ⊢
    simp only [Bool.and_eq_true] at h ⊢
    exact ⟨h.1, Tr.okS d t h.2⟩
  | d + 1, .cnt w n t, h => by
    rw [Tr.ok] at h ⊢
    simp only [Bool.and_eq_true] at h ⊢
    exact ⟨h.1, Tr.okS d t h.2⟩
  | d + 1, .bes n ts, h => by
    rw [Tr.ok] at h ⊢
    simp only [Bool.and_eq_true] at h ⊢
    exact ⟨h.1, okLS d ts h.2⟩
theorem okLS : ∀ (d : Nat) (ts : List Tr), okL d ts = true → okL (d + 1) ts = true
  | _, [], _ => rfl
  | d, t :: ts, h => by
    simp only [okL, Bool.and_eq_true] at h ⊢
    exact ⟨Tr.okS d t h.1, okLS d ts h.2⟩
end
theorem Tr.okM {d e : Nat} {t : Tr} (h : t.ok d = true) (le : d ≤ e) : t.ok e = true := by
  induction le with
  | refl => exact h
  | step _ ih => exact Tr.okS _ _ ih
theorem trsD_length (ts : List Tr) : (trsD ts).length = ts.length := by rw [trsD_map]; simp
theorem trsD_app (a b : List Tr) : trsD (a ++ b) = trsD a ++ trsD b := by simp [trsD_map]
theorem Tr.notNeg (t : Tr) : t.D.frz = t.D := D.frz_pur _ t.pur
noncomputable abbrev eltP (k : Nat) : M D := callE (R k) "_law_part" (valA (readV 0) (ioA 1 (valA (binE .Sub (readV 2) (pure (.int 1))) (ioA 3 nilA))))
def Part (ns : List Int) (d : Nat) : Prop := ∀ k, d + 6 ≤ k → ∀ n l, n + 8 * 4 ^ d ≤ 80000 → l + 4 ^ d ≤ 80000 → ∃ (t : Tr) (m j : Nat), t.ok d = true ∧ m ≤ 8 * 4 ^ d ∧ j ≤ 4 ^ d ∧ t.size = j ∧
  R k "_law_part" [.scr ns, .lst true (List.replicate n (.int 0)), .int d, .lst true (List.replicate l (.int 1))] = .ok t.D [.lst true (List.replicate (n + m) (.int 0)), .lst true (List.replicate (l + j) (.int 1))]
theorem parts_loop {ns : List Int} {d : Nat} (ih : Part ns d) {k : Nat} (hk : d + 6 ≤ k) : ∀ (xs acc : List D) (n l : Nat) (a4 a5 a6 a7 : Option D), n + xs.length * (8 * 4 ^ d) ≤ 80000 → l + xs.length * 4 ^ d ≤ 80000 → acc.length + xs.length ≤ 100000 → ∃ (ts : List Tr) (m j : Nat), ts.length = xs.length ∧ okL d ts = true ∧ m ≤ xs.length * (8 * 4 ^ d) ∧ j ≤ xs.length * 4 ^ d ∧ sizeL ts = j ∧
    lcM [7] [7] true allT (eltP k) xs acc [some (.scr ns), some (.lst true (List.replicate n (.int 0))), some (.int ((d : Int) + 1)), some (.lst true (List.replicate l (.int 1))), a4, a5, a6, a7] =
      .ok (.lst true (acc ++ trsD ts)) [some (.scr ns), some (.lst true (List.replicate (n + m) (.int 0))), some (.int ((d : Int) + 1)), some (.lst true (List.replicate (l + j) (.int 1))), a4, a5, a6, none]
  | [], acc, n, l, a4, a5, a6, a7, _, _, _ => ⟨[], 0, 0, rfl, rfl, Nat.zero_le _, Nat.zero_le _, rfl, by simp [lcM, wipeE, trsD]⟩
  | x :: xs, acc, n, l, a4, a5, a6, a7, h1, h2, h3 => by
    rw [List.length_cons, Nat.succ_mul] at h1 h2
    simp only [List.length_cons] at h3
    obtain ⟨t, m, j, ht, hm, hj, hz, e⟩ := ih k hk n l (by omega) (by omega)
    obtain ⟨ts, m', j', hl, hts, hm', hj', hz', e'⟩ := parts_loop ih hk xs (acc ++ [t.D]) (n + m) (l + j) a4 a5 a6 (some x) (by omega) (by omega) (by simp; omega)
    refine ⟨t :: ts, m + m', j + j', by simp [hl], by simp [okL, ht, hts], ?_, ?_, by rw [sizeL]; omega, ?_⟩
    · rw [List.length_cons, Nat.succ_mul]; omega
    · rw [List.length_cons, Nat.succ_mul]; omega
    · have hs : acc.length + 1 ≤ 100000 := by omega
      have e2 : ((d : Int) + 1 - 1) = d := by omega
      rw [lcM]
      simp [runF, seqM, readV, moveV, D.isHole, getS, setS, D.pur, purL, D.frz, frzL, bltF, lenF, tupleF, intF, strF, isiF, isTy, tyOf, allF, allB, sumF, allI, cmpF, truthM, D.truth, ixP, ixF, ixD, outsOf, small_def, binF, big64, lift_def, TT.pureM, hereM, callM, takeA, takeP, giveA, putP, tyM, mutM, mutF, appendF, Mu.isL, borM, frzE, D.noFro, noFroL, bmTy, bmtF, D.okEq, D.dat, datL, D.depth, depthL, qii, qss, qbb, qnn, qtt, qll, qts, qst, qnt, qtn, q0, q0c, qc0, qcc, entKey, b2i, rngF1, enumSrc, enumItems, seqItems, tgtM, wipeE, rp, rf, e, e2, Tr.pur, hs]
      simp [trsD, Nat.add_assoc] at e' ⊢
      exact e'
end TT
set_option Elab.async false
set_option linter.all false
set_option maxHeartbeats 4000000
namespace TT
open PySem
theorem part_zero (ns : List Int) : Part ns 1 := by
  intro k hk n l hn hl
  obtain ⟨k, rfl⟩ := up hk
  obtain ⟨t, m, ht, hm, hz, e⟩ := leaf (show 5 ≤ k + 6 by omega) ns n (by omega)
  refine ⟨t, m, 1, ht, by omega, by omega, hz, ?_⟩
  have hl' : l + 1 ≤ 100000 := by omega
  rw [show k + (1 + 6) = (k + 6) + 1 by omega, R_l_part]
  simp [runF, seqM, readV, moveV, D.isHole, getS, setS, D.pur, purL, D.frz, frzL, bltF, lenF, tupleF, intF, strF, isiF, isTy, tyOf, allF, allB, sumF, allI, cmpF, truthM, D.truth, ixP, ixF, ixD, outsOf, small_def, binF, big64, lift_def, TT.pureM, hereM, callM, takeA, takeP, giveA, putP, tyM, mutM, mutF, appendF, Mu.isL, borM, frzE, D.noFro, noFroL, bmTy, bmtF, D.okEq, D.dat, datL, D.depth, depthL, qii, qss, qbb, qnn, qtt, qll, qts, qst, qnt, qtn, q0, q0c, qc0, qcc, entKey, b2i, rngF1, enumSrc, enumItems, seqItems, f_l_part, b_l_part, rp, rf, e, Tr.pur, hl', tw_snoc]
theorem part_succ (ns : List Int) (d : Nat) (hd : 1 ≤ d) (ih : Part ns d) : Part ns (d + 1) := by
  intro k hk n l hn hl
  obtain ⟨k, rfl⟩ : ∃ j, k = j + 1 := ⟨k - 1, by omega⟩
  have h4 : 4 ^ (d + 1) = 4 * 4 ^ d := by rw [Nat.pow_succ]; omega
  have h41 : 4 ≤ 4 ^ d := by
    obtain ⟨e, rfl⟩ : ∃ e, d = e + 1 := ⟨d - 1, by omega⟩
    have : 1 ≤ 4 ^ e := Nat.one_le_pow _ _ (by decide)
    rw [Nat.pow_succ]; omega
  rw [h4] at hn hl ⊢
  have hl' : l + 1 ≤ 100000 := by omega
  rw [R_l_part]
  have nd : ¬ ((d : Int) + 1 = 1) := by omega
  have nd' : ¬ (d = 0) := by omega
  have ed : ((d : Int) + 1 - 1) = d := by omega
  by_cases h8 : 8 < l + 1
  · obtain ⟨t, m, ht, hm, hz, e⟩ := leaf (show 5 ≤ k by omega) ns n (by omega)
    refine ⟨t, m, 1, Tr.okM ht (by omega), by omega, by omega, hz, ?_⟩
    have h8' : (8 : Int) < (l : Int) + 1 := by omega
    simp [runF, seqM, readV, moveV, D.isHole, getS, setS, D.pur, purL, D.frz, frzL, bltF, lenF, tupleF, intF, strF, isiF, isTy, tyOf, allF, allB, sumF, allI, cmpF, truthM, D.truth, ixP, ixF, ixD, outsOf, small_def, binF, big64, lift_def, TT.pureM, hereM, callM, takeA, takeP, giveA, putP, tyM, mutM, mutF, appendF, Mu.isL, borM, frzE, D.noFro, noFroL, bmTy, bmtF, D.okEq, D.dat, datL, D.depth, depthL, qii, qss, qbb, qnn, qtt, qll, qts, qst, qnt, qtn, q0, q0c, qc0, qcc, entKey, b2i, rngF1, enumSrc, enumItems, seqItems, f_l_part, b_l_part, rp, rf, e, Tr.pur, hl', tw_snoc, nd, nd', h8, h8']
  · have h8' : ¬ (8 : Int) < (l : Int) + 1 := by omega
    obtain ⟨v, hv, hc⟩ := drawN (show 3 ≤ k by omega) ns n (by omega) 5 (by omega)
    simp only [Int.cast_ofNat_Int] at hc
    by_cases h0 : v = 0
    · obtain ⟨t, m, ht, hm, hz, e⟩ := leaf (show 5 ≤ k by omega) ns (n + 1) (by omega)
      subst h0
      refine ⟨t, 1 + m, 1, Tr.okM ht (by omega), by omega, by omega, hz, ?_⟩
      rw [Nat.add_assoc] at e
      simp [runF, seqM, readV, moveV, D.isHole, getS, setS, D.pur, purL, D.frz, frzL, bltF, lenF, tupleF, intF, strF, isiF, isTy, tyOf, allF, allB, sumF, allI, cmpF, truthM, D.truth, ixP, ixF, ixD, outsOf, small_def, binF, big64, lift_def, TT.pureM, hereM, callM, takeA, takeP, giveA, putP, tyM, mutM, mutF, appendF, Mu.isL, borM, frzE, D.noFro, noFroL, bmTy, bmtF, D.okEq, D.dat, datL, D.depth, depthL, qii, qss, qbb, qnn, qtt, qll, qts, qst, qnt, qtn, q0, q0c, qc0, qcc, entKey, b2i, rngF1, enumSrc, enumItems, seqItems, f_l_part, b_l_part, rp, rf, e, hc, Tr.pur, hl', tw_snoc, nd, nd', h8, h8']
    · have h0' : ¬ ((v : Int) = 0) := by omega
      obtain ⟨w, hw, hp⟩ := pickS (show 4 ≤ k by omega) ns (n + 1) (by omega) ["row", "choice", "row anew", "choice anew", "beside", "row", "choice anew", "not", "yes", "no", "keep", "again", "till", "hold"] (by decide)
      simp only [List.map_cons, List.map_nil] at hp
      by_cases w1 : w ∈ ["not", "yes", "no", "keep"]
      · obtain ⟨t, m, j, ht, hm, hj, hz, e⟩ := ih k (by omega) (n + 2) (l + 1) (by omega) (by omega)
        refine ⟨.one w t, 2 + m, 1 + j, ?_, by omega, by omega, by rw [Tr.size]; omega, ?_⟩
        · rw [Tr.ok, ht, Bool.and_true]; exact List.contains_iff_mem.mpr w1
        · simp only [List.mem_cons, List.not_mem_nil, or_false] at w1
          rw [Nat.add_assoc n 2 m, Nat.add_assoc l 1 j] at e
          rcases w1 with rfl | rfl | rfl | rfl <;> simp [runF, seqM, readV, moveV, D.isHole, getS, setS, D.pur, purL, D.frz, frzL, bltF, lenF, tupleF, intF, strF, isiF, isTy, tyOf, allF, allB, sumF, allI, cmpF, truthM, D.truth, ixP, ixF, ixD, outsOf, small_def, binF, big64, lift_def, TT.pureM, hereM, callM, takeA, takeP, giveA, putP, tyM, mutM, mutF, appendF, Mu.isL, borM, frzE, D.noFro, noFroL, bmTy, bmtF, D.okEq, D.dat, datL, D.depth, depthL, qii, qss, qbb, qnn, qtt, qll, qts, qst, qnt, qtn, q0, q0c, qc0, qcc, entKey, b2i, rngF1, enumSrc, enumItems, seqItems, f_l_part, b_l_part, rp, rf, e, hc, hp, Tr.pur, Tr.notNeg, Tr.D, hl', tw_snoc, nd, nd', h8, h8', h0, h0', ed]
      · by_cases w2 : w ∈ ["again", "till", "hold"]
        · obtain ⟨b, hb, hd'⟩ := drawN (show 3 ≤ k by omega) ns (n + 2) (by omega) 4 (by omega)
          obtain ⟨t, m, j, ht, hm, hj, hz, e⟩ := ih k (by omega) (n + 3) (l + 1) (by omega) (by omega)
          simp only [Int.cast_ofNat_Int] at hd'
          refine ⟨.cnt w (1 + b) t, 3 + m, 1 + j, ?_, by omega, by omega, by rw [Tr.size]; omega, ?_⟩
          · rw [Tr.ok, ht, Bool.and_true]
            simp only [Bool.and_eq_true, decide_eq_true_eq]
            exact ⟨⟨List.contains_iff_mem.mpr w2, by omega⟩, by omega⟩
          · simp only [List.mem_cons, List.not_mem_nil, or_false] at w2
            rw [Nat.add_assoc n 3 m, Nat.add_assoc l 1 j] at e
            rcases w2 with rfl | rfl | rfl <;> simp [runF, seqM, readV, moveV, D.isHole, getS, setS, D.pur, purL, D.frz, frzL, bltF, lenF, tupleF, intF, strF, isiF, isTy, tyOf, allF, allB, sumF, allI, cmpF, truthM, D.truth, ixP, ixF, ixD, outsOf, small_def, binF, big64, lift_def, TT.pureM, hereM, callM, takeA, takeP, giveA, putP, tyM, mutM, mutF, appendF, Mu.isL, borM, frzE, D.noFro, noFroL, bmTy, bmtF, D.okEq, D.dat, datL, D.depth, depthL, qii, qss, qbb, qnn, qtt, qll, qts, qst, qnt, qtn, q0, q0c, qc0, qcc, entKey, b2i, rngF1, enumSrc, enumItems, seqItems, f_l_part, b_l_part, rp, rf, e, hc, hp, hd', Tr.pur, Tr.notNeg, Tr.D, hl', tw_snoc, nd, nd', h8, h8', h0, h0', ed]
        · obtain ⟨b, hb, hd'⟩ := drawN (show 3 ≤ k by omega) ns (n + 2) (by omega) 3 (by omega)
          simp only [Int.cast_ofNat_Int] at hd'
          have hlen : (rngItems 0 ((1 : Int) + b).toNat).length = b + 1 := by simp [rngItems]; omega
          have b1 : (b + 1) * 4 ^ d ≤ 3 * 4 ^ d := Nat.mul_le_mul_right _ (by omega)
          have b2 : (b + 1) * (8 * 4 ^ d) ≤ 3 * (8 * 4 ^ d) := Nat.mul_le_mul_right _ (by omega)
          have hw' : w ∈ ["row", "choice", "row anew", "choice anew"] ∨ w = "beside" := by
            simp at hw w1 w2 ⊢; grind
          have hlt : ((1 : Int) + b) < 1000000 := by omega
          have hgt : (-1000000 : Int) < 1 + b := by omega
          obtain ⟨ts, m, j, htl, hts, hm, hj, hz, e⟩ := parts_loop ih (show d + 6 ≤ k by omega) (rngItems 0 ((1 : Int) + b).toNat) [] (n + 3) (l + 1) (some (.lst false [.str "row", .str "choice", .str "row anew", .str "choice anew", .str "beside", .str "row", .str "choice anew", .str "not", .str "yes", .str "no", .str "keep"])) (some (.str w)) none none (by rw [hlen]; omega) (by rw [hlen]; omega) (by rw [hlen]; simp; omega)
          rw [hlen] at htl hm hj
          have hne : ts ≠ [] := by intro z; subst z; simp at htl
          have hne' : ts.isEmpty = false := by cases ts <;> simp_all
          rw [List.nil_append] at e
          unfold eltP at e
          have hcons : ∃ t0 ts0, trsD ts = t0 :: ts0 := by
            cases ts with
            | nil => exact absurd rfl hne
            | cons t0 ts0 => exact ⟨_, _, rfl⟩
          rw [Nat.add_assoc n 3 m, Nat.add_assoc l 1 j] at e
          have htl' : trsD ts = [] ↔ False := by simp; intro z; obtain ⟨a, c, h⟩ := hcons; rw [h] at z; cases z
          rcases hw' with hw' | rfl
          · refine ⟨.many w ts, 3 + m, 1 + j, ?_, by omega, by omega, by rw [Tr.size]; omega, ?_⟩
            · rw [Tr.ok, hts, Bool.and_true, hne', Bool.not_false, Bool.and_true]; exact List.contains_iff_mem.mpr hw'
            · simp only [List.mem_cons, List.not_mem_nil, or_false] at hw'
              simp only [runF, f_l_part, b_l_part]
              generalize (callE (R k) "_law_part" (valA (readV 0) (ioA 1 (valA (binE .Sub (readV 2) (pure (.int 1))) (ioA 3 nilA)))) : M D) = E at e ⊢
              rcases hw' with rfl | rfl | rfl | rfl <;> simp [runF, seqM, readV, moveV, D.isHole, getS, setS, D.pur, purL, D.frz, frzL, bltF, lenF, tupleF, intF, strF, isiF, isTy, tyOf, allF, allB, sumF, allI, cmpF, truthM, D.truth, ixP, ixF, ixD, outsOf, small_def, binF, big64, lift_def, TT.pureM, hereM, callM, takeA, takeP, giveA, putP, tyM, mutM, mutF, appendF, Mu.isL, borM, frzE, D.noFro, noFroL, bmTy, bmtF, D.okEq, D.dat, datL, D.depth, depthL, qii, qss, qbb, qnn, qtt, qll, qts, qst, qnt, qtn, q0, q0c, qc0, qcc, entKey, b2i, rngF1, enumSrc, enumItems, seqItems, rp, rf, e, hc, hp, hd', Tr.D, hl', tw_snoc, nd, nd', h8, h8', h0, h0', hlt, hgt, trsD_pur]
          · obtain ⟨z, hz, hd2⟩ := drawN (show 3 ≤ k by omega) ns (n + (3 + m)) (by omega) ts.length (by omega)
            refine ⟨.bes (1 + z) ts, 4 + m, 1 + j, ?_, by omega, by omega, by rw [Tr.size]; omega, ?_⟩
            · rw [Tr.ok, hts, Bool.and_true, hne', Bool.not_false, Bool.and_true]
              simp only [Bool.and_eq_true, decide_eq_true_eq]
              omega
            · simp only [runF, f_l_part, b_l_part]
              generalize (callE (R k) "_law_part" (valA (readV 0) (ioA 1 (valA (binE .Sub (readV 2) (pure (.int 1))) (ioA 3 nilA)))) : M D) = E at e ⊢
              simp [runF, seqM, readV, moveV, D.isHole, getS, setS, D.pur, purL, D.frz, frzL, bltF, lenF, tupleF, intF, strF, isiF, isTy, tyOf, allF, allB, sumF, allI, cmpF, truthM, D.truth, ixP, ixF, ixD, outsOf, small_def, binF, big64, lift_def, TT.pureM, hereM, callM, takeA, takeP, giveA, putP, tyM, mutM, mutF, appendF, Mu.isL, borM, frzE, D.noFro, noFroL, bmTy, bmtF, D.okEq, D.dat, datL, D.depth, depthL, qii, qss, qbb, qnn, qtt, qll, qts, qst, qnt, qtn, q0, q0c, qc0, qcc, entKey, b2i, rngF1, enumSrc, enumItems, seqItems, rp, rf, e, hc, hp, hd', hd2, Tr.D, hl', tw_snoc, nd, nd', h8, h8', h0, h0', hlt, hgt, trsD_pur, trsD_length]
              omega
theorem part_all (ns : List Int) : ∀ d, 1 ≤ d → Part ns d
  | 1, _ => part_zero ns
  | d + 2, _ => part_succ ns (d + 1) (by omega) (part_all ns (d + 1) (by omega))
end TT
set_option Elab.async false
set_option linter.all false
set_option maxHeartbeats 4000000
namespace TT
open PySem
/-! ### parts, sizes -/
theorem Tr.ok_parts {d : Nat} {t : Tr} (h : t.ok (d + 1) = true) : okL d t.parts = true := by
  cases t <;> simp only [Tr.ok, Tr.parts, Bool.and_eq_true] at h ⊢ <;> first | rfl | exact h.2 | simp [okL, h.2]
theorem ok_mem {d : Nat} {ts : List Tr} (h : okL d ts = true) {t : Tr} (m : t ∈ ts) : t.ok d = true := (okL_iff d ts).mp h t m
theorem inner {k : Nat} (hk : 1 ≤ k) {d : Nat} (t : Tr) (h : t.ok d = true) : R k "_law_inner" [t.D] = .ok (.tup (trsD t.parts)) [] := by
  obtain ⟨k, rfl⟩ := up hk
  rw [R_l_inner]
  cases d with
  | zero => simp [Tr.ok] at h
  | succ d =>
    cases t with
    | ask f => simp [runF, seqM, readV, moveV, D.isHole, getS, setS, D.pur, purL, D.frz, frzL, bltF, lenF, tupleF, intF, strF, isiF, isTy, tyOf, allF, allB, sumF, allI, cmpF, truthM, D.truth, ixP, ixF, ixD, outsOf, small_def, binF, big64, lift_def, TT.pureM, hereM, callM, takeA, takeP, giveA, putP, tyM, mutM, mutF, appendF, Mu.isL, borM, frzE, D.noFro, noFroL, bmTy, bmtF, D.okEq, D.dat, datL, D.depth, depthL, qii, qss, qbb, qnn, qtt, qll, qts, qst, qnt, qtn, q0, q0c, qc0, qcc, entKey, b2i, rngF1, enumSrc, enumItems, seqItems, f_l_inner, b_l_inner, Tr.D, Tr.parts, trsD, Option.filter]
    | set f b => simp [runF, seqM, readV, moveV, D.isHole, getS, setS, D.pur, purL, D.frz, frzL, bltF, lenF, tupleF, intF, strF, isiF, isTy, tyOf, allF, allB, sumF, allI, cmpF, truthM, D.truth, ixP, ixF, ixD, outsOf, small_def, binF, big64, lift_def, TT.pureM, hereM, callM, takeA, takeP, giveA, putP, tyM, mutM, mutF, appendF, Mu.isL, borM, frzE, D.noFro, noFroL, bmTy, bmtF, D.okEq, D.dat, datL, D.depth, depthL, qii, qss, qbb, qnn, qtt, qll, qts, qst, qnt, qtn, q0, q0c, qc0, qcc, entKey, b2i, rngF1, enumSrc, enumItems, seqItems, f_l_inner, b_l_inner, Tr.D, Tr.parts, trsD, Option.filter]
    | dee a b c => simp [runF, seqM, readV, moveV, D.isHole, getS, setS, D.pur, purL, D.frz, frzL, bltF, lenF, tupleF, intF, strF, isiF, isTy, tyOf, allF, allB, sumF, allI, cmpF, truthM, D.truth, ixP, ixF, ixD, outsOf, small_def, binF, big64, lift_def, TT.pureM, hereM, callM, takeA, takeP, giveA, putP, tyM, mutM, mutF, appendF, Mu.isL, borM, frzE, D.noFro, noFroL, bmTy, bmtF, D.okEq, D.dat, datL, D.depth, depthL, qii, qss, qbb, qnn, qtt, qll, qts, qst, qnt, qtn, q0, q0c, qc0, qcc, entKey, b2i, rngF1, enumSrc, enumItems, seqItems, f_l_inner, b_l_inner, Tr.D, Tr.parts, trsD, Option.filter]
    | many w ts =>
      have hw : w ∈ ["row", "choice", "row anew", "choice anew"] := by simp only [Tr.ok, Bool.and_eq_true] at h; exact List.contains_iff_mem.mp h.1.1
      simp only [List.mem_cons, List.not_mem_nil, or_false] at hw
      rcases hw with rfl | rfl | rfl | rfl <;> simp [runF, seqM, readV, moveV, D.isHole, getS, setS, D.pur, purL, D.frz, frzL, bltF, lenF, tupleF, intF, strF, isiF, isTy, tyOf, allF, allB, sumF, allI, cmpF, truthM, D.truth, ixP, ixF, ixD, outsOf, small_def, binF, big64, lift_def, TT.pureM, hereM, callM, takeA, takeP, giveA, putP, tyM, mutM, mutF, appendF, Mu.isL, borM, frzE, D.noFro, noFroL, bmTy, bmtF, D.okEq, D.dat, datL, D.depth, depthL, qii, qss, qbb, qnn, qtt, qll, qts, qst, qnt, qtn, q0, q0c, qc0, qcc, entKey, b2i, rngF1, enumSrc, enumItems, seqItems, f_l_inner, b_l_inner, Tr.D, Tr.parts, trsD, trsD_pur, Option.filter]
    | one w t =>
      have hw : w ∈ ["not", "yes", "no", "keep"] := by simp only [Tr.ok, Bool.and_eq_true] at h; exact List.contains_iff_mem.mp h.1
      simp only [List.mem_cons, List.not_mem_nil, or_false] at hw
      rcases hw with rfl | rfl | rfl | rfl <;> simp [runF, seqM, readV, moveV, D.isHole, getS, setS, D.pur, purL, D.frz, frzL, bltF, lenF, tupleF, intF, strF, isiF, isTy, tyOf, allF, allB, sumF, allI, cmpF, truthM, D.truth, ixP, ixF, ixD, outsOf, small_def, binF, big64, lift_def, TT.pureM, hereM, callM, takeA, takeP, giveA, putP, tyM, mutM, mutF, appendF, Mu.isL, borM, frzE, D.noFro, noFroL, bmTy, bmtF, D.okEq, D.dat, datL, D.depth, depthL, qii, qss, qbb, qnn, qtt, qll, qts, qst, qnt, qtn, q0, q0c, qc0, qcc, entKey, b2i, rngF1, enumSrc, enumItems, seqItems, f_l_inner, b_l_inner, Tr.D, Tr.parts, trsD, Tr.pur, Option.filter]
    | cnt w n t =>
      have hw : w ∈ ["again", "till", "hold"] := by simp only [Tr.ok, Bool.and_eq_true] at h; exact List.contains_iff_mem.mp h.1.1.1
      simp only [List.mem_cons, List.not_mem_nil, or_false] at hw
      rcases hw with rfl | rfl | rfl <;> simp [runF, seqM, readV, moveV, D.isHole, getS, setS, D.pur, purL, D.frz, frzL, bltF, lenF, tupleF, intF, strF, isiF, isTy, tyOf, allF, allB, sumF, allI, cmpF, truthM, D.truth, ixP, ixF, ixD, outsOf, small_def, binF, big64, lift_def, TT.pureM, hereM, callM, takeA, takeP, giveA, putP, tyM, mutM, mutF, appendF, Mu.isL, borM, frzE, D.noFro, noFroL, bmTy, bmtF, D.okEq, D.dat, datL, D.depth, depthL, qii, qss, qbb, qnn, qtt, qll, qts, qst, qnt, qtn, q0, q0c, qc0, qcc, entKey, b2i, rngF1, enumSrc, enumItems, seqItems, f_l_inner, b_l_inner, Tr.D, Tr.parts, trsD, Tr.pur, Option.filter]
    | bes n ts => simp [runF, seqM, readV, moveV, D.isHole, getS, setS, D.pur, purL, D.frz, frzL, bltF, lenF, tupleF, intF, strF, isiF, isTy, tyOf, allF, allB, sumF, allI, cmpF, truthM, D.truth, ixP, ixF, ixD, outsOf, small_def, binF, big64, lift_def, TT.pureM, hereM, callM, takeA, takeP, giveA, putP, tyM, mutM, mutF, appendF, Mu.isL, borM, frzE, D.noFro, noFroL, bmTy, bmtF, D.okEq, D.dat, datL, D.depth, depthL, qii, qss, qbb, qnn, qtt, qll, qts, qst, qnt, qtn, q0, q0c, qc0, qcc, entKey, b2i, rngF1, enumSrc, enumItems, seqItems, f_l_inner, b_l_inner, Tr.D, Tr.parts, trsD, trsD_pur, Option.filter]
/-- a comprehension that takes each by itself -/
theorem lcM_map {α : Type} (i : Nat) (elt : M D) (g f : α → D) (r : Env) : ∀ (ts : List α) (acc : List D) (o : Option D), (∀ t ∈ ts, elt (r.set i (some (g t))) = .ok (f t) (r.set i (some (g t))) ∧ (f t).pur = true) → acc.length + ts.length ≤ 100000 →
    lcM [i] [i] true allT elt (ts.map g) acc (r.set i o) = .ok (.lst true (acc ++ ts.map f)) (r.set i none)
  | [], acc, o, _, _ => by simp [lcM, wipeE]
  | t :: ts, acc, o, h, hl => by
    obtain ⟨h1, h2⟩ := h t List.mem_cons_self
    have ih := lcM_map i elt g f r ts (acc ++ [f t]) (some (g t)) (fun t' m => h t' (List.mem_cons_of_mem _ m)) (by simp at hl ⊢; omega)
    simp only [List.length_cons] at hl
    have hs : acc.length + 1 ≤ 100000 := by omega
    rw [List.map_cons, lcM]
    simp [tgtM, wipeE, setS, h1, h2, small_def, hs]
    simpa using ih
theorem allI_map (xs : List Int) : allI (xs.map D.int) = some xs := by
  induction xs with
  | nil => rfl
  | cons x xs ih => simp [allI, ih]
theorem sizes_sum (ts : List Tr) : (ts.map fun t => (t.size : Int)).sum = (sizeL ts : Nat) := by
  induction ts with
  | nil => rfl
  | cons t ts ih => simp [sizeL, ih]
theorem size_le : ∀ {ts : List Tr} {t : Tr}, t ∈ ts → t.size ≤ sizeL ts
  | a :: ts, t, h => by
    rw [sizeL]
    rcases List.mem_cons.mp h with rfl | h
    · omega
    · have := size_le h; omega
theorem sizeOf : ∀ (d : Nat) {k : Nat} (_ : d + 2 ≤ k) (t : Tr) (_ : t.ok d = true) (_ : t.size ≤ 50000), R k "_law_size" [t.D] = .ok (.int t.size) []
  | 0, _, _, _, h, _ => by simp [Tr.ok] at h
  | d + 1, k, hk, t, h, hs => by
    obtain ⟨k, rfl⟩ : ∃ j, k = j + 1 := ⟨k - 1, by omega⟩
    have hi := inner (show 1 ≤ k by omega) t h
    have hp := Tr.ok_parts h
    rw [Tr.size_parts] at hs ⊢
    have hsm : ∀ t' ∈ t.parts, t'.size ≤ sizeL t.parts := fun t' m => by
      exact size_le m
    have hlen : t.parts.length ≤ sizeL t.parts := by
      rw [sizeL_sum]
      have : ∀ ts : List Tr, ts.length ≤ (ts.map Tr.size).sum := fun ts => by
        induction ts with
        | nil => simp
        | cons t ts ih => simp; have : 1 ≤ t.size := by rw [Tr.size_parts]; omega
                          omega
      exact this _
    have hl := lcM_map 1 (callE (R k) "_law_size" (valA (readV 1) nilA)) Tr.D (fun t => .int t.size) [some t.D, none] t.parts [] none (fun t' m => by
      have := sizeOf d (show d + 2 ≤ k by omega) t' (ok_mem hp m) (by have := hsm t' m; omega)
      simp [runF, seqM, readV, moveV, D.isHole, getS, setS, D.pur, purL, D.frz, frzL, bltF, lenF, tupleF, intF, strF, isiF, isTy, tyOf, allF, allB, sumF, allI, cmpF, truthM, D.truth, ixP, ixF, ixD, outsOf, small_def, binF, big64, lift_def, TT.pureM, hereM, callM, takeA, takeP, giveA, putP, tyM, mutM, mutF, appendF, Mu.isL, borM, frzE, D.noFro, noFroL, bmTy, bmtF, D.okEq, D.dat, datL, D.depth, depthL, qii, qss, qbb, qnn, qtt, qll, qts, qst, qnt, qtn, q0, q0c, qc0, qcc, entKey, b2i, rngF1, enumSrc, enumItems, seqItems, Tr.pur, Tr.notNeg, this]) (by simp; omega)
    rw [R_l_size]
    simp only [runF, f_l_size, b_l_size]
    generalize (callE (R k) "_law_size" (valA (readV 1) nilA) : M D) = E at hl ⊢
    have e2 : (t.parts.map fun t => D.int (t.size : Int)) = (t.parts.map fun t => (t.size : Int)).map D.int := by simp
    rw [List.nil_append, e2] at hl
    simp only [List.set_cons_succ, List.set_cons_zero] at hl
    rw [← trsD_map] at hl
    simp [runF, seqM, readV, moveV, D.isHole, getS, setS, D.pur, purL, D.frz, frzL, bltF, lenF, tupleF, intF, strF, isiF, isTy, tyOf, allF, allB, sumF, allI, cmpF, truthM, D.truth, ixP, ixF, ixD, outsOf, small_def, binF, big64, lift_def, TT.pureM, hereM, callM, takeA, takeP, giveA, putP, tyM, mutM, mutF, appendF, Mu.isL, borM, frzE, D.noFro, noFroL, bmTy, bmtF, D.okEq, D.dat, datL, D.depth, depthL, qii, qss, qbb, qnn, qtt, qll, qts, qst, qnt, qtn, q0, q0c, qc0, qcc, entKey, b2i, rngF1, enumSrc, enumItems, seqItems, hi, Tr.pur, Tr.notNeg, trsD_pur, hl]
    rw [← List.map_map, allI_map]
    simp [sizes_sum, outsOf]
/-- a tree of at most fourteen parts -/
theorem tree_loop (d : Nat) {k : Nat} (hk : d + 2 ≤ k) (a0 a1 a2 : Option D) : ∀ (z : Nat) (t : Tr), t.size ≤ z → z ≤ 50000 → t.ok d = true → ∃ t' : Tr, t'.ok d = true ∧ t'.size ≤ 14 ∧
    whileM (valT (cmpE .Gt (callE (R k) "_law_size" (valA (readV 3) (nilA))) (pure (.int 14)))) (seqM (setE 3 (ixE (callE (R k) "_law_inner" (valA (readV 3) (nilA))) (pure (.int 0)))) (nxS)) [a0, a1, a2, some t.D] = .ok .nx [a0, a1, a2, some t'.D]
  | 0, t, hz, _, _ => by rw [Tr.size_parts] at hz; omega
  | z + 1, t, hz, hb, h => by
    have hs := sizeOf d hk t h (by omega)
    have hi := inner (show 1 ≤ k by omega) t h
    by_cases h14 : 14 < t.size
    · cases d with
      | zero => simp [Tr.ok] at h
      | succ d =>
      have hp := Tr.ok_parts h
      cases e : t.parts with
      | nil => rw [Tr.size_parts, e] at h14; simp [sizeL] at h14
      | cons t0 ts =>
        rw [e] at hp hi
        have h0 : t0.ok (d + 1) = true := Tr.okS _ _ (ok_mem hp List.mem_cons_self)
        have hlt : t0.size ≤ z := by
          have := size_le (ts := t.parts) (t := t0) (by rw [e]; exact List.mem_cons_self)
          rw [Tr.size_parts t] at hz
          omega
        obtain ⟨t', r1, r2, r3⟩ := tree_loop (d + 1) hk a0 a1 a2 z t0 hlt (by omega) h0
        refine ⟨t', r1, r2, ?_⟩
        rw [whileM_eq]
        have h14' : (14 : Int) < (t.size : Int) := by omega
        have e1 : valT (cmpE .Gt (callE (R k) "_law_size" (valA (readV 3) (nilA))) (pure (.int 14))) [a0, a1, a2, some t.D] = .ok true [a0, a1, a2, some t.D] := by
          simp [runF, seqM, readV, moveV, D.isHole, getS, setS, D.pur, purL, D.frz, frzL, bltF, lenF, tupleF, intF, strF, isiF, isTy, tyOf, allF, allB, sumF, allI, cmpF, truthM, D.truth, ixP, ixF, ixD, outsOf, small_def, binF, big64, lift_def, TT.pureM, hereM, callM, takeA, takeP, giveA, putP, tyM, mutM, mutF, appendF, Mu.isL, borM, frzE, D.noFro, noFroL, bmTy, bmtF, D.okEq, D.dat, datL, D.depth, depthL, qii, qss, qbb, qnn, qtt, qll, qts, qst, qnt, qtn, q0, q0c, qc0, qcc, entKey, b2i, rngF1, enumSrc, enumItems, seqItems, Tr.pur, Tr.notNeg, hs, h14, h14']
        have e2 : seqM (setE 3 (ixE (callE (R k) "_law_inner" (valA (readV 3) (nilA))) (pure (.int 0)))) (nxS) [a0, a1, a2, some t.D] = .ok .nx [a0, a1, a2, some t0.D] := by
          simp [runF, seqM, readV, moveV, D.isHole, getS, setS, D.pur, purL, D.frz, frzL, bltF, lenF, tupleF, intF, strF, isiF, isTy, tyOf, allF, allB, sumF, allI, cmpF, truthM, D.truth, ixP, ixF, ixD, outsOf, small_def, binF, big64, lift_def, TT.pureM, hereM, callM, takeA, takeP, giveA, putP, tyM, mutM, mutF, appendF, Mu.isL, borM, frzE, D.noFro, noFroL, bmTy, bmtF, D.okEq, D.dat, datL, D.depth, depthL, qii, qss, qbb, qnn, qtt, qll, qts, qst, qnt, qtn, q0, q0c, qc0, qcc, entKey, b2i, rngF1, enumSrc, enumItems, seqItems, Tr.pur, Tr.notNeg, hi, trsD, Option.filter]
        rw [e1]
        simp only [e2]
        exact r3
    · refine ⟨t, h, by omega, ?_⟩
      rw [whileM_eq]
      have h14' : ¬ (14 : Int) < (t.size : Int) := by omega
      have e1 : valT (cmpE .Gt (callE (R k) "_law_size" (valA (readV 3) (nilA))) (pure (.int 14))) [a0, a1, a2, some t.D] = .ok false [a0, a1, a2, some t.D] := by
        simp [runF, seqM, readV, moveV, D.isHole, getS, setS, D.pur, purL, D.frz, frzL, bltF, lenF, tupleF, intF, strF, isiF, isTy, tyOf, allF, allB, sumF, allI, cmpF, truthM, D.truth, ixP, ixF, ixD, outsOf, small_def, binF, big64, lift_def, TT.pureM, hereM, callM, takeA, takeP, giveA, putP, tyM, mutM, mutF, appendF, Mu.isL, borM, frzE, D.noFro, noFroL, bmTy, bmtF, D.okEq, D.dat, datL, D.depth, depthL, qii, qss, qbb, qnn, qtt, qll, qts, qst, qnt, qtn, q0, q0c, qc0, qcc, entKey, b2i, rngF1, enumSrc, enumItems, seqItems, Tr.pur, Tr.notNeg, hs, h14, h14']
      rw [e1]
theorem tree {k : Nat} (hk : 13 ≤ k) (ns : List Int) (n d : Nat) (hd : 1 ≤ d) (hd5 : d ≤ 5) (hn : n ≤ 60000) : ∃ (t : Tr) (m : Nat), t.ok 5 = true ∧ t.size ≤ 14 ∧ m ≤ 8192 ∧ R k "_law_tree" [.scr ns, .lst true (List.replicate n (.int 0)), .int d] = .ok t.D [.lst true (List.replicate (n + m) (.int 0))] := by
  obtain ⟨k, rfl⟩ : ∃ j, k = j + 1 := ⟨k - 1, by omega⟩
  have h4 : 4 ^ d ≤ 1024 := Nat.le_trans (Nat.pow_le_pow_right (by decide) hd5) (by decide)
  obtain ⟨t, m, j, ht, hm, hj, hz, e⟩ := part_all ns d hd k (by omega) n 0 (by omega) (by omega)
  obtain ⟨t', ht', hs', e'⟩ := tree_loop d (show d + 2 ≤ k by omega) (some (.scr ns)) (some (.lst true (List.replicate (n + m) (.int 0)))) (some (.int d)) t.size t (Nat.le_refl _) (by omega) ht
  refine ⟨t', m, Tr.okM ht' hd5, hs', by omega, ?_⟩
  rw [R_l_tree]
  simp only [runF, f_l_tree, b_l_tree]
  generalize (whileM (valT (cmpE .Gt (callE (R k) "_law_size" (valA (readV 3) (nilA))) (pure (.int 14)))) (seqM (setE 3 (ixE (callE (R k) "_law_inner" (valA (readV 3) (nilA))) (pure (.int 0)))) (nxS)) : M Fl) = E at e' ⊢
  simp at e
  simp [runF, seqM, readV, moveV, D.isHole, getS, setS, D.pur, purL, D.frz, frzL, bltF, lenF, tupleF, intF, strF, isiF, isTy, tyOf, allF, allB, sumF, allI, cmpF, truthM, D.truth, ixP, ixF, ixD, outsOf, small_def, binF, big64, lift_def, TT.pureM, hereM, callM, takeA, takeP, giveA, putP, tyM, mutM, mutF, appendF, Mu.isL, borM, frzE, D.noFro, noFroL, bmTy, bmtF, D.okEq, D.dat, datL, D.depth, depthL, qii, qss, qbb, qnn, qtt, qll, qts, qst, qnt, qtn, q0, q0c, qc0, qcc, entKey, b2i, rngF1, enumSrc, enumItems, seqItems, rp, rf, e, e', Tr.pur]
end TT
set_option Elab.async false
set_option linter.all false
set_option maxHeartbeats 4000000
namespace TT
open PySem
theorem isWhole {k : Nat} (hk : 1 ≤ k) (i lo hi : Int) (h1 : lo ≤ i) (h2 : i ≤ hi) : R k "is_whole" [.int i, .int lo, .int hi] = .ok (.bl true) [] := by
  obtain ⟨k, rfl⟩ := up hk
  rw [R_p_is_whole]
  simp [runF, seqM, readV, moveV, D.isHole, getS, setS, D.pur, purL, D.frz, frzL, bltF, lenF, tupleF, intF, strF, isiF, isTy, tyOf, allF, allB, sumF, allI, cmpF, truthM, D.truth, ixP, ixF, ixD, outsOf, small_def, binF, big64, lift_def, TT.pureM, hereM, callM, takeA, takeP, giveA, putP, tyM, mutM, mutF, appendF, Mu.isL, borM, frzE, D.noFro, noFroL, bmTy, bmtF, D.okEq, D.dat, datL, D.depth, depthL, qii, qss, qbb, qnn, qtt, qll, qts, qst, qnt, qtn, q0, q0c, qc0, qcc, entKey, b2i, rngF1, enumSrc, enumItems, seqItems, f_p_is_whole, b_p_is_whole, chnM, h1, h2]
theorem isWord {k : Nat} (hk : 1 ≤ k) (e : String) (he : e ∈ ["yes", "no"]) : R k "is_word" [.str e, c_ENDS] = .ok (.bl true) [] := by
  obtain ⟨k, rfl⟩ := up hk
  rw [R_p_is_word]
  simp only [List.mem_cons, List.not_mem_nil, or_false] at he
  rcases he with rfl | rfl <;> simp [runF, seqM, readV, moveV, D.isHole, getS, setS, D.pur, purL, D.frz, frzL, bltF, lenF, tupleF, intF, strF, isiF, isTy, tyOf, allF, allB, sumF, allI, cmpF, truthM, D.truth, ixP, ixF, ixD, outsOf, small_def, binF, big64, lift_def, TT.pureM, hereM, callM, takeA, takeP, giveA, putP, tyM, mutM, mutF, appendF, Mu.isL, borM, frzE, D.noFro, noFroL, bmTy, bmtF, D.okEq, D.dat, datL, D.depth, depthL, qii, qss, qbb, qnn, qtt, qll, qts, qst, qnt, qtn, q0, q0c, qc0, qcc, entKey, b2i, rngF1, enumSrc, enumItems, seqItems, f_p_is_word, b_p_is_word, c_ENDS]
theorem isFlag {k : Nat} (hk : 1 ≤ k) (f : String) (hf : f ∈ ["a", "b", "c"]) : R k "is_flag" [.str f] = .ok (.bl true) [] := by
  obtain ⟨k, rfl⟩ := up hk
  rw [R_p_is_flag]
  simp only [List.mem_cons, List.not_mem_nil, or_false] at hf
  have l : f.length = 1 := by rcases hf with rfl | rfl | rfl <;> rfl
  have s : signIn f "abc" = some true := by rcases hf with rfl | rfl | rfl <;> simp [signIn]
  simp [runF, seqM, readV, moveV, D.isHole, getS, setS, D.pur, purL, D.frz, frzL, bltF, lenF, tupleF, intF, strF, isiF, isTy, tyOf, allF, allB, sumF, allI, cmpF, truthM, D.truth, ixP, ixF, ixD, outsOf, small_def, binF, big64, lift_def, TT.pureM, hereM, callM, takeA, takeP, giveA, putP, tyM, mutM, mutF, appendF, Mu.isL, borM, frzE, D.noFro, noFroL, bmTy, bmtF, D.okEq, D.dat, datL, D.depth, depthL, qii, qss, qbb, qnn, qtt, qll, qts, qst, qnt, qtn, q0, q0c, qc0, qcc, entKey, b2i, rngF1, enumSrc, enumItems, seqItems, f_p_is_flag, b_p_is_flag, c_FLAGS, l, s]
theorem isName {k : Nat} (hk : 1 ≤ k) (s : String) (hs : s ∈ ["x", "y", "z", "run"]) : R k "is_name" [.str s] = .ok (.bl true) [] := by
  obtain ⟨k, rfl⟩ := up hk
  rw [R_p_is_name]
  have e : stripF (.str s) [c_LETTERS] = some (.str "") := by
    simp only [List.mem_cons, List.not_mem_nil, or_false] at hs
    rcases hs with rfl | rfl | rfl | rfl <;> simp [stripF, c_LETTERS, stripB]
  have l1 : (1 : Int) ≤ s.length ∧ (s.length : Int) ≤ 3 := by
    simp only [List.mem_cons, List.not_mem_nil, or_false] at hs
    rcases hs with rfl | rfl | rfl | rfl <;> decide
  simp [runF, seqM, readV, moveV, D.isHole, getS, setS, D.pur, purL, D.frz, frzL, bltF, lenF, tupleF, intF, strF, isiF, isTy, tyOf, allF, allB, sumF, allI, cmpF, truthM, D.truth, ixP, ixF, ixD, outsOf, small_def, binF, big64, lift_def, TT.pureM, hereM, callM, takeA, takeP, giveA, putP, tyM, mutM, mutF, appendF, Mu.isL, borM, frzE, D.noFro, noFroL, bmTy, bmtF, D.okEq, D.dat, datL, D.depth, depthL, qii, qss, qbb, qnn, qtt, qll, qts, qst, qnt, qtn, q0, q0c, qc0, qcc, entKey, b2i, rngF1, enumSrc, enumItems, seqItems, f_p_is_name, b_p_is_name, chnM, l1.1, l1.2, e]
theorem isLeaf {k : Nat} (hk : 2 ≤ k) {d : Nat} (t : Tr) (h : t.ok d = true) (hl : t.parts = []) : R k "is_leaf" [t.D] = .ok (.bl true) [] := by
  obtain ⟨k, rfl⟩ := up hk
  rw [R_p_is_leaf]
  cases d with
  | zero => simp [Tr.ok] at h
  | succ d =>
    cases t with
    | ask f =>
      have := isFlag (show 1 ≤ k + 1 by omega) f (by simpa [Tr.ok] using h)
      simp [runF, seqM, readV, moveV, D.isHole, getS, setS, D.pur, purL, D.frz, frzL, bltF, lenF, tupleF, intF, strF, isiF, isTy, tyOf, allF, allB, sumF, allI, cmpF, truthM, D.truth, ixP, ixF, ixD, outsOf, small_def, binF, big64, lift_def, TT.pureM, hereM, callM, takeA, takeP, giveA, putP, tyM, mutM, mutF, appendF, Mu.isL, borM, frzE, D.noFro, noFroL, bmTy, bmtF, D.okEq, D.dat, datL, D.depth, depthL, qii, qss, qbb, qnn, qtt, qll, qts, qst, qnt, qtn, q0, q0c, qc0, qcc, entKey, b2i, rngF1, enumSrc, enumItems, seqItems, f_p_is_leaf, b_p_is_leaf, Tr.D, Option.filter, this]
    | set f b =>
      have := isFlag (show 1 ≤ k + 1 by omega) f (by simpa [Tr.ok] using h)
      simp [runF, seqM, readV, moveV, D.isHole, getS, setS, D.pur, purL, D.frz, frzL, bltF, lenF, tupleF, intF, strF, isiF, isTy, tyOf, allF, allB, sumF, allI, cmpF, truthM, D.truth, ixP, ixF, ixD, outsOf, small_def, binF, big64, lift_def, TT.pureM, hereM, callM, takeA, takeP, giveA, putP, tyM, mutM, mutF, appendF, Mu.isL, borM, frzE, D.noFro, noFroL, bmTy, bmtF, D.okEq, D.dat, datL, D.depth, depthL, qii, qss, qbb, qnn, qtt, qll, qts, qst, qnt, qtn, q0, q0c, qc0, qcc, entKey, b2i, rngF1, enumSrc, enumItems, seqItems, f_p_is_leaf, b_p_is_leaf, Tr.D, Option.filter, this]
    | dee nm n e =>
      simp only [Tr.ok, Bool.and_eq_true, decide_eq_true_eq] at h
      have h1 := isName (show 1 ≤ k + 1 by omega) nm (List.contains_iff_mem.mp h.1.1.1)
      have h2 := isWhole (show 1 ≤ k + 1 by omega) n 1 4 (by omega) (by omega)
      have h3 := isWord (show 1 ≤ k + 1 by omega) e (List.contains_iff_mem.mp h.2)
      simp only [c_ENDS] at h3
      simp [runF, seqM, readV, moveV, D.isHole, getS, setS, D.pur, purL, D.frz, frzL, bltF, lenF, tupleF, intF, strF, isiF, isTy, tyOf, allF, allB, sumF, allI, cmpF, truthM, D.truth, ixP, ixF, ixD, outsOf, small_def, binF, big64, lift_def, TT.pureM, hereM, callM, takeA, takeP, giveA, putP, tyM, mutM, mutF, appendF, Mu.isL, borM, frzE, D.noFro, noFroL, bmTy, bmtF, D.okEq, D.dat, datL, D.depth, depthL, qii, qss, qbb, qnn, qtt, qll, qts, qst, qnt, qtn, q0, q0c, qc0, qcc, entKey, b2i, rngF1, enumSrc, enumItems, seqItems, f_p_is_leaf, b_p_is_leaf, Tr.D, Option.filter, h1, h2, h3, c_TICKS, c_ENDS]
    | many w ts => simp [Tr.parts] at hl; subst hl; simp [Tr.ok] at h
    | one w t => simp [Tr.parts] at hl
    | cnt w n t => simp [Tr.parts] at hl
    | bes n ts => simp [Tr.parts] at hl; subst hl; simp [Tr.ok] at h
/-- what kind a word is of -/
theorem Tr.words {d : Nat} {t : Tr} (h : t.ok d = true) : (∃ f, t = .ask f) ∨ (∃ f b, t = .set f b) ∨ (∃ a b c, t = .dee a b c) ∨ (∃ w ts, t = .many w ts ∧ (w = "row" ∨ w = "choice" ∨ w = "row anew" ∨ w = "choice anew")) ∨
    (∃ w t', t = .one w t' ∧ (w = "not" ∨ w = "yes" ∨ w = "no" ∨ w = "keep")) ∨ (∃ w n t', t = .cnt w n t' ∧ (w = "again" ∨ w = "till" ∨ w = "hold")) ∨ ∃ n ts, t = .bes n ts := by
  cases d with
  | zero => simp [Tr.ok] at h
  | succ d =>
    cases t with
    | ask f => exact .inl ⟨_, rfl⟩
    | set f b => exact .inr (.inl ⟨_, _, rfl⟩)
    | dee a b c => exact .inr (.inr (.inl ⟨_, _, _, rfl⟩))
    | many w ts =>
      simp only [Tr.ok, Bool.and_eq_true] at h
      have hw := List.contains_iff_mem.mp h.1.1
      simp only [List.mem_cons, List.not_mem_nil, or_false] at hw
      exact .inr (.inr (.inr (.inl ⟨w, ts, rfl, hw⟩)))
    | one w t =>
      simp only [Tr.ok, Bool.and_eq_true] at h
      have hw := List.contains_iff_mem.mp h.1
      simp only [List.mem_cons, List.not_mem_nil, or_false] at hw
      exact .inr (.inr (.inr (.inr (.inl ⟨w, t, rfl, hw⟩))))
    | cnt w n t =>
      simp only [Tr.ok, Bool.and_eq_true] at h
      have hw := List.contains_iff_mem.mp h.1.1.1
      simp only [List.mem_cons, List.not_mem_nil, or_false] at hw
      exact .inr (.inr (.inr (.inr (.inr (.inl ⟨w, n, t, rfl, hw⟩)))))
    | bes n ts => exact .inr (.inr (.inr (.inr (.inr (.inr ⟨n, ts, rfl⟩)))))
theorem allB_true {α : Type} (ts : List α) : allB (ts.map fun _ => D.bl true) = some (ts.map fun _ => true) := by
  induction ts with
  | nil => rfl
  | cons t ts ih => simp [allB, ih]
theorem len_le : ∀ ts : List Tr, ts.length ≤ sizeL ts
  | [] => Nat.le_refl _
  | t :: ts => by
    have := len_le ts
    have : 1 ≤ t.size := by rw [Tr.size_parts]; omega
    rw [sizeL, List.length_cons]; omega
theorem arePartsOf {d : Nat} (ih : ∀ {k : Nat} (_ : 2 * d + 4 ≤ k) (t : Tr) (_ : t.ok d = true) (_ : t.size ≤ 50000), R k "is_part" [t.D, .int d] = .ok (.bl true) []) {k : Nat} (hk : 2 * d + 5 ≤ k) (ts : List Tr) (hne : ts ≠ []) (hz : sizeL ts ≤ 50000) (h : okL d ts = true) :
    R k "are_parts" [.tup (trsD ts), .int d] = .ok (.bl true) [] := by
  obtain ⟨k, rfl⟩ : ∃ j, k = j + 1 := ⟨k - 1, by omega⟩
  have hl := lcM_map 2 (callE (R k) "is_part" (valA (readV 2) (valA (readV 1) nilA))) Tr.D (fun _ => .bl true) [some (.tup (trsD ts)), some (.int d), none] ts [] none (fun t' m => by
    have := ih (show 2 * d + 4 ≤ k by omega) t' (ok_mem h m) (Nat.le_trans (size_le m) hz)
    simp [runF, seqM, readV, moveV, D.isHole, getS, setS, D.pur, purL, D.frz, frzL, bltF, lenF, tupleF, intF, strF, isiF, isTy, tyOf, allF, allB, sumF, allI, cmpF, truthM, D.truth, ixP, ixF, ixD, outsOf, small_def, binF, big64, lift_def, TT.pureM, hereM, callM, takeA, takeP, giveA, putP, tyM, mutM, mutF, appendF, Mu.isL, borM, frzE, D.noFro, noFroL, bmTy, bmtF, D.okEq, D.dat, datL, D.depth, depthL, qii, qss, qbb, qnn, qtt, qll, qts, qst, qnt, qtn, q0, q0c, qc0, qcc, entKey, b2i, rngF1, enumSrc, enumItems, seqItems, Tr.pur, Tr.notNeg, this]) (by have := len_le ts; simp; omega)
  rw [R_p_are_parts]
  simp only [runF, f_p_are_parts, b_p_are_parts]
  generalize (callE (R k) "is_part" (valA (readV 2) (valA (readV 1) nilA)) : M D) = E at hl ⊢
  simp only [List.set_cons_succ, List.set_cons_zero, List.nil_append] at hl
  rw [← trsD_map] at hl
  have hp : 0 < ts.length := List.length_pos_iff.mpr hne
  simp [runF, seqM, readV, moveV, D.isHole, getS, setS, D.pur, purL, D.frz, frzL, bltF, lenF, tupleF, intF, strF, isiF, isTy, tyOf, allF, allB, sumF, allI, cmpF, truthM, D.truth, ixP, ixF, ixD, outsOf, small_def, binF, big64, lift_def, TT.pureM, hereM, callM, takeA, takeP, giveA, putP, tyM, mutM, mutF, appendF, Mu.isL, borM, frzE, D.noFro, noFroL, bmTy, bmtF, D.okEq, D.dat, datL, D.depth, depthL, qii, qss, qbb, qnn, qtt, qll, qts, qst, qnt, qtn, q0, q0c, qc0, qcc, entKey, b2i, rngF1, enumSrc, enumItems, seqItems, Tr.pur, Tr.notNeg, trsD_pur, trsD_length, hl, hp]
  rw [allB_true]
  simp [outsOf]
theorem isPart : ∀ (d : Nat) {k : Nat} (_ : 2 * d + 4 ≤ k) (t : Tr) (_ : t.ok d = true) (_ : t.size ≤ 50000), R k "is_part" [t.D, .int d] = .ok (.bl true) []
  | 0, _, _, _, h, _ => by simp [Tr.ok] at h
  | d + 1, k, hk, t, h, hs => by
    obtain ⟨k, rfl⟩ : ∃ j, k = j + 1 := ⟨k - 1, by omega⟩
    have nd : ¬ ((d : Int) + 1 = 0) := by omega
    have ed : ((d : Int) + 1 - 1) = d := by omega
    have hh := h
    rw [R_p_is_part]
    rcases Tr.words h with ⟨f, rfl⟩ | ⟨f, b, rfl⟩ | ⟨a, b, c, rfl⟩ | ⟨w, ts, rfl, hw⟩ | ⟨w, t', rfl, hw⟩ | ⟨w, n, t', rfl, hw⟩ | ⟨n, ts, rfl⟩
    · have := isLeaf (show 2 ≤ k by omega) _ h rfl
      simp only [Tr.D] at this
      simp [runF, seqM, readV, moveV, D.isHole, getS, setS, D.pur, purL, D.frz, frzL, bltF, lenF, tupleF, intF, strF, isiF, isTy, tyOf, allF, allB, sumF, allI, cmpF, truthM, D.truth, ixP, ixF, ixD, outsOf, small_def, binF, big64, lift_def, TT.pureM, hereM, callM, takeA, takeP, giveA, putP, tyM, mutM, mutF, appendF, Mu.isL, borM, frzE, D.noFro, noFroL, bmTy, bmtF, D.okEq, D.dat, datL, D.depth, depthL, qii, qss, qbb, qnn, qtt, qll, qts, qst, qnt, qtn, q0, q0c, qc0, qcc, entKey, b2i, rngF1, enumSrc, enumItems, seqItems, f_p_is_part, b_p_is_part, Tr.D, Option.filter, nd, this]
    · have := isLeaf (show 2 ≤ k by omega) _ h rfl
      simp only [Tr.D] at this
      simp [runF, seqM, readV, moveV, D.isHole, getS, setS, D.pur, purL, D.frz, frzL, bltF, lenF, tupleF, intF, strF, isiF, isTy, tyOf, allF, allB, sumF, allI, cmpF, truthM, D.truth, ixP, ixF, ixD, outsOf, small_def, binF, big64, lift_def, TT.pureM, hereM, callM, takeA, takeP, giveA, putP, tyM, mutM, mutF, appendF, Mu.isL, borM, frzE, D.noFro, noFroL, bmTy, bmtF, D.okEq, D.dat, datL, D.depth, depthL, qii, qss, qbb, qnn, qtt, qll, qts, qst, qnt, qtn, q0, q0c, qc0, qcc, entKey, b2i, rngF1, enumSrc, enumItems, seqItems, f_p_is_part, b_p_is_part, Tr.D, Option.filter, nd, this]
    · have := isLeaf (show 2 ≤ k by omega) _ h rfl
      simp only [Tr.D] at this
      simp [runF, seqM, readV, moveV, D.isHole, getS, setS, D.pur, purL, D.frz, frzL, bltF, lenF, tupleF, intF, strF, isiF, isTy, tyOf, allF, allB, sumF, allI, cmpF, truthM, D.truth, ixP, ixF, ixD, outsOf, small_def, binF, big64, lift_def, TT.pureM, hereM, callM, takeA, takeP, giveA, putP, tyM, mutM, mutF, appendF, Mu.isL, borM, frzE, D.noFro, noFroL, bmTy, bmtF, D.okEq, D.dat, datL, D.depth, depthL, qii, qss, qbb, qnn, qtt, qll, qts, qst, qnt, qtn, q0, q0c, qc0, qcc, entKey, b2i, rngF1, enumSrc, enumItems, seqItems, f_p_is_part, b_p_is_part, Tr.D, Option.filter, nd, this]
    · simp only [Tr.ok, Bool.and_eq_true] at h
      have hne : ts ≠ [] := by intro z; subst z; simp at h
      rw [Tr.size] at hs
      have e := arePartsOf (d := d) (fun hk t h hs => isPart d hk t h hs) (show 2 * d + 5 ≤ k by omega) ts hne (by omega) h.2
      rcases hw with rfl | rfl | rfl | rfl <;> simp [runF, seqM, readV, moveV, D.isHole, getS, setS, D.pur, purL, D.frz, frzL, bltF, lenF, tupleF, intF, strF, isiF, isTy, tyOf, allF, allB, sumF, allI, cmpF, truthM, D.truth, ixP, ixF, ixD, outsOf, small_def, binF, big64, lift_def, TT.pureM, hereM, callM, takeA, takeP, giveA, putP, tyM, mutM, mutF, appendF, Mu.isL, borM, frzE, D.noFro, noFroL, bmTy, bmtF, D.okEq, D.dat, datL, D.depth, depthL, qii, qss, qbb, qnn, qtt, qll, qts, qst, qnt, qtn, q0, q0c, qc0, qcc, entKey, b2i, rngF1, enumSrc, enumItems, seqItems, f_p_is_part, b_p_is_part, Tr.D, Option.filter, nd, ed, e, trsD_pur, c_MANY_KINDS, frzL_pur]
    · simp only [Tr.ok, Bool.and_eq_true] at h
      rw [Tr.size] at hs
      have e := isPart d (show 2 * d + 4 ≤ k by omega) t' h.2 (by omega)
      rcases hw with rfl | rfl | rfl | rfl <;> simp [runF, seqM, readV, moveV, D.isHole, getS, setS, D.pur, purL, D.frz, frzL, bltF, lenF, tupleF, intF, strF, isiF, isTy, tyOf, allF, allB, sumF, allI, cmpF, truthM, D.truth, ixP, ixF, ixD, outsOf, small_def, binF, big64, lift_def, TT.pureM, hereM, callM, takeA, takeP, giveA, putP, tyM, mutM, mutF, appendF, Mu.isL, borM, frzE, D.noFro, noFroL, bmTy, bmtF, D.okEq, D.dat, datL, D.depth, depthL, qii, qss, qbb, qnn, qtt, qll, qts, qst, qnt, qtn, q0, q0c, qc0, qcc, entKey, b2i, rngF1, enumSrc, enumItems, seqItems, f_p_is_part, b_p_is_part, Tr.D, Option.filter, nd, ed, e, Tr.pur, Tr.notNeg, c_MANY_KINDS, c_ONE_KINDS]
    · simp only [Tr.ok, Bool.and_eq_true, decide_eq_true_eq] at h
      rw [Tr.size] at hs
      have e := isPart d (show 2 * d + 4 ≤ k by omega) t' h.2 (by omega)
      have e2 := isWhole (show 1 ≤ k by omega) n 1 4 (by omega) (by omega)
      rcases hw with rfl | rfl | rfl <;> simp [runF, seqM, readV, moveV, D.isHole, getS, setS, D.pur, purL, D.frz, frzL, bltF, lenF, tupleF, intF, strF, isiF, isTy, tyOf, allF, allB, sumF, allI, cmpF, truthM, D.truth, ixP, ixF, ixD, outsOf, small_def, binF, big64, lift_def, TT.pureM, hereM, callM, takeA, takeP, giveA, putP, tyM, mutM, mutF, appendF, Mu.isL, borM, frzE, D.noFro, noFroL, bmTy, bmtF, D.okEq, D.dat, datL, D.depth, depthL, qii, qss, qbb, qnn, qtt, qll, qts, qst, qnt, qtn, q0, q0c, qc0, qcc, entKey, b2i, rngF1, enumSrc, enumItems, seqItems, f_p_is_part, b_p_is_part, Tr.D, Option.filter, nd, ed, e, e2, Tr.pur, Tr.notNeg, c_MANY_KINDS, c_ONE_KINDS, c_COUNT_KINDS, c_TIMES]
    · simp only [Tr.ok, Bool.and_eq_true, decide_eq_true_eq] at h
      have hne : ts ≠ [] := by intro z; subst z; simp at h
      rw [Tr.size] at hs
      have e := arePartsOf (d := d) (fun hk t h hs => isPart d hk t h hs) (show 2 * d + 5 ≤ k by omega) ts hne (by omega) h.2
      have e2 := isWhole (show 1 ≤ k by omega) n 1 ts.length (by omega) (by omega)
      simp [runF, seqM, readV, moveV, D.isHole, getS, setS, D.pur, purL, D.frz, frzL, bltF, lenF, tupleF, intF, strF, isiF, isTy, tyOf, allF, allB, sumF, allI, cmpF, truthM, D.truth, ixP, ixF, ixD, outsOf, small_def, binF, big64, lift_def, TT.pureM, hereM, callM, takeA, takeP, giveA, putP, tyM, mutM, mutF, appendF, Mu.isL, borM, frzE, D.noFro, noFroL, bmTy, bmtF, D.okEq, D.dat, datL, D.depth, depthL, qii, qss, qbb, qnn, qtt, qll, qts, qst, qnt, qtn, q0, q0c, qc0, qcc, entKey, b2i, rngF1, enumSrc, enumItems, seqItems, f_p_is_part, b_p_is_part, Tr.D, Option.filter, nd, ed, e, e2, trsD_pur, trsD_length, c_MANY_KINDS, c_ONE_KINDS, c_COUNT_KINDS, c_TIMES, frzL_pur]
theorem partsOf {k : Nat} (hk : 1 ≤ k) {d : Nat} (t : Tr) (h : t.ok d = true) : R k "parts_of" [t.D] = .ok (.tup (trsD t.parts)) [] := by
  obtain ⟨k, rfl⟩ := up hk
  rw [R_p_parts_of]
  rcases Tr.words h with ⟨f, rfl⟩ | ⟨f, b, rfl⟩ | ⟨a, b, c, rfl⟩ | ⟨w, ts, rfl, hw⟩ | ⟨w, t', rfl, hw⟩ | ⟨w, n, t', rfl, hw⟩ | ⟨n, ts, rfl⟩
  · simp [runF, seqM, readV, moveV, D.isHole, getS, setS, D.pur, purL, D.frz, frzL, bltF, lenF, tupleF, intF, strF, isiF, isTy, tyOf, allF, allB, sumF, allI, cmpF, truthM, D.truth, ixP, ixF, ixD, outsOf, small_def, binF, big64, lift_def, TT.pureM, hereM, callM, takeA, takeP, giveA, putP, tyM, mutM, mutF, appendF, Mu.isL, borM, frzE, D.noFro, noFroL, bmTy, bmtF, D.okEq, D.dat, datL, D.depth, depthL, qii, qss, qbb, qnn, qtt, qll, qts, qst, qnt, qtn, q0, q0c, qc0, qcc, entKey, b2i, rngF1, enumSrc, enumItems, seqItems, f_p_parts_of, b_p_parts_of, Tr.D, Tr.parts, trsD, Option.filter, c_MANY_KINDS, c_ONE_KINDS, c_COUNT_KINDS]
  · simp [runF, seqM, readV, moveV, D.isHole, getS, setS, D.pur, purL, D.frz, frzL, bltF, lenF, tupleF, intF, strF, isiF, isTy, tyOf, allF, allB, sumF, allI, cmpF, truthM, D.truth, ixP, ixF, ixD, outsOf, small_def, binF, big64, lift_def, TT.pureM, hereM, callM, takeA, takeP, giveA, putP, tyM, mutM, mutF, appendF, Mu.isL, borM, frzE, D.noFro, noFroL, bmTy, bmtF, D.okEq, D.dat, datL, D.depth, depthL, qii, qss, qbb, qnn, qtt, qll, qts, qst, qnt, qtn, q0, q0c, qc0, qcc, entKey, b2i, rngF1, enumSrc, enumItems, seqItems, f_p_parts_of, b_p_parts_of, Tr.D, Tr.parts, trsD, Option.filter, c_MANY_KINDS, c_ONE_KINDS, c_COUNT_KINDS]
  · simp [runF, seqM, readV, moveV, D.isHole, getS, setS, D.pur, purL, D.frz, frzL, bltF, lenF, tupleF, intF, strF, isiF, isTy, tyOf, allF, allB, sumF, allI, cmpF, truthM, D.truth, ixP, ixF, ixD, outsOf, small_def, binF, big64, lift_def, TT.pureM, hereM, callM, takeA, takeP, giveA, putP, tyM, mutM, mutF, appendF, Mu.isL, borM, frzE, D.noFro, noFroL, bmTy, bmtF, D.okEq, D.dat, datL, D.depth, depthL, qii, qss, qbb, qnn, qtt, qll, qts, qst, qnt, qtn, q0, q0c, qc0, qcc, entKey, b2i, rngF1, enumSrc, enumItems, seqItems, f_p_parts_of, b_p_parts_of, Tr.D, Tr.parts, trsD, Option.filter, c_MANY_KINDS, c_ONE_KINDS, c_COUNT_KINDS]
  · rcases hw with rfl | rfl | rfl | rfl <;> simp [runF, seqM, readV, moveV, D.isHole, getS, setS, D.pur, purL, D.frz, frzL, bltF, lenF, tupleF, intF, strF, isiF, isTy, tyOf, allF, allB, sumF, allI, cmpF, truthM, D.truth, ixP, ixF, ixD, outsOf, small_def, binF, big64, lift_def, TT.pureM, hereM, callM, takeA, takeP, giveA, putP, tyM, mutM, mutF, appendF, Mu.isL, borM, frzE, D.noFro, noFroL, bmTy, bmtF, D.okEq, D.dat, datL, D.depth, depthL, qii, qss, qbb, qnn, qtt, qll, qts, qst, qnt, qtn, q0, q0c, qc0, qcc, entKey, b2i, rngF1, enumSrc, enumItems, seqItems, f_p_parts_of, b_p_parts_of, Tr.D, Tr.parts, trsD_pur, Option.filter, c_MANY_KINDS, c_ONE_KINDS, c_COUNT_KINDS]
  · rcases hw with rfl | rfl | rfl | rfl <;> simp [runF, seqM, readV, moveV, D.isHole, getS, setS, D.pur, purL, D.frz, frzL, bltF, lenF, tupleF, intF, strF, isiF, isTy, tyOf, allF, allB, sumF, allI, cmpF, truthM, D.truth, ixP, ixF, ixD, outsOf, small_def, binF, big64, lift_def, TT.pureM, hereM, callM, takeA, takeP, giveA, putP, tyM, mutM, mutF, appendF, Mu.isL, borM, frzE, D.noFro, noFroL, bmTy, bmtF, D.okEq, D.dat, datL, D.depth, depthL, qii, qss, qbb, qnn, qtt, qll, qts, qst, qnt, qtn, q0, q0c, qc0, qcc, entKey, b2i, rngF1, enumSrc, enumItems, seqItems, f_p_parts_of, b_p_parts_of, Tr.D, Tr.parts, trsD, Tr.pur, Option.filter, c_MANY_KINDS, c_ONE_KINDS, c_COUNT_KINDS]
  · rcases hw with rfl | rfl | rfl <;> simp [runF, seqM, readV, moveV, D.isHole, getS, setS, D.pur, purL, D.frz, frzL, bltF, lenF, tupleF, intF, strF, isiF, isTy, tyOf, allF, allB, sumF, allI, cmpF, truthM, D.truth, ixP, ixF, ixD, outsOf, small_def, binF, big64, lift_def, TT.pureM, hereM, callM, takeA, takeP, giveA, putP, tyM, mutM, mutF, appendF, Mu.isL, borM, frzE, D.noFro, noFroL, bmTy, bmtF, D.okEq, D.dat, datL, D.depth, depthL, qii, qss, qbb, qnn, qtt, qll, qts, qst, qnt, qtn, q0, q0c, qc0, qcc, entKey, b2i, rngF1, enumSrc, enumItems, seqItems, f_p_parts_of, b_p_parts_of, Tr.D, Tr.parts, trsD, Tr.pur, Option.filter, c_MANY_KINDS, c_ONE_KINDS, c_COUNT_KINDS]
  · simp [runF, seqM, readV, moveV, D.isHole, getS, setS, D.pur, purL, D.frz, frzL, bltF, lenF, tupleF, intF, strF, isiF, isTy, tyOf, allF, allB, sumF, allI, cmpF, truthM, D.truth, ixP, ixF, ixD, outsOf, small_def, binF, big64, lift_def, TT.pureM, hereM, callM, takeA, takeP, giveA, putP, tyM, mutM, mutF, appendF, Mu.isL, borM, frzE, D.noFro, noFroL, bmTy, bmtF, D.okEq, D.dat, datL, D.depth, depthL, qii, qss, qbb, qnn, qtt, qll, qts, qst, qnt, qtn, q0, q0c, qc0, qcc, entKey, b2i, rngF1, enumSrc, enumItems, seqItems, f_p_parts_of, b_p_parts_of, Tr.D, Tr.parts, trsD_pur, Option.filter, c_MANY_KINDS, c_ONE_KINDS, c_COUNT_KINDS]
theorem sizeOfP : ∀ (d : Nat) {k : Nat} (_ : d + 2 ≤ k) (t : Tr) (_ : t.ok d = true) (_ : t.size ≤ 50000), R k "size_of" [t.D] = .ok (.int t.size) []
  | 0, _, _, _, h, _ => by simp [Tr.ok] at h
  | d + 1, k, hk, t, h, hs => by
    obtain ⟨k, rfl⟩ : ∃ j, k = j + 1 := ⟨k - 1, by omega⟩
    have hi := partsOf (show 1 ≤ k by omega) t h
    have hp := Tr.ok_parts h
    rw [Tr.size_parts] at hs ⊢
    have hl := lcM_map 1 (callE (R k) "size_of" (valA (readV 1) nilA)) Tr.D (fun t => .int t.size) [some t.D, none] t.parts [] none (fun t' m => by
      have := sizeOfP d (show d + 2 ≤ k by omega) t' (ok_mem hp m) (by have := size_le m; omega)
      simp [runF, seqM, readV, moveV, D.isHole, getS, setS, D.pur, purL, D.frz, frzL, bltF, lenF, tupleF, intF, strF, isiF, isTy, tyOf, allF, allB, sumF, allI, cmpF, truthM, D.truth, ixP, ixF, ixD, outsOf, small_def, binF, big64, lift_def, TT.pureM, hereM, callM, takeA, takeP, giveA, putP, tyM, mutM, mutF, appendF, Mu.isL, borM, frzE, D.noFro, noFroL, bmTy, bmtF, D.okEq, D.dat, datL, D.depth, depthL, qii, qss, qbb, qnn, qtt, qll, qts, qst, qnt, qtn, q0, q0c, qc0, qcc, entKey, b2i, rngF1, enumSrc, enumItems, seqItems, Tr.pur, Tr.notNeg, this]) (by have := len_le t.parts; simp; omega)
    rw [R_p_size_of]
    simp only [runF, f_p_size_of, b_p_size_of]
    generalize (callE (R k) "size_of" (valA (readV 1) nilA) : M D) = E at hl ⊢
    have e2 : (t.parts.map fun t => D.int (t.size : Int)) = (t.parts.map fun t => (t.size : Int)).map D.int := by simp
    rw [List.nil_append, e2] at hl
    simp only [List.set_cons_succ, List.set_cons_zero] at hl
    rw [← trsD_map] at hl
    simp [runF, seqM, readV, moveV, D.isHole, getS, setS, D.pur, purL, D.frz, frzL, bltF, lenF, tupleF, intF, strF, isiF, isTy, tyOf, allF, allB, sumF, allI, cmpF, truthM, D.truth, ixP, ixF, ixD, outsOf, small_def, binF, big64, lift_def, TT.pureM, hereM, callM, takeA, takeP, giveA, putP, tyM, mutM, mutF, appendF, Mu.isL, borM, frzE, D.noFro, noFroL, bmTy, bmtF, D.okEq, D.dat, datL, D.depth, depthL, qii, qss, qbb, qnn, qtt, qll, qts, qst, qnt, qtn, q0, q0c, qc0, qcc, entKey, b2i, rngF1, enumSrc, enumItems, seqItems, hi, Tr.pur, Tr.notNeg, trsD_pur, hl]
    rw [← List.map_map, allI_map]
    simp [sizes_sum, outsOf]
theorem isTree {k : Nat} (hk : 15 ≤ k) (t : Tr) (h : t.ok 5 = true) (hs : t.size ≤ 14) : R k "is_tree" [t.D] = .ok (.bl true) [] := by
  obtain ⟨k, rfl⟩ : ∃ j, k = j + 1 := ⟨k - 1, by omega⟩
  have h1 := isPart 5 (show 2 * 5 + 4 ≤ k by omega) t h (by omega)
  have h2 := sizeOfP 5 (show 5 + 2 ≤ k by omega) t h (by omega)
  simp only [Int.cast_ofNat_Int] at h1
  have hs' : (t.size : Int) ≤ 14 := by omega
  rw [R_p_is_tree]
  simp [runF, seqM, readV, moveV, D.isHole, getS, setS, D.pur, purL, D.frz, frzL, bltF, lenF, tupleF, intF, strF, isiF, isTy, tyOf, allF, allB, sumF, allI, cmpF, truthM, D.truth, ixP, ixF, ixD, outsOf, small_def, binF, big64, lift_def, TT.pureM, hereM, callM, takeA, takeP, giveA, putP, tyM, mutM, mutF, appendF, Mu.isL, borM, frzE, D.noFro, noFroL, bmTy, bmtF, D.okEq, D.dat, datL, D.depth, depthL, qii, qss, qbb, qnn, qtt, qll, qts, qst, qnt, qtn, q0, q0c, qc0, qcc, entKey, b2i, rngF1, enumSrc, enumItems, seqItems, f_p_is_tree, b_p_is_tree, Tr.pur, Tr.notNeg, h1, h2, c_DEEP, c_SIZE, hs, hs']
theorem needTree {k : Nat} (hk : 16 ≤ k) (t : Tr) (h : t.ok 5 = true) (hs : t.size ≤ 14) : R k "need_tree" [t.D] = .ok .non [] := by
  obtain ⟨k, rfl⟩ : ∃ j, k = j + 1 := ⟨k - 1, by omega⟩
  rw [R_p_need_tree]
  simp [runF, seqM, readV, moveV, D.isHole, getS, setS, D.pur, purL, D.frz, frzL, bltF, lenF, tupleF, intF, strF, isiF, isTy, tyOf, allF, allB, sumF, allI, cmpF, truthM, D.truth, ixP, ixF, ixD, outsOf, small_def, binF, big64, lift_def, TT.pureM, hereM, callM, takeA, takeP, giveA, putP, tyM, mutM, mutF, appendF, Mu.isL, borM, frzE, D.noFro, noFroL, bmTy, bmtF, D.okEq, D.dat, datL, D.depth, depthL, qii, qss, qbb, qnn, qtt, qll, qts, qst, qnt, qtn, q0, q0c, qc0, qcc, entKey, b2i, rngF1, enumSrc, enumItems, seqItems, f_p_need_tree, b_p_need_tree, Tr.pur, Tr.notNeg, isTree (show 15 ≤ k by omega) t h hs]
end TT
set_option Elab.async false
set_option linter.all false
set_option maxHeartbeats 4000000
namespace TT
open PySem
/-! ### texts -/
def Tr.head : Tr → String
  | .ask f => "ask " ++ f
  | .set f b => "set " ++ f ++ (if b then " up" else " down")
  | .dee nm n e => joinS " " ["do", nm, natStr n, e]
  | .many w _ => w
  | .one w _ => w
  | .cnt w n _ => w ++ " " ++ natStr n
  | .bes n _ => "beside " ++ natStr n
mutual
def Tr.txt : Tr → String
  | .many w ts => w ++ "(" ++ joinS "; " (txts ts) ++ ")"
  | .one w t => w ++ "(" ++ t.txt ++ ")"
  | .cnt w n t => w ++ " " ++ natStr n ++ "(" ++ t.txt ++ ")"
  | .bes n ts => "beside " ++ natStr n ++ "(" ++ joinS "; " (txts ts) ++ ")"
  | .ask f => "ask " ++ f
  | .set f b => "set " ++ f ++ (if b then " up" else " down")
  | .dee nm n e => joinS " " ["do", nm, natStr n, e]
def txts : List Tr → List String
  | [] => []
  | t :: ts => t.txt :: txts ts
end
theorem txts_map : ∀ ts : List Tr, txts ts = ts.map Tr.txt
  | [] => rfl
  | t :: ts => by rw [txts, txts_map ts]; rfl
theorem Tr.txt_leaf {d : Nat} {t : Tr} (h : t.parts = []) (hk : t.ok d = true) : t.txt = t.head := by
  cases d with
  | zero => simp [Tr.ok] at hk
  | succ d => cases t <;> first | rfl | (simp [Tr.parts] at h; done) | (simp [Tr.parts] at h; subst h; simp [Tr.ok] at hk; done)
theorem Tr.txt_parts {d : Nat} {t : Tr} (hd : t.ok d = true) (h : t.parts ≠ []) : t.txt = t.head ++ "(" ++ joinS "; " (txts t.parts) ++ ")" := by
  cases t <;> first | rfl | (simp [Tr.parts] at h)
mutual
theorem Tr.dat : ∀ t : Tr, t.D.dat = true
  | .ask _ => rfl | .set _ _ => rfl | .dee _ _ _ => rfl
  | .many w ts => by simp [Tr.D, D.dat, datL, trsD_dat ts]
  | .one w t => by simp [Tr.D, D.dat, datL, Tr.dat t]
  | .cnt w n t => by simp [Tr.D, D.dat, datL, Tr.dat t]
  | .bes n ts => by simp [Tr.D, D.dat, datL, trsD_dat ts]
theorem trsD_dat : ∀ ts : List Tr, datL (trsD ts) = true
  | [] => rfl
  | t :: ts => by simp [trsD, datL, Tr.dat t, trsD_dat ts]
end
mutual
theorem Tr.dep : ∀ (d : Nat) (t : Tr), t.ok d = true → t.D.depth ≤ 2 * d
  | 0, _, h => by simp [Tr.ok] at h
  | d + 1, .ask _, _ => by simp [Tr.D, D.depth, depthL]; omega
  | d + 1, .set _ _, _ => by simp [Tr.D, D.depth, depthL]; omega
  | d + 1, .dee _ _ _, _ => by simp [Tr.D, D.depth, depthL]; omega
  | d + 1, .many w ts, h => by
    simp only [Tr.ok, Bool.and_eq_true] at h
    have := trsD_dep d ts h.2
    simp [Tr.D, D.depth, depthL]; omega
  | d + 1, .one w t, h => by
    simp only [Tr.ok, Bool.and_eq_true] at h
    have := Tr.dep d t h.2
    simp [Tr.D, D.depth, depthL]; omega
  | d + 1, .cnt w n t, h => by
    simp only [Tr.ok, Bool.and_eq_true] at h
    have := Tr.dep d t h.2
    simp [Tr.D, D.depth, depthL]; omega
  | d + 1, .bes n ts, h => by
    simp only [Tr.ok, Bool.and_eq_true] at h
    have := trsD_dep d ts h.2
    simp [Tr.D, D.depth, depthL]; omega
theorem trsD_dep : ∀ (d : Nat) (ts : List Tr), okL d ts = true → depthL (trsD ts) ≤ 2 * d
  | _, [], _ => by simp [trsD, depthL]
  | d, t :: ts, h => by
    simp only [okL, Bool.and_eq_true] at h
    have := Tr.dep d t h.1
    have := trsD_dep d ts h.2
    simp [trsD, depthL]; omega
end
theorem pyEqL_nil (ts : List Tr) : pyEqL (trsD ts) [] = ts.isEmpty := by cases ts <;> simp [trsD, pyEqL]
theorem natStr_len (n : Nat) (h : n ≤ 9) : (natStr n).length = 1 := by
  have : n = 0 ∨ n = 1 ∨ n = 2 ∨ n = 3 ∨ n = 4 ∨ n = 5 ∨ n = 6 ∨ n = 7 ∨ n = 8 ∨ n = 9 := by omega
  rcases this with rfl | rfl | rfl | rfl | rfl | rfl | rfl | rfl | rfl | rfl <;> decide
theorem headOf {k : Nat} (hk : 1 ≤ k) {d : Nat} (t : Tr) (h : t.ok d = true) : R k "head_of" [t.D] = .ok (.str t.head) [] := by
  obtain ⟨k, rfl⟩ := up hk
  rw [R_p_head_of]
  cases d with
  | zero => simp [Tr.ok] at h
  | succ d =>
  rcases Tr.words h with ⟨f, rfl⟩ | ⟨f, b, rfl⟩ | ⟨a, b, c, rfl⟩ | ⟨w, ts, rfl, hw⟩ | ⟨w, t', rfl, hw⟩ | ⟨w, n, t', rfl, hw⟩ | ⟨n, ts, rfl⟩
  · have hf : f ∈ ["a", "b", "c"] := by simpa [Tr.ok] using h
    simp only [List.mem_cons, List.not_mem_nil, or_false] at hf
    have l : f.length = 1 := by rcases hf with rfl | rfl | rfl <;> rfl
    have l4 : "ask ".length = 4 := rfl
    simp [runF, seqM, readV, moveV, D.isHole, getS, setS, D.pur, purL, D.frz, frzL, bltF, lenF, tupleF, intF, strF, isiF, isTy, tyOf, allF, allB, sumF, allI, cmpF, truthM, D.truth, ixP, ixF, ixD, outsOf, small_def, binF, big64, lift_def, TT.pureM, hereM, callM, takeA, takeP, giveA, putP, tyM, mutM, mutF, appendF, Mu.isL, borM, frzE, D.noFro, noFroL, bmTy, bmtF, D.okEq, D.dat, datL, D.depth, depthL, qii, qss, qbb, qnn, qtt, qll, qts, qst, qnt, qtn, q0, q0c, qc0, qcc, entKey, b2i, rngF1, enumSrc, enumItems, seqItems, f_p_head_of, b_p_head_of, Tr.D, Tr.head, Option.filter, trsD_pur, Tr.pur, l, l4]
  · have hf : f ∈ ["a", "b", "c"] := by simpa [Tr.ok] using h
    simp only [List.mem_cons, List.not_mem_nil, or_false] at hf
    have l : f.length = 1 := by rcases hf with rfl | rfl | rfl <;> rfl
    have l4 : "set ".length = 4 := rfl
    have l5 : " up".length = 3 := rfl
    have l6 : " down".length = 5 := rfl
    cases b <;> simp [runF, seqM, readV, moveV, D.isHole, getS, setS, D.pur, purL, D.frz, frzL, bltF, lenF, tupleF, intF, strF, isiF, isTy, tyOf, allF, allB, sumF, allI, cmpF, truthM, D.truth, ixP, ixF, ixD, outsOf, small_def, binF, big64, lift_def, TT.pureM, hereM, callM, takeA, takeP, giveA, putP, tyM, mutM, mutF, appendF, Mu.isL, borM, frzE, D.noFro, noFroL, bmTy, bmtF, D.okEq, D.dat, datL, D.depth, depthL, qii, qss, qbb, qnn, qtt, qll, qts, qst, qnt, qtn, q0, q0c, qc0, qcc, entKey, b2i, rngF1, enumSrc, enumItems, seqItems, f_p_head_of, b_p_head_of, Tr.D, Tr.head, Option.filter, trsD_pur, Tr.pur, l, l4, l5, l6]
  · simp only [Tr.ok, Bool.and_eq_true, decide_eq_true_eq] at h
    have h1 := List.contains_iff_mem.mp h.1.1.1
    have h2 := List.contains_iff_mem.mp h.2
    simp only [List.mem_cons, List.not_mem_nil, or_false] at h1 h2
    have l1 : a.length ≤ 3 := by rcases h1 with rfl | rfl | rfl | rfl <;> decide
    have l2 : c.length ≤ 3 := by rcases h2 with rfl | rfl <;> decide
    have l3 := natStr_len b (by omega)
    have l4 : "do".length = 2 := rfl
    have l5 : " ".length = 1 := rfl
    have hb : (b : Int) ≤ 99 := by omega
    have hb' : b ≤ 99 := by omega
    have hz : 2 + (a.length + (1 + c.length)) + 4 ≤ 100000 := by omega
    simp [runF, seqM, readV, moveV, D.isHole, getS, setS, D.pur, purL, D.frz, frzL, bltF, lenF, tupleF, intF, strF, isiF, isTy, tyOf, allF, allB, sumF, allI, cmpF, truthM, D.truth, ixP, ixF, ixD, outsOf, small_def, binF, big64, lift_def, TT.pureM, hereM, callM, takeA, takeP, giveA, putP, tyM, mutM, mutF, appendF, Mu.isL, borM, frzE, D.noFro, noFroL, bmTy, bmtF, D.okEq, D.dat, datL, D.depth, depthL, qii, qss, qbb, qnn, qtt, qll, qts, qst, qnt, qtn, q0, q0c, qc0, qcc, entKey, b2i, rngF1, enumSrc, enumItems, seqItems, f_p_head_of, b_p_head_of, Tr.D, Tr.head, Option.filter, trsD_pur, Tr.pur, joinF, allS, l3, l4, l5, hb, hb', hz]
  · rcases hw with rfl | rfl | rfl | rfl <;> simp [runF, seqM, readV, moveV, D.isHole, getS, setS, D.pur, purL, D.frz, frzL, bltF, lenF, tupleF, intF, strF, isiF, isTy, tyOf, allF, allB, sumF, allI, cmpF, truthM, D.truth, ixP, ixF, ixD, outsOf, small_def, binF, big64, lift_def, TT.pureM, hereM, callM, takeA, takeP, giveA, putP, tyM, mutM, mutF, appendF, Mu.isL, borM, frzE, D.noFro, noFroL, bmTy, bmtF, D.okEq, D.dat, datL, D.depth, depthL, qii, qss, qbb, qnn, qtt, qll, qts, qst, qnt, qtn, q0, q0c, qc0, qcc, entKey, b2i, rngF1, enumSrc, enumItems, seqItems, f_p_head_of, b_p_head_of, Tr.D, Tr.head, Option.filter, trsD_pur, Tr.pur, c_COUNT_KINDS]
  · rcases hw with rfl | rfl | rfl | rfl <;> simp [runF, seqM, readV, moveV, D.isHole, getS, setS, D.pur, purL, D.frz, frzL, bltF, lenF, tupleF, intF, strF, isiF, isTy, tyOf, allF, allB, sumF, allI, cmpF, truthM, D.truth, ixP, ixF, ixD, outsOf, small_def, binF, big64, lift_def, TT.pureM, hereM, callM, takeA, takeP, giveA, putP, tyM, mutM, mutF, appendF, Mu.isL, borM, frzE, D.noFro, noFroL, bmTy, bmtF, D.okEq, D.dat, datL, D.depth, depthL, qii, qss, qbb, qnn, qtt, qll, qts, qst, qnt, qtn, q0, q0c, qc0, qcc, entKey, b2i, rngF1, enumSrc, enumItems, seqItems, f_p_head_of, b_p_head_of, Tr.D, Tr.head, Option.filter, trsD_pur, Tr.pur, c_COUNT_KINDS]
  · simp only [Tr.ok, Bool.and_eq_true, decide_eq_true_eq] at h
    have l3 := natStr_len n (by omega)
    have hb : (n : Int) ≤ 99 := by omega
    have hb' : n ≤ 99 := by omega
    have l5 : " ".length = 1 := rfl
    have w1 : "again".length = 5 := rfl
    have w2 : "till".length = 4 := rfl
    have w3 : "hold".length = 4 := rfl
    have w4 : "again ".length = 6 := rfl
    have w5 : "till ".length = 5 := rfl
    have w6 : "hold ".length = 5 := rfl
    rcases hw with rfl | rfl | rfl <;> simp [runF, seqM, readV, moveV, D.isHole, getS, setS, D.pur, purL, D.frz, frzL, bltF, lenF, tupleF, intF, strF, isiF, isTy, tyOf, allF, allB, sumF, allI, cmpF, truthM, D.truth, ixP, ixF, ixD, outsOf, small_def, binF, big64, lift_def, TT.pureM, hereM, callM, takeA, takeP, giveA, putP, tyM, mutM, mutF, appendF, Mu.isL, borM, frzE, D.noFro, noFroL, bmTy, bmtF, D.okEq, D.dat, datL, D.depth, depthL, qii, qss, qbb, qnn, qtt, qll, qts, qst, qnt, qtn, q0, q0c, qc0, qcc, entKey, b2i, rngF1, enumSrc, enumItems, seqItems, f_p_head_of, b_p_head_of, Tr.D, Tr.head, Option.filter, trsD_pur, Tr.pur, c_COUNT_KINDS, l3, l5, hb, hb', String.length_append, w1, w2, w3, w4, w5, w6]
  · simp only [Tr.ok, Bool.and_eq_true, decide_eq_true_eq] at h
    have l3 := natStr_len n (by omega)
    have hb : (n : Int) ≤ 99 := by omega
    have hb' : n ≤ 99 := by omega
    have l5 : "beside".length = 6 := rfl
    have l6 : " ".length = 1 := rfl
    have l7 : "beside ".length = 7 := rfl
    have e : "beside" ++ " " ++ natStr n = "beside " ++ natStr n := by rw [show "beside" ++ " " = "beside " from rfl]
    simp [runF, seqM, readV, moveV, D.isHole, getS, setS, D.pur, purL, D.frz, frzL, bltF, lenF, tupleF, intF, strF, isiF, isTy, tyOf, allF, allB, sumF, allI, cmpF, truthM, D.truth, ixP, ixF, ixD, outsOf, small_def, binF, big64, lift_def, TT.pureM, hereM, callM, takeA, takeP, giveA, putP, tyM, mutM, mutF, appendF, Mu.isL, borM, frzE, D.noFro, noFroL, bmTy, bmtF, D.okEq, D.dat, datL, D.depth, depthL, qii, qss, qbb, qnn, qtt, qll, qts, qst, qnt, qtn, q0, q0c, qc0, qcc, entKey, b2i, rngF1, enumSrc, enumItems, seqItems, f_p_head_of, b_p_head_of, Tr.D, Tr.head, Option.filter, trsD_pur, Tr.pur, c_COUNT_KINDS, l3, l5, l6, l7, hb, hb', String.length_append, e]
theorem head_len {d : Nat} {t : Tr} (h : t.ok d = true) : t.head.length ≤ 12 := by
  cases d with
  | zero => simp [Tr.ok] at h
  | succ d =>
  rcases Tr.words h with ⟨f, rfl⟩ | ⟨f, b, rfl⟩ | ⟨a, b, c, rfl⟩ | ⟨w, ts, rfl, hw⟩ | ⟨w, t', rfl, hw⟩ | ⟨w, n, t', rfl, hw⟩ | ⟨n, ts, rfl⟩
  · have hf : f ∈ ["a", "b", "c"] := by simpa [Tr.ok] using h
    simp only [List.mem_cons, List.not_mem_nil, or_false] at hf
    rcases hf with rfl | rfl | rfl <;> decide
  · have hf : f ∈ ["a", "b", "c"] := by simpa [Tr.ok] using h
    simp only [List.mem_cons, List.not_mem_nil, or_false] at hf
    rcases hf with rfl | rfl | rfl <;> cases b <;> decide
  · simp only [Tr.ok, Bool.and_eq_true, decide_eq_true_eq] at h
    have h1 := List.contains_iff_mem.mp h.1.1.1
    have h2 := List.contains_iff_mem.mp h.2
    simp only [List.mem_cons, List.not_mem_nil, or_false] at h1 h2
    have l1 : a.length ≤ 3 := by rcases h1 with rfl | rfl | rfl | rfl <;> decide
    have l2 : c.length ≤ 3 := by rcases h2 with rfl | rfl <;> decide
    have l3 := natStr_len b (by omega)
    have l4 : "do".length = 2 := rfl
    have l5 : " ".length = 1 := rfl
    have l8 : "do ".length = 3 := rfl
    simp [Tr.head, joinS, String.length_append, l3, l4, l5, l8]; omega
  · simp only [Tr.head]; rcases hw with rfl | rfl | rfl | rfl <;> decide
  · simp only [Tr.head]; rcases hw with rfl | rfl | rfl | rfl <;> decide
  · simp only [Tr.ok, Bool.and_eq_true, decide_eq_true_eq] at h
    have l3 := natStr_len n (by omega)
    have l5 : " ".length = 1 := rfl
    have lw : w.length ≤ 5 := by rcases hw with rfl | rfl | rfl <;> decide
    simp only [Tr.head, String.length_append, l3, l5]; omega
  · simp only [Tr.ok, Bool.and_eq_true, decide_eq_true_eq] at h
    have l3 := natStr_len n (by omega)
    have l7 : "beside ".length = 7 := rfl
    simp only [Tr.head, String.length_append, l3, l7]; omega
theorem txt_len : ∀ (d : Nat) (t : Tr), t.ok d = true → t.txt.length + 2 ≤ 18 * t.size
  | 0, _, h => by simp [Tr.ok] at h
  | d + 1, t, h => by
    have hh := head_len h
    by_cases hp : t.parts = []
    · rw [Tr.txt_leaf hp h, Tr.size_parts, hp]; simp [sizeL]; omega
    · rw [Tr.txt_parts h hp, Tr.size_parts]
      have hok := Tr.ok_parts h
      have key : ∀ ts : List Tr, okL d ts = true → ((txts ts).map String.length).sum + ts.length * 2 ≤ 18 * sizeL ts := by
        intro ts
        induction ts with
        | nil => intro _; simp [txts, sizeL]
        | cons t ts ih =>
          intro h
          simp only [okL, Bool.and_eq_true] at h
          have h1 := txt_len d t h.1
          have h2 := ih h.2
          simp only [txts, sizeL, List.map_cons, List.sum_cons, List.length_cons]
          omega
      have k1 := key _ hok
      have k2 := joinS_len "; " (txts t.parts)
      have e1 : "; ".length = 2 := rfl
      have e2 : "(".length = 1 := rfl
      have e3 : ")".length = 1 := rfl
      have e4 : (txts t.parts).length = t.parts.length := by rw [txts_map]; simp
      rw [e1, e4] at k2
      simp only [String.length_append, e2, e3]
      omega
theorem allS_map (xs : List String) : allS (xs.map D.str) = some xs := by
  induction xs with
  | nil => rfl
  | cons x xs ih => simp [allS, ih]
theorem textOf : ∀ (d : Nat) {k : Nat} (_ : d + 3 ≤ k) (_ : d ≤ 20) (t : Tr) (_ : t.ok d = true) (_ : t.size ≤ 50), R k "text_of" [t.D] = .ok (.str t.txt) []
  | 0, _, _, _, _, h, _ => by simp [Tr.ok] at h
  | d + 1, k, hk, hd, t, h, hs => by
    obtain ⟨k, rfl⟩ : ∃ j, k = j + 1 := ⟨k - 1, by omega⟩
    have hi := partsOf (show 1 ≤ k by omega) t h
    have hh := headOf (show 1 ≤ k by omega) t h
    have hp := Tr.ok_parts h
    have hdep := trsD_dep d t.parts hp
    have hdep' : depthL (trsD t.parts) ≤ 59 := by omega
    rw [R_p_text_of]
    by_cases he : t.parts = []
    · rw [he] at hi hp hdep hdep'
      rw [Tr.txt_leaf he h]
      simp [runF, seqM, readV, moveV, D.isHole, getS, setS, D.pur, purL, D.frz, frzL, bltF, lenF, tupleF, intF, strF, isiF, isTy, tyOf, allF, allB, sumF, allI, cmpF, truthM, D.truth, ixP, ixF, ixD, outsOf, small_def, binF, big64, lift_def, TT.pureM, hereM, callM, takeA, takeP, giveA, putP, tyM, mutM, mutF, appendF, Mu.isL, borM, frzE, D.noFro, noFroL, bmTy, bmtF, D.okEq, D.dat, datL, D.depth, depthL, qii, qss, qbb, qnn, qtt, qll, qts, qst, qnt, qtn, q0, q0c, qc0, qcc, entKey, b2i, rngF1, enumSrc, enumItems, seqItems, f_p_text_of, b_p_text_of, hi, hh, Tr.pur, Tr.notNeg, trsD]
    · rw [Tr.txt_parts h he]
      have hl := lcM_map 1 (callE (R k) "text_of" (valA (readV 1) nilA)) Tr.D (fun t => .str t.txt) [some t.D, none] t.parts [] none (fun t' m => by
        have hm := size_le m
        have := textOf d (show d + 3 ≤ k by omega) (by omega) t' (ok_mem hp m) (by rw [Tr.size_parts] at hs; omega)
        simp [runF, seqM, readV, moveV, D.isHole, getS, setS, D.pur, purL, D.frz, frzL, bltF, lenF, tupleF, intF, strF, isiF, isTy, tyOf, allF, allB, sumF, allI, cmpF, truthM, D.truth, ixP, ixF, ixD, outsOf, small_def, binF, big64, lift_def, TT.pureM, hereM, callM, takeA, takeP, giveA, putP, tyM, mutM, mutF, appendF, Mu.isL, borM, frzE, D.noFro, noFroL, bmTy, bmtF, D.okEq, D.dat, datL, D.depth, depthL, qii, qss, qbb, qnn, qtt, qll, qts, qst, qnt, qtn, q0, q0c, qc0, qcc, entKey, b2i, rngF1, enumSrc, enumItems, seqItems, Tr.pur, Tr.notNeg, this]) (by have := len_le t.parts; rw [Tr.size_parts] at hs; simp; omega)
      simp only [runF, f_p_text_of, b_p_text_of]
      generalize (callE (R k) "text_of" (valA (readV 1) nilA) : M D) = E at hl ⊢
      have e2 : (t.parts.map fun t => D.str t.txt) = (txts t.parts).map D.str := by rw [txts_map]; simp
      rw [List.nil_append, e2] at hl
      simp only [List.set_cons_succ, List.set_cons_zero] at hl
      rw [← trsD_map] at hl
      have lt := txt_len (d + 1) t h
      rw [Tr.txt_parts h he] at lt
      have e1 : "; ".length = 2 := rfl
      have e3 : "(".length = 1 := rfl
      have e4 : ")".length = 1 := rfl
      simp only [String.length_append, e3, e4] at lt
      have b1 : t.head.length + 1 ≤ 100000 := by omega
      have b2 : t.head.length + 1 + (joinS "; " (txts t.parts)).length ≤ 100000 := by omega
      have b3 : t.head.length + 1 + (joinS "; " (txts t.parts)).length + 1 ≤ 100000 := by omega
      have key : ((txts t.parts).map String.length).sum + (txts t.parts).length * 2 ≤ 100000 := by
        have : ∀ ts : List Tr, okL d ts = true → ((txts ts).map String.length).sum + (txts ts).length * 2 ≤ 18 * sizeL ts := by
          intro ts
          induction ts with
          | nil => intro _; simp [txts, sizeL]
          | cons t ts ih =>
            intro h
            simp only [okL, Bool.and_eq_true] at h
            have h1 := txt_len d t h.1
            have h2 := ih h.2
            simp only [txts, sizeL, List.map_cons, List.sum_cons, List.length_cons]
            omega
        have := this _ hp
        rw [Tr.size_parts] at hs
        omega
      have ne : t.parts.isEmpty = false := by cases e : t.parts <;> simp_all
      simp [runF, seqM, readV, moveV, D.isHole, getS, setS, D.pur, purL, D.frz, frzL, bltF, lenF, tupleF, intF, strF, isiF, isTy, tyOf, allF, allB, sumF, allI, cmpF, truthM, D.truth, ixP, ixF, ixD, outsOf, small_def, binF, big64, lift_def, TT.pureM, hereM, callM, takeA, takeP, giveA, putP, tyM, mutM, mutF, appendF, Mu.isL, borM, frzE, D.noFro, noFroL, bmTy, bmtF, D.okEq, D.dat, datL, D.depth, depthL, qii, qss, qbb, qnn, qtt, qll, qts, qst, qnt, qtn, q0, q0c, qc0, qcc, entKey, b2i, rngF1, enumSrc, enumItems, seqItems, hi, hh, Tr.pur, Tr.notNeg, trsD_pur, trsD_dat, hdep', pyEqL_nil, ne, hl, joinF, allS_map, e1, e3, e4, key, b1, b2, b3, String.length_append]
end TT
set_option Elab.async false
set_option linter.all false
set_option maxHeartbeats 4000000
namespace TT
open PySem
theorem strMul0 (s : String) : binF .Mult (.str s) (.int 0) = some (.str "") := by simp [binF]
theorem strMul1 (s : String) : binF .Mult (.str s) (.int 1) = some (.str s) := by simp [binF]
theorem joinS_snoc (z : String) : ∀ (l : List String) (a : String), l ≠ [] → joinS z (l ++ [a]) = joinS z l ++ z ++ a
  | [x], a, _ => by simp [joinS]
  | x :: y :: r, a, _ => by
    have := joinS_snoc z (y :: r) a (by simp)
    simp only [List.cons_append] at this ⊢
    rw [joinS, this, joinS]
    simp [String.append_assoc]
theorem joinS_len1 (z : String) (l : List String) : (joinS z l).length ≤ (l.map String.length).sum + l.length * z.length := joinS_len z l
/-- the loop that shows the parts -/
theorem shown_loop (a0 a1 a2 : Option D) (all : List Tr) (B : M Fl) (hB : ∀ (pre : List Tr) (t : Tr) (ts : List Tr), pre ++ t :: ts = all → B [a0, a1, a2, some (.str (joinS "; " (txts pre))), some (.int (pre.length : Nat)), some t.D] = .ok .nx [a0, a1, a2, some (.str (joinS "; " (txts (pre ++ [t])))), some (.int (pre.length : Nat)), some t.D]) :
    ∀ (ts pre : List Tr) (a4 a5 : Option D), pre ++ ts = all → ∃ x4 x5, forM [4, 5] false B (ts.mapIdx fun i t => D.tup [.int ((pre.length + i : Nat) : Int), t.D]) [a0, a1, a2, some (.str (joinS "; " (txts pre))), a4, a5] = .ok .nx [a0, a1, a2, some (.str (joinS "; " (txts all))), x4, x5]
  | [], pre, a4, a5, e => by
    rw [List.append_nil] at e
    subst e
    exact ⟨a4, a5, by simp [forM]⟩
  | t :: ts, pre, a4, a5, e => by
    obtain ⟨x4, x5, ih⟩ := shown_loop a0 a1 a2 all B hB ts (pre ++ [t]) (some (.int (pre.length : Nat))) (some t.D) (by rw [← e]; simp)
    refine ⟨x4, x5, ?_⟩
    have hfun : (fun (i : Nat) (t_1 : Tr) => D.tup [.int ((pre.length + (i + 1) : Nat) : Int), t_1.D]) = fun (i : Nat) (t_1 : Tr) => D.tup [.int (((pre ++ [t]).length + i : Nat) : Int), t_1.D] := by
      funext i x
      simp only [List.length_append, List.length_singleton]
      rw [Nat.add_assoc, Nat.add_comm i 1]
    rw [List.mapIdx_cons, forM, hfun]
    have e1 : tgtM [4, 5] false (.tup [.int ((pre.length + 0 : Nat) : Int), t.D]) [a0, a1, a2, some (.str (joinS "; " (txts pre))), a4, a5] = .ok () [a0, a1, a2, some (.str (joinS "; " (txts pre))), some (.int (pre.length : Nat)), some t.D] := by
      simp [tgtM, bindT, setS]
    rw [e1]
    simp only [hB pre t ts e]
    exact ih
theorem joins_le {d : Nat} : ∀ (ts : List Tr), okL d ts = true → (joinS "; " (txts ts)).length ≤ 18 * sizeL ts := fun ts h => by
  have key : ∀ ts : List Tr, okL d ts = true → ((txts ts).map String.length).sum + (txts ts).length * 2 ≤ 18 * sizeL ts := by
    intro ts
    induction ts with
    | nil => intro _; simp [txts, sizeL]
    | cons t ts ih =>
      intro h
      simp only [okL, Bool.and_eq_true] at h
      have h1 := txt_len d t h.1
      have h2 := ih h.2
      simp only [txts, sizeL, List.map_cons, List.sum_cons, List.length_cons]
      omega
  exact Nat.le_trans (joinS_len1 "; " _) (key ts h)
theorem sizeL_app : ∀ (a b : List Tr), sizeL (a ++ b) = sizeL a + sizeL b
  | [], b => by simp [sizeL]
  | t :: a, b => by simp [sizeL, sizeL_app a b]; omega
theorem okL_app {d : Nat} : ∀ {a b : List Tr}, okL d (a ++ b) = true → okL d a = true ∧ okL d b = true := fun {a b} h => by
  rw [okL_iff] at h
  exact ⟨(okL_iff d a).mpr fun t m => h t (List.mem_append_left _ m), (okL_iff d b).mpr fun t m => h t (List.mem_append_right _ m)⟩
theorem enum_eq (ts : List Tr) : enumItems (trsD ts) = ts.mapIdx fun i t => D.tup [.int ((([] : List Tr).length + i : Nat) : Int), t.D] := by
  unfold enumItems
  rw [trsD_map]
  apply List.ext_getElem?
  intro i
  simp [List.getElem?_mapIdx]
  cases ts[i]? <;> simp
theorem shownOf : ∀ (d : Nat) {k : Nat} (_ : d + 2 ≤ k) (t : Tr) (_ : t.ok d = true) (_ : t.size ≤ 50), R k "_law_shown" [t.D] = .ok (.str t.txt) []
  | 0, _, _, _, h, _ => by simp [Tr.ok] at h
  | d + 1, k, hk, t, h, hs => by
    obtain ⟨k, rfl⟩ : ∃ j, k = j + 1 := ⟨k - 1, by omega⟩
    have hi := inner (show 1 ≤ k by omega) t h
    have hp := Tr.ok_parts h
    have hsz := Tr.size_parts t
    have e1 : "; ".length = 2 := rfl
    have e2 : "(".length = 1 := rfl
    have e3 : ")".length = 1 := rfl
    have e6 : " ".length = 1 := rfl
    have hj := joins_le _ hp
    have loop : ∀ a1 a2 : Option D, ∃ x4 x5, forM [4, 5] false (seqM (setE 3 (binE .Add (binE .Add (readV 3) (binE .Mult (pure (.str "; ")) (bltE .int (consL (cmpE .Gt (readV 4) (pure (.int 0))) (nilL))))) (callE (R k) "_law_shown" (valA (readV 5) (nilA))))) (nxS))
        (enumItems (trsD t.parts)) [some t.D, a1, a2, some (.str ""), none, none] = .ok .nx [some t.D, a1, a2, some (.str (joinS "; " (txts t.parts))), x4, x5] := by
      intro a1 a2
      rw [enum_eq]
      refine shown_loop (some t.D) a1 a2 t.parts _ ?_ t.parts [] none none rfl
      intro pre t' ts e
      have hok' : okL d (pre ++ t' :: ts) = true := by rw [e]; exact hp
      obtain ⟨o1, o2⟩ := okL_app hok'
      simp only [okL, Bool.and_eq_true] at o2
      have s1 : sizeL pre + (t'.size + sizeL ts) ≤ 50 := by
        have := sizeL_app pre (t' :: ts)
        rw [e] at this
        simp only [sizeL] at this
        omega
      have ht := shownOf d (show d + 2 ≤ k by omega) t' o2.1 (by omega)
      have j1 := joins_le pre o1
      have j2 := txt_len d t' o2.1
      have hx : txts (pre ++ [t']) = txts pre ++ [t'.txt] := by simp [txts_map]
      rw [hx]
      by_cases hp : pre = []
      · subst hp
        have b3 : t'.txt.length ≤ 100000 := by omega
        simp [runF, seqM, readV, moveV, D.isHole, getS, setS, D.pur, purL, D.frz, frzL, bltF, lenF, tupleF, intF, strF, isiF, isTy, tyOf, allF, allB, sumF, allI, cmpF, truthM, D.truth, ixP, ixF, ixD, outsOf, small_def, binF, big64, lift_def, TT.pureM, hereM, callM, takeA, takeP, giveA, putP, tyM, mutM, mutF, appendF, Mu.isL, borM, frzE, D.noFro, noFroL, bmTy, bmtF, D.okEq, D.dat, datL, D.depth, depthL, qii, qss, qbb, qnn, qtt, qll, qts, qst, qnt, qtn, q0, q0c, qc0, qcc, entKey, b2i, rngF1, enumSrc, seqItems, txts, joinS, ht, Tr.pur, Tr.notNeg, strMul0, b3]
      · have hpos : 0 < pre.length := List.length_pos_iff.mpr hp
        have hne : txts pre ≠ [] := by rw [txts_map]; simpa using hp
        rw [joinS_snoc _ _ _ hne]
        have hpos' : (0 : Int) < (pre.length : Int) := by omega
        have b3 : (joinS "; " (txts pre)).length + 2 ≤ 100000 := by omega
        have b4 : (joinS "; " (txts pre)).length + 2 + t'.txt.length ≤ 100000 := by omega
        simp [runF, seqM, readV, moveV, D.isHole, getS, setS, D.pur, purL, D.frz, frzL, bltF, lenF, tupleF, intF, strF, isiF, isTy, tyOf, allF, allB, sumF, allI, cmpF, truthM, D.truth, ixP, ixF, ixD, outsOf, small_def, binF, big64, lift_def, TT.pureM, hereM, callM, takeA, takeP, giveA, putP, tyM, mutM, mutF, appendF, Mu.isL, borM, frzE, D.noFro, noFroL, bmTy, bmtF, D.okEq, D.dat, datL, D.depth, depthL, qii, qss, qbb, qnn, qtt, qll, qts, qst, qnt, qtn, q0, q0c, qc0, qcc, entKey, b2i, rngF1, enumSrc, seqItems, ht, Tr.pur, Tr.notNeg, strMul1, hpos, hpos', e1, b3, b4, String.length_append]
    rw [R_l_shown]
    simp only [runF, f_l_shown, b_l_shown]
    generalize (seqM (setE 3 (binE .Add (binE .Add (readV 3) (binE .Mult (pure (.str "; ")) (bltE .int (consL (cmpE .Gt (readV 4) (pure (.int 0))) (nilL))))) (callE (R k) "_law_shown" (valA (readV 5) (nilA))))) (nxS) : M Fl) = B at loop ⊢
    rcases Tr.words h with ⟨f, rfl⟩ | ⟨f, b, rfl⟩ | ⟨a, b, c, rfl⟩ | ⟨w, ts, rfl, hw⟩ | ⟨w, t', rfl, hw⟩ | ⟨w, n, t', rfl, hw⟩ | ⟨n, ts, rfl⟩
    · have hf : f ∈ ["a", "b", "c"] := by simpa [Tr.ok] using h
      simp only [List.mem_cons, List.not_mem_nil, or_false] at hf
      have l : f.length = 1 := by rcases hf with rfl | rfl | rfl <;> rfl
      have l4 : "ask ".length = 4 := rfl
      simp [runF, seqM, readV, moveV, D.isHole, getS, setS, D.pur, purL, D.frz, frzL, bltF, lenF, tupleF, intF, strF, isiF, isTy, tyOf, allF, allB, sumF, allI, cmpF, truthM, D.truth, ixP, ixF, ixD, outsOf, small_def, binF, big64, lift_def, TT.pureM, hereM, callM, takeA, takeP, giveA, putP, tyM, mutM, mutF, appendF, Mu.isL, borM, frzE, D.noFro, noFroL, bmTy, bmtF, D.okEq, D.dat, datL, D.depth, depthL, qii, qss, qbb, qnn, qtt, qll, qts, qst, qnt, qtn, q0, q0c, qc0, qcc, entKey, b2i, rngF1, enumSrc, seqItems, Tr.D, Tr.txt, Option.filter, l, l4]
    · have hf : f ∈ ["a", "b", "c"] := by simpa [Tr.ok] using h
      simp only [List.mem_cons, List.not_mem_nil, or_false] at hf
      have l : f.length = 1 := by rcases hf with rfl | rfl | rfl <;> rfl
      have l4 : "set ".length = 4 := rfl
      have l5 : " up".length = 3 := rfl
      have l6 : " down".length = 5 := rfl
      cases b <;> simp [runF, seqM, readV, moveV, D.isHole, getS, setS, D.pur, purL, D.frz, frzL, bltF, lenF, tupleF, intF, strF, isiF, isTy, tyOf, allF, allB, sumF, allI, cmpF, truthM, D.truth, ixP, ixF, ixD, outsOf, small_def, binF, big64, lift_def, TT.pureM, hereM, callM, takeA, takeP, giveA, putP, tyM, mutM, mutF, appendF, Mu.isL, borM, frzE, D.noFro, noFroL, bmTy, bmtF, D.okEq, D.dat, datL, D.depth, depthL, qii, qss, qbb, qnn, qtt, qll, qts, qst, qnt, qtn, q0, q0c, qc0, qcc, entKey, b2i, rngF1, enumSrc, seqItems, Tr.D, Tr.txt, Option.filter, l, l4, l5, l6]
    · simp only [Tr.ok, Bool.and_eq_true, decide_eq_true_eq] at h
      have h1 := List.contains_iff_mem.mp h.1.1.1
      have h2 := List.contains_iff_mem.mp h.2
      simp only [List.mem_cons, List.not_mem_nil, or_false] at h1 h2
      have l1 : a.length ≤ 3 := by rcases h1 with rfl | rfl | rfl | rfl <;> decide
      have l2 : c.length ≤ 3 := by rcases h2 with rfl | rfl <;> decide
      have l3 := natStr_len b (by omega)
      have l4 : "do ".length = 3 := rfl
      have hb : (b : Int) ≤ 99 := by omega
      have hb' : b ≤ 99 := by omega
      have z1 : 3 + a.length ≤ 100000 := by omega
      have z2 : 3 + a.length + 1 ≤ 100000 := by omega
      have z3 : 3 + a.length + 1 + 1 ≤ 100000 := by omega
      have z4 : 3 + a.length + 1 + 1 + 1 ≤ 100000 := by omega
      have z5 : 3 + a.length + 1 + 1 + 1 + c.length ≤ 100000 := by omega
      have es : joinS " " ["do", a, natStr b, c] = "do " ++ a ++ " " ++ natStr b ++ " " ++ c := by
        simp only [joinS, String.append_assoc]
        rw [← String.append_assoc (s₁ := "do") (s₂ := " "), show "do" ++ " " = "do " from rfl]
      rw [show (Tr.dee a b c).txt = "do " ++ a ++ " " ++ natStr b ++ " " ++ c from es]
      simp [runF, seqM, readV, moveV, D.isHole, getS, setS, D.pur, purL, D.frz, frzL, bltF, lenF, tupleF, intF, strF, isiF, isTy, tyOf, allF, allB, sumF, allI, cmpF, truthM, D.truth, ixP, ixF, ixD, outsOf, small_def, binF, big64, lift_def, TT.pureM, hereM, callM, takeA, takeP, giveA, putP, tyM, mutM, mutF, appendF, Mu.isL, borM, frzE, D.noFro, noFroL, bmTy, bmtF, D.okEq, D.dat, datL, D.depth, depthL, qii, qss, qbb, qnn, qtt, qll, qts, qst, qnt, qtn, q0, q0c, qc0, qcc, entKey, b2i, rngF1, enumSrc, seqItems, Tr.D, Option.filter, l3, l4, e6, hb, hb', String.length_append, z1, z2, z3, z4, z5]
    · obtain ⟨x4, x5, hl⟩ := loop (some (.str w)) (some (.str w))
      have hpu := trsD_pur ts
      simp only [Tr.parts, Tr.D] at hi hl hj hsz
      have lw : w.length ≤ 12 := by rcases hw with rfl | rfl | rfl | rfl <;> decide
      have z1 : w.length + 1 ≤ 100000 := by omega
      have z2 : w.length + 1 + (joinS "; " (txts ts)).length ≤ 100000 := by omega
      have z3 : w.length + 1 + (joinS "; " (txts ts)).length + 1 ≤ 100000 := by omega
      have n1 : ¬ w = "ask" ∧ ¬ w = "set" ∧ ¬ w = "do" ∧ ¬ "again" = w ∧ ¬ "till" = w ∧ ¬ "hold" = w ∧ ¬ "beside" = w := by rcases hw with rfl | rfl | rfl | rfl <;> decide
      obtain ⟨m1, m2, m3, m4, m5, m6, m7⟩ := n1
      simp [runF, seqM, readV, moveV, D.isHole, getS, setS, D.pur, purL, D.frz, frzL, bltF, lenF, tupleF, intF, strF, isiF, isTy, tyOf, allF, allB, sumF, allI, cmpF, truthM, D.truth, ixP, ixF, ixD, outsOf, small_def, binF, big64, lift_def, TT.pureM, hereM, callM, takeA, takeP, giveA, putP, tyM, mutM, mutF, appendF, Mu.isL, borM, frzE, D.noFro, noFroL, bmTy, bmtF, D.okEq, D.dat, datL, D.depth, depthL, qii, qss, qbb, qnn, qtt, qll, qts, qst, qnt, qtn, q0, q0c, qc0, qcc, entKey, b2i, rngF1, enumSrc, seqItems, Tr.D, Tr.txt, Option.filter, hpu, hi, hl, e2, e3, m1, m2, m3, m4, m5, m6, m7, z1, z2, z3, String.length_append, frzL_pur]
    · obtain ⟨x4, x5, hl⟩ := loop (some (.str w)) (some (.str w))
      have hpu := trsD_pur [t']
      have hp1 := t'.pur
      have hfr := t'.notNeg
      have ej : joinS "; " (txts [t']) = t'.txt := by simp [txts, joinS]
      simp only [Tr.parts, Tr.D, ej] at hi hl hj hsz
      have lw : w.length ≤ 12 := by rcases hw with rfl | rfl | rfl | rfl <;> decide
      have z1 : w.length + 1 ≤ 100000 := by omega
      have z2 : w.length + 1 + t'.txt.length ≤ 100000 := by omega
      have z3 : w.length + 1 + t'.txt.length + 1 ≤ 100000 := by omega
      have n1 : ¬ w = "ask" ∧ ¬ w = "set" ∧ ¬ w = "do" ∧ ¬ "again" = w ∧ ¬ "till" = w ∧ ¬ "hold" = w ∧ ¬ "beside" = w := by rcases hw with rfl | rfl | rfl | rfl <;> decide
      obtain ⟨m1, m2, m3, m4, m5, m6, m7⟩ := n1
      simp [runF, seqM, readV, moveV, D.isHole, getS, setS, D.pur, purL, D.frz, frzL, bltF, lenF, tupleF, intF, strF, isiF, isTy, tyOf, allF, allB, sumF, allI, cmpF, truthM, D.truth, ixP, ixF, ixD, outsOf, small_def, binF, big64, lift_def, TT.pureM, hereM, callM, takeA, takeP, giveA, putP, tyM, mutM, mutF, appendF, Mu.isL, borM, frzE, D.noFro, noFroL, bmTy, bmtF, D.okEq, D.dat, datL, D.depth, depthL, qii, qss, qbb, qnn, qtt, qll, qts, qst, qnt, qtn, q0, q0c, qc0, qcc, entKey, b2i, rngF1, enumSrc, seqItems, Tr.D, Tr.txt, Option.filter, hpu, hp1, hfr, hi, hl, e2, e3, m1, m2, m3, m4, m5, m6, m7, z1, z2, z3, String.length_append]
    · simp only [Tr.ok, Bool.and_eq_true, decide_eq_true_eq] at h
      obtain ⟨x4, x5, hl⟩ := loop (some (.str w)) (some (.str (w ++ " " ++ natStr n)))
      have hpu := trsD_pur [t']
      have hp1 := t'.pur
      have hfr := t'.notNeg
      have ej : joinS "; " (txts [t']) = t'.txt := by simp [txts, joinS]
      simp only [Tr.parts, Tr.D, ej] at hi hl hj hsz
      have l3 := natStr_len n (by omega)
      have hb : (n : Int) ≤ 99 := by omega
      have hb' : n ≤ 99 := by omega
      have lw : w.length ≤ 12 := by rcases hw with rfl | rfl | rfl <;> decide
      have z0 : w.length + 1 ≤ 100000 := by omega
      have z0' : w.length + 1 + 1 ≤ 100000 := by omega
      have z1 : w.length + 1 + 1 + 1 ≤ 100000 := by omega
      have z2 : w.length + 1 + 1 + 1 + t'.txt.length ≤ 100000 := by omega
      have z3 : w.length + 1 + 1 + 1 + t'.txt.length + 1 ≤ 100000 := by omega
      have n1 : ¬ w = "ask" ∧ ¬ w = "set" ∧ ¬ w = "do" := by rcases hw with rfl | rfl | rfl <;> decide
      obtain ⟨m1, m2, m3⟩ := n1
      have n2 : "again" = w ∨ "till" = w ∨ "hold" = w ∨ "beside" = w := by rcases hw with rfl | rfl | rfl <;> decide
      simp [runF, seqM, readV, moveV, D.isHole, getS, setS, D.pur, purL, D.frz, frzL, bltF, lenF, tupleF, intF, strF, isiF, isTy, tyOf, allF, allB, sumF, allI, cmpF, truthM, D.truth, ixP, ixF, ixD, outsOf, small_def, binF, big64, lift_def, TT.pureM, hereM, callM, takeA, takeP, giveA, putP, tyM, mutM, mutF, appendF, Mu.isL, borM, frzE, D.noFro, noFroL, bmTy, bmtF, D.okEq, D.dat, datL, D.depth, depthL, qii, qss, qbb, qnn, qtt, qll, qts, qst, qnt, qtn, q0, q0c, qc0, qcc, entKey, b2i, rngF1, enumSrc, seqItems, Tr.D, Tr.txt, Option.filter, hpu, hp1, hfr, hi, hl, e2, e3, e6, l3, hb, hb', m1, m2, m3, n2, z0, z0', z1, z2, z3, String.length_append]
    · simp only [Tr.ok, Bool.and_eq_true, decide_eq_true_eq] at h
      obtain ⟨x4, x5, hl⟩ := loop (some (.str "beside")) (some (.str ("beside" ++ " " ++ natStr n)))
      have hpu := trsD_pur ts
      have hfr := frzL_pur _ hpu
      simp only [Tr.parts, Tr.D] at hi hl hj hsz
      have l3 := natStr_len n (by omega)
      have hb : (n : Int) ≤ 99 := by omega
      have hb' : n ≤ 99 := by omega
      have lw : "beside ".length = 7 := rfl
      have eb : "beside" ++ " " ++ natStr n = "beside " ++ natStr n := by rw [show "beside" ++ " " = "beside " from rfl]
      have z2 : 7 + 1 + 1 + (joinS "; " (txts ts)).length ≤ 100000 := by omega
      have z3 : 7 + 1 + 1 + (joinS "; " (txts ts)).length + 1 ≤ 100000 := by omega
      have lb : "beside".length = 6 := rfl
      rw [eb] at hl
      simp [runF, seqM, readV, moveV, D.isHole, getS, setS, D.pur, purL, D.frz, frzL, bltF, lenF, tupleF, intF, strF, isiF, isTy, tyOf, allF, allB, sumF, allI, cmpF, truthM, D.truth, ixP, ixF, ixD, outsOf, small_def, binF, big64, lift_def, TT.pureM, hereM, callM, takeA, takeP, giveA, putP, tyM, mutM, mutF, appendF, Mu.isL, borM, frzE, D.noFro, noFroL, bmTy, bmtF, D.okEq, D.dat, datL, D.depth, depthL, qii, qss, qbb, qnn, qtt, qll, qts, qst, qnt, qtn, q0, q0c, qc0, qcc, entKey, b2i, rngF1, enumSrc, seqItems, Tr.D, Tr.txt, Option.filter, hpu, hfr, hi, hl, e2, e3, e6, l3, lw, lb, hb, hb', z2, z3, String.length_append]
end TT
set_option Elab.async false
set_option linter.all false
set_option maxHeartbeats 4000000
namespace TT
open PySem
/-! ### reading -/
def brk (c : Char) : Prop := c = '(' ∨ c = ')' ∨ c = ';'
instance (c : Char) : Decidable (brk c) := by unfold brk; infer_instance
theorem at_mid {α : Type} (a : List α) (c : α) (b : List α) : (a ++ c :: b)[a.length]? = some c := by simp
theorem signIn_one (c : Char) : signIn (String.ofList [c]) "();" = some (decide (brk c)) := by
  unfold signIn
  rw [String.toList_ofList]
  have e : "();".toList = ['(', ')', ';'] := rfl
  simp only [e, Option.some.injEq]
  rw [Bool.eq_iff_iff, decide_eq_true_iff, List.contains_iff_mem]
  simp [brk]
noncomputable abbrev scanC : M Bool := andT (valT (cmpE .Lt (readV 3) (bltE .len (consL (readV 0) (nilL))))) (valT (cmpE .NotIn (ixE (readV 0) (readV 3)) (pure (.str "();"))))
noncomputable abbrev scanB : M Fl := seqM (setE 3 (binE .Add (readV 3) (pure (.int 1)))) (nxS)
theorem scan (s : String) (a1 a2 : Option D) (r : Env) : ∀ (h pre post : List Char), s.toList = pre ++ (h ++ post) → (∀ c ∈ h, ¬ brk c) → (∀ c q, post = c :: q → brk c) →
    whileM scanC scanB (some (.str s) :: a1 :: a2 :: some (.int (pre.length : Nat)) :: r) = .ok .nx (some (.str s) :: a1 :: a2 :: some (.int ((pre.length + h.length : Nat) : Int)) :: r)
  | [], pre, post, e, _, hp => by
    rw [whileM_eq]
    have hl : s.length = pre.length + post.length := by rw [← String.length_toList, e]; simp
    have hc : scanC (some (.str s) :: a1 :: a2 :: some (.int (pre.length : Nat)) :: r) = .ok false (some (.str s) :: a1 :: a2 :: some (.int (pre.length : Nat)) :: r) := by
      cases post with
      | nil =>
        have : ¬ ((pre.length : Int) < (s.length : Int)) := by rw [hl]; simp
        simp [runF, seqM, readV, moveV, D.isHole, getS, setS, D.pur, purL, D.frz, frzL, bltF, lenF, tupleF, intF, strF, isiF, isTy, tyOf, allF, allB, sumF, allI, cmpF, truthM, D.truth, ixP, ixF, ixD, outsOf, small_def, binF, big64, lift_def, TT.pureM, hereM, callM, takeA, takeP, giveA, putP, tyM, mutM, mutF, appendF, Mu.isL, borM, frzE, D.noFro, noFroL, bmTy, bmtF, D.okEq, D.dat, datL, D.depth, depthL, qii, qss, qbb, qnn, qtt, qll, qts, qst, qnt, qtn, q0, q0c, qc0, qcc, entKey, b2i, rngF1, enumSrc, seqItems, this]
      | cons c q =>
        have h1 : (pre.length : Int) < (s.length : Int) := by rw [hl]; simp; omega
        have h1' : pre.length < s.length := by omega
        have h2 : s.toList[pre.length]? = some c := by rw [e]; simp
        have h3 := signIn_one c
        have hb : brk c := hp c q rfl
        simp only [hb, decide_true] at h3
        simp [runF, seqM, readV, moveV, D.isHole, getS, setS, D.pur, purL, D.frz, frzL, bltF, lenF, tupleF, intF, strF, isiF, isTy, tyOf, allF, allB, sumF, allI, cmpF, truthM, D.truth, ixP, ixF, ixD, outsOf, small_def, binF, big64, lift_def, TT.pureM, hereM, callM, takeA, takeP, giveA, putP, tyM, mutM, mutF, appendF, Mu.isL, borM, frzE, D.noFro, noFroL, bmTy, bmtF, D.okEq, D.dat, datL, D.depth, depthL, qii, qss, qbb, qnn, qtt, qll, qts, qst, qnt, qtn, q0, q0c, qc0, qcc, entKey, b2i, rngF1, enumSrc, seqItems, h1, h1', h2, h3, Option.filter] at h3 ⊢
        simp [h3]
    rw [hc]
    simp
  | c :: h, pre, post, e, hn, hp => by
    rw [whileM_eq]
    have hl : s.length = pre.length + ((c :: h).length + post.length) := by rw [← String.length_toList, e]; simp; omega
    have h1 : (pre.length : Int) < (s.length : Int) := by rw [hl]; simp; omega
    have h1' : pre.length < s.length := by omega
    have h2 : s.toList[pre.length]? = some c := by rw [e]; simp
    have h3 := signIn_one c
    have hb : ¬ brk c := hn c List.mem_cons_self
    simp only [hb, decide_false] at h3
    have hc : scanC (some (.str s) :: a1 :: a2 :: some (.int (pre.length : Nat)) :: r) = .ok true (some (.str s) :: a1 :: a2 :: some (.int (pre.length : Nat)) :: r) := by
      simp [runF, seqM, readV, moveV, D.isHole, getS, setS, D.pur, purL, D.frz, frzL, bltF, lenF, tupleF, intF, strF, isiF, isTy, tyOf, allF, allB, sumF, allI, cmpF, truthM, D.truth, ixP, ixF, ixD, outsOf, small_def, binF, big64, lift_def, TT.pureM, hereM, callM, takeA, takeP, giveA, putP, tyM, mutM, mutF, appendF, Mu.isL, borM, frzE, D.noFro, noFroL, bmTy, bmtF, D.okEq, D.dat, datL, D.depth, depthL, qii, qss, qbb, qnn, qtt, qll, qts, qst, qnt, qtn, q0, q0c, qc0, qcc, entKey, b2i, rngF1, enumSrc, seqItems, h1, h1', h2, h3, Option.filter] at h3 ⊢
      simp [h3]
    have hbo : scanB (some (.str s) :: a1 :: a2 :: some (.int (pre.length : Nat)) :: r) = .ok .nx (some (.str s) :: a1 :: a2 :: some (.int ((pre ++ [c]).length : Nat)) :: r) := by
      simp [runF, seqM, readV, moveV, D.isHole, getS, setS, D.pur, purL, D.frz, frzL, bltF, lenF, tupleF, intF, strF, isiF, isTy, tyOf, allF, allB, sumF, allI, cmpF, truthM, D.truth, ixP, ixF, ixD, outsOf, small_def, binF, big64, lift_def, TT.pureM, hereM, callM, takeA, takeP, giveA, putP, tyM, mutM, mutF, appendF, Mu.isL, borM, frzE, D.noFro, noFroL, bmTy, bmtF, D.okEq, D.dat, datL, D.depth, depthL, qii, qss, qbb, qnn, qtt, qll, qts, qst, qnt, qtn, q0, q0c, qc0, qcc, entKey, b2i, rngF1, enumSrc, seqItems]
    have ih := scan s a1 a2 r h (pre ++ [c]) post (by rw [e]; simp) (fun c' m => hn c' (List.mem_cons_of_mem _ m)) hp
    rw [hc]
    simp only [hbo]
    rw [ih]
    simp
    omega
/-! the words of a head -/
theorem splitOn_none (c : Char) : ∀ l : List Char, c ∉ l → splitOn c l = [l]
  | [], _ => rfl
  | d :: r, h => by
    have hd : d ≠ c := fun z => h (by simp [z])
    have := splitOn_none c r fun z => h (List.mem_cons_of_mem _ z)
    simp [splitOn, hd, this]
theorem splitOn_app (c : Char) : ∀ (l r : List Char), c ∉ l → splitOn c (l ++ c :: r) = l :: splitOn c r
  | [], r, _ => by simp [splitOn]
  | d :: l, r, h => by
    have hd : d ≠ c := fun z => h (by simp [z])
    have := splitOn_app c l r fun z => h (List.mem_cons_of_mem _ z)
    simp [splitOn, hd, this]
theorem number1 {k : Nat} (hk : 1 ≤ k) (n : Nat) (hn : n ≤ 9) : R k "number" [.str (natStr n)] = .ok (.int n) [] := by
  obtain ⟨k, rfl⟩ := up hk
  rw [R_p_number]
  have l := natStr_len n hn
  have e : ∃ c, (natStr n).toList = [c] ∧ digit c = some (n : Int) ∧ signIn (natStr n) "0123456789" = some true := by
    have : n = 0 ∨ n = 1 ∨ n = 2 ∨ n = 3 ∨ n = 4 ∨ n = 5 ∨ n = 6 ∨ n = 7 ∨ n = 8 ∨ n = 9 := by omega
    rcases this with rfl | rfl | rfl | rfl | rfl | rfl | rfl | rfl | rfl | rfl 
    · exact ⟨'0', by decide +kernel, by decide +kernel, by decide +kernel⟩
    · exact ⟨'1', by decide +kernel, by decide +kernel, by decide +kernel⟩
    · exact ⟨'2', by decide +kernel, by decide +kernel, by decide +kernel⟩
    · exact ⟨'3', by decide +kernel, by decide +kernel, by decide +kernel⟩
    · exact ⟨'4', by decide +kernel, by decide +kernel, by decide +kernel⟩
    · exact ⟨'5', by decide +kernel, by decide +kernel, by decide +kernel⟩
    · exact ⟨'6', by decide +kernel, by decide +kernel, by decide +kernel⟩
    · exact ⟨'7', by decide +kernel, by decide +kernel, by decide +kernel⟩
    · exact ⟨'8', by decide +kernel, by decide +kernel, by decide +kernel⟩
    · exact ⟨'9', by decide +kernel, by decide +kernel, by decide +kernel⟩
  obtain ⟨c, e1, e2, e3⟩ := e
  simp [runF, seqM, readV, moveV, D.isHole, getS, setS, D.pur, purL, D.frz, frzL, bltF, lenF, tupleF, intF, strF, isiF, isTy, tyOf, allF, allB, sumF, allI, cmpF, truthM, D.truth, ixP, ixF, ixD, outsOf, small_def, binF, big64, lift_def, TT.pureM, hereM, callM, takeA, takeP, giveA, putP, tyM, mutM, mutF, appendF, Mu.isL, borM, frzE, D.noFro, noFroL, bmTy, bmtF, D.okEq, D.dat, datL, D.depth, depthL, qii, qss, qbb, qnn, qtt, qll, qts, qst, qnt, qtn, q0, q0c, qc0, qcc, entKey, b2i, rngF1, enumSrc, seqItems, f_p_number, b_p_number, c_FIGURES, l, e1, e2, e3]
/-- a leaf's words -/
theorem leafWords {d : Nat} {t : Tr} (h : t.ok d = true) (hp : t.parts = []) : ∃ ws : List String, (splitOn ' ' t.head.toList).map String.ofList = ws ∧ (∀ {k : Nat}, 2 ≤ k → R k "leaf_of" [.lst false (ws.map .str)] = .ok t.D []) := by
  cases d with
  | zero => simp [Tr.ok] at h
  | succ d =>
  rcases Tr.words h with ⟨f, rfl⟩ | ⟨f, b, rfl⟩ | ⟨a, b, c, rfl⟩ | ⟨w, ts, rfl, hw⟩ | ⟨w, t', rfl, hw⟩ | ⟨w, n, t', rfl, hw⟩ | ⟨n, ts, rfl⟩
  · have hf : f ∈ ["a", "b", "c"] := by simpa [Tr.ok] using h
    simp only [List.mem_cons, List.not_mem_nil, or_false] at hf
    refine ⟨["ask", f], ?_, fun hk => ?_⟩
    · rcases hf with rfl | rfl | rfl <;> decide +kernel
    · rename_i k
      obtain ⟨k, rfl⟩ := up hk
      rw [R_p_leaf_of]
      simp [runF, seqM, readV, moveV, D.isHole, getS, setS, D.pur, purL, D.frz, frzL, bltF, lenF, tupleF, intF, strF, isiF, isTy, tyOf, allF, allB, sumF, allI, cmpF, truthM, D.truth, ixP, ixF, ixD, outsOf, small_def, binF, big64, lift_def, TT.pureM, hereM, callM, takeA, takeP, giveA, putP, tyM, mutM, mutF, appendF, Mu.isL, borM, frzE, D.noFro, noFroL, bmTy, bmtF, D.okEq, D.dat, datL, D.depth, depthL, qii, qss, qbb, qnn, qtt, qll, qts, qst, qnt, qtn, q0, q0c, qc0, qcc, entKey, b2i, rngF1, enumSrc, seqItems, f_p_leaf_of, b_p_leaf_of, Tr.D, Option.filter]
  · have hf : f ∈ ["a", "b", "c"] := by simpa [Tr.ok] using h
    simp only [List.mem_cons, List.not_mem_nil, or_false] at hf
    refine ⟨["set", f, if b then "up" else "down"], ?_, fun hk => ?_⟩
    · rcases hf with rfl | rfl | rfl <;> cases b <;> decide +kernel
    · rename_i k
      obtain ⟨k, rfl⟩ := up hk
      rw [R_p_leaf_of]
      cases b <;> simp [runF, seqM, readV, moveV, D.isHole, getS, setS, D.pur, purL, D.frz, frzL, bltF, lenF, tupleF, intF, strF, isiF, isTy, tyOf, allF, allB, sumF, allI, cmpF, truthM, D.truth, ixP, ixF, ixD, outsOf, small_def, binF, big64, lift_def, TT.pureM, hereM, callM, takeA, takeP, giveA, putP, tyM, mutM, mutF, appendF, Mu.isL, borM, frzE, D.noFro, noFroL, bmTy, bmtF, D.okEq, D.dat, datL, D.depth, depthL, qii, qss, qbb, qnn, qtt, qll, qts, qst, qnt, qtn, q0, q0c, qc0, qcc, entKey, b2i, rngF1, enumSrc, seqItems, f_p_leaf_of, b_p_leaf_of, Tr.D, Option.filter]
  · simp only [Tr.ok, Bool.and_eq_true, decide_eq_true_eq] at h
    have h1 := List.contains_iff_mem.mp h.1.1.1
    have h2 := List.contains_iff_mem.mp h.2
    simp only [List.mem_cons, List.not_mem_nil, or_false] at h1 h2
    have hb : b = 1 ∨ b = 2 ∨ b = 3 ∨ b = 4 := by omega
    refine ⟨["do", a, natStr b, c], ?_, fun hk => ?_⟩
    · rcases h1 with rfl | rfl | rfl | rfl <;> rcases h2 with rfl | rfl <;> rcases hb with rfl | rfl | rfl | rfl <;> decide +kernel
    · rename_i k
      obtain ⟨k, rfl⟩ := up hk
      have hn := number1 (show 1 ≤ k + 1 by omega) b (by omega)
      rw [R_p_leaf_of]
      simp [runF, seqM, readV, moveV, D.isHole, getS, setS, D.pur, purL, D.frz, frzL, bltF, lenF, tupleF, intF, strF, isiF, isTy, tyOf, allF, allB, sumF, allI, cmpF, truthM, D.truth, ixP, ixF, ixD, outsOf, small_def, binF, big64, lift_def, TT.pureM, hereM, callM, takeA, takeP, giveA, putP, tyM, mutM, mutF, appendF, Mu.isL, borM, frzE, D.noFro, noFroL, bmTy, bmtF, D.okEq, D.dat, datL, D.depth, depthL, qii, qss, qbb, qnn, qtt, qll, qts, qst, qnt, qtn, q0, q0c, qc0, qcc, entKey, b2i, rngF1, enumSrc, seqItems, f_p_leaf_of, b_p_leaf_of, Tr.D, Option.filter, hn]
  · simp [Tr.parts] at hp; subst hp; simp [Tr.ok] at h
  · simp [Tr.parts] at hp
  · simp [Tr.parts] at hp
  · simp [Tr.parts] at hp; subst hp; simp [Tr.ok] at h
/-- no sign of a head is a bracket -/
theorem head_plain {d : Nat} {t : Tr} (h : t.ok d = true) : ∀ c ∈ t.head.toList, ¬ brk c := by
  have key : ∀ l : List Char, (l.all fun c => !(decide (brk c))) = true → ∀ c ∈ l, ¬ brk c := fun l e c m => by
    have := List.all_eq_true.mp e c m
    simpa using this
  cases d with
  | zero => simp [Tr.ok] at h
  | succ d =>
  apply key
  rcases Tr.words h with ⟨f, rfl⟩ | ⟨f, b, rfl⟩ | ⟨a, b, c, rfl⟩ | ⟨w, ts, rfl, hw⟩ | ⟨w, t', rfl, hw⟩ | ⟨w, n, t', rfl, hw⟩ | ⟨n, ts, rfl⟩
  · have hf : f ∈ ["a", "b", "c"] := by simpa [Tr.ok] using h
    simp only [List.mem_cons, List.not_mem_nil, or_false] at hf
    rcases hf with rfl | rfl | rfl <;> decide +kernel
  · have hf : f ∈ ["a", "b", "c"] := by simpa [Tr.ok] using h
    simp only [List.mem_cons, List.not_mem_nil, or_false] at hf
    rcases hf with rfl | rfl | rfl <;> cases b <;> decide +kernel
  · simp only [Tr.ok, Bool.and_eq_true, decide_eq_true_eq] at h
    have h1 := List.contains_iff_mem.mp h.1.1.1
    have h2 := List.contains_iff_mem.mp h.2
    simp only [List.mem_cons, List.not_mem_nil, or_false] at h1 h2
    have hb : b = 1 ∨ b = 2 ∨ b = 3 ∨ b = 4 := by omega
    rcases h1 with rfl | rfl | rfl | rfl <;> rcases h2 with rfl | rfl <;> rcases hb with rfl | rfl | rfl | rfl <;> decide +kernel
  · simp only [Tr.head]; rcases hw with rfl | rfl | rfl | rfl <;> decide +kernel
  · simp only [Tr.head]; rcases hw with rfl | rfl | rfl | rfl <;> decide +kernel
  · simp only [Tr.ok, Bool.and_eq_true, decide_eq_true_eq] at h
    have hb : n = 1 ∨ n = 2 ∨ n = 3 ∨ n = 4 := by omega
    simp only [Tr.head]
    rcases hw with rfl | rfl | rfl <;> rcases hb with rfl | rfl | rfl | rfl <;> decide +kernel
  · simp only [Tr.ok, Bool.and_eq_true, decide_eq_true_eq] at h
    have hb : n = 1 ∨ n = 2 ∨ n = 3 ∨ n = 4 ∨ n = 5 ∨ n = 6 ∨ n = 7 ∨ n = 8 ∨ n = 9 := by omega
    simp only [Tr.head]
    rcases hb with rfl | rfl | rfl | rfl | rfl | rfl | rfl | rfl | rfl <;> decide +kernel
end TT
set_option Elab.async false
set_option linter.all false
set_option maxHeartbeats 4000000
namespace TT
open PySem
theorem partOf {k : Nat} (hk : 2 ≤ k) {d : Nat} {t : Tr} (h : t.ok d = true) (hp : t.parts ≠ []) : R k "part_of" [.str t.head, .lst false (trsD t.parts)] = .ok t.D [] := by
  obtain ⟨k, rfl⟩ := up hk
  rw [R_p_part_of]
  have hl := head_len h
  have hl1 : t.head.length ≤ 99999 := by omega
  have e1 : " ".toList = [' '] := rfl
  have e2 : ' '.toNat < 256 := by decide
  have hpu := trsD_pur t.parts
  cases d with
  | zero => simp [Tr.ok] at h
  | succ d =>
  rcases Tr.words h with ⟨f, rfl⟩ | ⟨f, b, rfl⟩ | ⟨a, b, c, rfl⟩ | ⟨w, ts, rfl, hw⟩ | ⟨w, t', rfl, hw⟩ | ⟨w, n, t', rfl, hw⟩ | ⟨n, ts, rfl⟩
  · simp [Tr.parts] at hp
  · simp [Tr.parts] at hp
  · simp [Tr.parts] at hp
  · simp only [Tr.parts, Tr.head] at hpu hl1 ⊢
    have hm : "row" = w ∨ "choice" = w ∨ "row anew" = w ∨ "choice anew" = w := by rcases hw with rfl | rfl | rfl | rfl <;> decide
    simp [runF, seqM, readV, moveV, D.isHole, getS, setS, D.pur, purL, D.frz, frzL, bltF, lenF, tupleF, intF, strF, isiF, isTy, tyOf, allF, allB, sumF, allI, cmpF, truthM, D.truth, ixP, ixF, ixD, outsOf, small_def, binF, big64, lift_def, TT.pureM, hereM, callM, takeA, takeP, giveA, putP, tyM, mutM, mutF, appendF, Mu.isL, borM, frzE, D.noFro, noFroL, bmTy, bmtF, D.okEq, D.dat, datL, D.depth, depthL, qii, qss, qbb, qnn, qtt, qll, qts, qst, qnt, qtn, q0, q0c, qc0, qcc, entKey, b2i, rngF1, enumSrc, seqItems, f_p_part_of, b_p_part_of, splitF, e1, e2, hl1, hpu, c_MANY_KINDS, hm, Tr.D]
  · have hpu' := t'.pur
    simp only [Tr.parts, Tr.head, trsD] at hpu hl1 ⊢
    have hm : ¬ "row" = w ∧ ¬ "choice" = w ∧ ¬ "row anew" = w ∧ ¬ "choice anew" = w := by rcases hw with rfl | rfl | rfl | rfl <;> decide
    have hm2 : "not" = w ∨ "yes" = w ∨ "no" = w ∨ "keep" = w := by rcases hw with rfl | rfl | rfl | rfl <;> decide
    obtain ⟨m1, m2, m3, m4⟩ := hm
    simp [runF, seqM, readV, moveV, D.isHole, getS, setS, D.pur, purL, D.frz, frzL, bltF, lenF, tupleF, intF, strF, isiF, isTy, tyOf, allF, allB, sumF, allI, cmpF, truthM, D.truth, ixP, ixF, ixD, outsOf, small_def, binF, big64, lift_def, TT.pureM, hereM, callM, takeA, takeP, giveA, putP, tyM, mutM, mutF, appendF, Mu.isL, borM, frzE, D.noFro, noFroL, bmTy, bmtF, D.okEq, D.dat, datL, D.depth, depthL, qii, qss, qbb, qnn, qtt, qll, qts, qst, qnt, qtn, q0, q0c, qc0, qcc, entKey, b2i, rngF1, enumSrc, seqItems, f_p_part_of, b_p_part_of, splitF, e1, e2, hl1, hpu', c_MANY_KINDS, c_ONE_KINDS, m1, m2, m3, m4, hm2, Tr.D, Option.filter]
  · have hpu' := t'.pur
    simp only [Tr.ok, Bool.and_eq_true, decide_eq_true_eq] at h
    have hb : n = 1 ∨ n = 2 ∨ n = 3 ∨ n = 4 := by omega
    have hn := number1 (show 1 ≤ k + 1 by omega) n (by omega)
    simp only [Tr.parts, Tr.head, trsD] at hpu hl1 ⊢
    have hm : ¬ "row" = w ++ " " ++ natStr n ∧ ¬ "choice" = w ++ " " ++ natStr n ∧ ¬ "row anew" = w ++ " " ++ natStr n ∧ ¬ "choice anew" = w ++ " " ++ natStr n ∧ ¬ "not" = w ++ " " ++ natStr n ∧ ¬ "yes" = w ++ " " ++ natStr n ∧ ¬ "no" = w ++ " " ++ natStr n ∧ ¬ "keep" = w ++ " " ++ natStr n ∧
        ((splitOn ' ' (w ++ " " ++ natStr n).toList).map fun x => D.str (String.ofList x)) = [.str w, .str (natStr n)] := by
      rcases hw with rfl | rfl | rfl <;> rcases hb with rfl | rfl | rfl | rfl <;> (refine ⟨?_, ?_, ?_, ?_, ?_, ?_, ?_, ?_, ?_⟩ <;> first | decide +kernel | rfl)
    obtain ⟨m1, m2, m3, m4, m5, m6, m7, m8, m9⟩ := hm
    have hm2 : "again" = w ∨ "till" = w ∨ "hold" = w := by rcases hw with rfl | rfl | rfl <;> decide
    generalize w ++ " " ++ natStr n = H at m1 m2 m3 m4 m5 m6 m7 m8 m9 hl1 ⊢
    simp [runF, seqM, readV, moveV, D.isHole, getS, setS, D.pur, purL, D.frz, frzL, bltF, lenF, tupleF, intF, strF, isiF, isTy, tyOf, allF, allB, sumF, allI, cmpF, truthM, D.truth, ixP, ixF, ixD, outsOf, small_def, binF, big64, lift_def, TT.pureM, hereM, callM, takeA, takeP, giveA, putP, tyM, mutM, mutF, appendF, Mu.isL, borM, frzE, D.noFro, noFroL, bmTy, bmtF, D.okEq, D.dat, datL, D.depth, depthL, qii, qss, qbb, qnn, qtt, qll, qts, qst, qnt, qtn, q0, q0c, qc0, qcc, entKey, b2i, rngF1, enumSrc, seqItems, f_p_part_of, b_p_part_of, splitF, e1, e2, hl1, hpu', c_MANY_KINDS, c_ONE_KINDS, c_COUNT_KINDS, m1, m2, m3, m4, m5, m6, m7, m8, m9, hm2, Tr.D, Option.filter, hn, Tr.notNeg]
  · simp only [Tr.ok, Bool.and_eq_true, decide_eq_true_eq] at h
    have hb : n = 1 ∨ n = 2 ∨ n = 3 ∨ n = 4 ∨ n = 5 ∨ n = 6 ∨ n = 7 ∨ n = 8 ∨ n = 9 := by omega
    have hn := number1 (show 1 ≤ k + 1 by omega) n (by omega)
    simp only [Tr.parts, Tr.head] at hpu hl1 ⊢
    have hm : ¬ "row" = "beside " ++ natStr n ∧ ¬ "choice" = "beside " ++ natStr n ∧ ¬ "row anew" = "beside " ++ natStr n ∧ ¬ "choice anew" = "beside " ++ natStr n ∧ ¬ "not" = "beside " ++ natStr n ∧ ¬ "yes" = "beside " ++ natStr n ∧ ¬ "no" = "beside " ++ natStr n ∧ ¬ "keep" = "beside " ++ natStr n ∧
        ((splitOn ' ' ("beside " ++ natStr n).toList).map fun x => D.str (String.ofList x)) = [.str "beside", .str (natStr n)] := by
      rcases hb with rfl | rfl | rfl | rfl | rfl | rfl | rfl | rfl | rfl <;> (refine ⟨?_, ?_, ?_, ?_, ?_, ?_, ?_, ?_, ?_⟩ <;> first | decide +kernel | rfl)
    obtain ⟨m1, m2, m3, m4, m5, m6, m7, m8, m9⟩ := hm
    generalize "beside " ++ natStr n = H at m1 m2 m3 m4 m5 m6 m7 m8 m9 hl1 ⊢
    simp [runF, seqM, readV, moveV, D.isHole, getS, setS, D.pur, purL, D.frz, frzL, bltF, lenF, tupleF, intF, strF, isiF, isTy, tyOf, allF, allB, sumF, allI, cmpF, truthM, D.truth, ixP, ixF, ixD, outsOf, small_def, binF, big64, lift_def, TT.pureM, hereM, callM, takeA, takeP, giveA, putP, tyM, mutM, mutF, appendF, Mu.isL, borM, frzE, D.noFro, noFroL, bmTy, bmtF, D.okEq, D.dat, datL, D.depth, depthL, qii, qss, qbb, qnn, qtt, qll, qts, qst, qnt, qtn, q0, q0c, qc0, qcc, entKey, b2i, rngF1, enumSrc, seqItems, f_p_part_of, b_p_part_of, splitF, e1, e2, hl1, hpu, c_MANY_KINDS, c_ONE_KINDS, c_COUNT_KINDS, m1, m2, m3, m4, m5, m6, m7, m8, m9, Tr.D, Option.filter, hn]
end TT
set_option Elab.async false
set_option linter.all false
set_option maxHeartbeats 4000000
namespace TT
open PySem
theorem sl_mid (s : String) (a b c : List Char) (e : s.toList = a ++ (b ++ c)) (i j : Int) (hi : i = (a.length : Nat)) (hj : j = ((a.length + b.length : Nat) : Int)) : slF (.str s) (some i) (some j) = some (.str (String.ofList b)) := by
  subst hi hj
  have h1 : ¬ ((a.length : Nat) : Int) < 0 := by omega
  have h2 : ¬ ((a.length + b.length : Nat) : Int) < 0 := by omega
  simp only [slF, cut, clip, e, h1, h2, if_false, Int.toNat_natCast]
  have m1 : min a.length (a ++ (b ++ c)).length = a.length := by simp
  have m2 : min (a.length + b.length) (a ++ (b ++ c)).length = a.length + b.length := by simp
  rw [m1, m2]
  simp
theorem ofL (l : List Char) (s : String) (h : s.toList = l) : String.ofList l = s := by rw [← h, String.ofList_toList]
def stopC (c : Char) : Prop := c = ')' ∨ c = ';'
def RdP (d : Nat) : Prop := ∀ (t : Tr), t.ok d = true → t.size ≤ 50 → ∀ k, 3 * d + 6 ≤ k → ∀ deep : Nat, d ≤ deep + 1 → ∀ (s : String) (pre post : List Char), s.toList = pre ++ (t.txt.toList ++ post) → (∀ c q, post = c :: q → stopC c) → s.length ≤ 90000 →
  R k "read_part" [.str s, .int (pre.length : Nat), .int (deep : Nat)] = .ok (.tup [t.D, .int ((pre.length + t.txt.length : Nat) : Int)]) []
noncomputable abbrev loopB (k : Nat) : M Fl := seqM (setE 8 (callE (R k) "read_part" (valA (readV 0) (valA (readV 7) (valA (binE .Sub (readV 2) (pure (.int 1))) (nilA)))))) (seqM (iteS (valT (cmpE .Is (readV 8) (pure .non))) (seqM (retS (pure .non)) (nxS)) (nxS)) (seqM (expS (mutE .append 6 (consL (ixE (readV 8) (pure (.int 0))) (nilL)))) (seqM (setE 7 (ixE (readV 8) (pure (.int 1)))) (seqM (iteS (valT (cmpE .Eq (slE (readV 0) (soO (readV 7)) (soO (binE .Add (readV 7) (pure (.int 1))))) (pure (.str ")")))) (seqM (setE 9 (callE (R k) "part_of" (valA (readV 4) (valA (readV 6) (nilA))))) (seqM (retS (iteE (valT (cmpE .Is (readV 9) (pure .non))) (pure .non) (tupE (consL (moveV 9) (consL (binE .Add (readV 7) (pure (.int 1))) (nilL)))))) (nxS))) (nxS)) (seqM (iteS (valT (cmpE .NotEq (slE (readV 0) (soO (readV 7)) (soO (binE .Add (readV 7) (pure (.int 2))))) (pure (.str "; ")))) (seqM (retS (pure .non)) (nxS)) (nxS)) (seqM (setE 7 (binE .Add (readV 7) (pure (.int 2)))) (nxS)))))))
theorem frzL_app : ∀ a b : List D, frzL (a ++ b) = frzL a ++ frzL b
  | [], b => rfl
  | x :: a, b => by simp [frzL, frzL_app a b]
theorem Tr.shape (t : Tr) : ∃ xs, t.D = .tup xs := by cases t <;> exact ⟨_, rfl⟩
theorem read_loop {d k deep : Nat} (ih : RdP d) (hk : 3 * d + 6 ≤ k) (hd : d ≤ deep + 1) (s : String) (hs : s.length ≤ 90000) (a1 a3 : Option D) (t : Tr) (ht : t.ok (d + 1) = true) (hz : t.size ≤ 50) (hne : t.parts ≠ []) (post : List Char) :
    ∀ (rest done : List Tr) (pre : List Char) (x5 x8 x9 : Option D), rest ≠ [] → done ++ rest = t.parts → s.toList = pre ++ ((joinS "; " (txts rest)).toList ++ ')' :: post) →
      ∃ r', whileM (valT (pure (.bl true))) (loopB k) [some (.str s), a1, some (.int ((deep : Int) + 1)), a3, some (.str t.head), x5, some (.lst true (trsD done)), some (.int (pre.length : Nat)), x8, x9] =
        .ok (.rt (.tup [t.D, .int ((pre.length + (joinS "; " (txts rest)).length + 1 : Nat) : Int)])) r' ∧ outsOf [false, false, false] r' = some []
  | [], _, _, _, _, _, h, _, _ => absurd rfl h
  | [x], done, pre, x5, x8, x9, _, hdn, e => by
    have hokp := Tr.ok_parts ht
    have hx : x.ok d = true := ok_mem hokp (by rw [← hdn]; simp)
    have hsx : x.size ≤ 50 := by
      have := size_le (ts := t.parts) (t := x) (by rw [← hdn]; simp)
      rw [Tr.size_parts] at hz; omega
    have ej : joinS "; " (txts [x]) = x.txt := by simp [txts, joinS]
    rw [ej] at e ⊢
    have hr := ih x hx hsx k hk deep hd s pre (')' :: post) e (fun c q z => by cases z; exact .inl rfl) hs
    have hpo := partOf (show 2 ≤ k by omega) ht hne
    rw [← hdn, trsD_app] at hpo
    obtain ⟨n, hn⟩ : ∃ n, pre.length + x.txt.length = n := ⟨_, rfl⟩
    rw [hn] at hr ⊢
    have hsl : slF (.str s) (some (n : Int)) (some ((n : Int) + 1)) = some (.str ")") := by
      rw [sl_mid s (pre ++ x.txt.toList) [')'] post (by rw [e]; simp) _ _ (by simp [← hn, ← String.length_toList]) (by simp [← hn, ← String.length_toList])]
    have hlen : (trsD done).length + 1 ≤ 100000 := by
      have l1 := len_le t.parts
      rw [← hdn] at l1
      have := Tr.size_parts t
      rw [← hdn] at this
      rw [trsD_length]
      simp at l1; omega
    obtain ⟨xs, hxs⟩ := x.shape
    obtain ⟨ys, hys⟩ := t.shape
    have hxp := x.pur
    have htp := t.pur
    have hfz := t.notNeg
    have hdp := trsD_pur done
    have hdf := frzL_pur _ hdp
    simp only [trsD, hxs] at hpo
    rw [hys] at hpo htp hfz ⊢
    rw [hxs] at hr hxp
    simp only [D.pur] at hxp htp
    have hxf := frzL_pur _ hxp
    have hc : valT (pure (.bl true)) [some (.str s), a1, some (.int ((deep : Int) + 1)), a3, some (.str t.head), x5, some (.lst true (trsD done)), some (.int (pre.length : Nat)), x8, x9] = .ok true [some (.str s), a1, some (.int ((deep : Int) + 1)), a3, some (.str t.head), x5, some (.lst true (trsD done)), some (.int (pre.length : Nat)), x8, x9] := by
      simp [runF, seqM, readV, moveV, D.isHole, getS, setS, D.pur, purL, D.frz, frzL, bltF, lenF, tupleF, intF, strF, isiF, isTy, tyOf, allF, allB, sumF, allI, cmpF, truthM, D.truth, ixP, ixF, ixD, outsOf, small_def, binF, big64, lift_def, TT.pureM, hereM, callM, takeA, takeP, giveA, putP, tyM, mutM, mutF, appendF, Mu.isL, borM, frzE, D.noFro, noFroL, bmTy, bmtF, D.okEq, D.dat, datL, D.depth, depthL, qii, qss, qbb, qnn, qtt, qll, qts, qst, qnt, qtn, q0, q0c, qc0, qcc, entKey, b2i, rngF1, enumSrc, seqItems]
    have hb : loopB k [some (.str s), a1, some (.int ((deep : Int) + 1)), a3, some (.str t.head), x5, some (.lst true (trsD done)), some (.int (pre.length : Nat)), x8, x9] =
        .ok (.rt (.tup [.tup ys, .int ((n : Int) + 1)])) [some (.str s), a1, some (.int ((deep : Int) + 1)), a3, some (.str t.head), x5, some (.lst false (trsD done ++ [.tup xs])), some (.int (n : Nat)), some (.tup [.tup xs, .int (n : Nat)]), some (.tup ys)] := by
      simp [runF, seqM, readV, moveV, D.isHole, getS, setS, D.pur, purL, D.frz, frzL, bltF, lenF, tupleF, intF, strF, isiF, isTy, tyOf, allF, allB, sumF, allI, cmpF, truthM, D.truth, ixP, ixF, ixD, outsOf, small_def, binF, big64, lift_def, TT.pureM, hereM, callM, takeA, takeP, giveA, putP, tyM, mutM, mutF, appendF, Mu.isL, borM, frzE, D.noFro, noFroL, bmTy, bmtF, D.okEq, D.dat, datL, D.depth, depthL, qii, qss, qbb, qnn, qtt, qll, qts, qst, qnt, qtn, q0, q0c, qc0, qcc, entKey, b2i, rngF1, enumSrc, seqItems, hr, hsl, hpo, hxp, htp, hxf, hdp, hdf, hlen, Option.filter, trsD_pur, purL_append, frzL_app]
    refine ⟨[some (.str s), a1, some (.int ((deep : Int) + 1)), a3, some (.str t.head), x5, some (.lst false (trsD done ++ [.tup xs])), some (.int (n : Nat)), some (.tup [.tup xs, .int (n : Nat)]), some (.tup ys)], ?_, rfl⟩
    rw [whileM_eq, hc]
    simp only [hb]
    rw [Int.natCast_add]
    rfl
  | x :: y :: r, done, pre, x5, x8, x9, _, hdn, e => by
    have hokp := Tr.ok_parts ht
    have hx : x.ok d = true := ok_mem hokp (by rw [← hdn]; simp)
    have hsx : x.size ≤ 50 := by
      have := size_le (ts := t.parts) (t := x) (by rw [← hdn]; simp)
      rw [Tr.size_parts] at hz; omega
    have ej : joinS "; " (txts (x :: y :: r)) = x.txt ++ "; " ++ joinS "; " (txts (y :: r)) := by simp [txts, joinS]
    have e2 : "; ".toList = [';', ' '] := rfl
    rw [ej] at e ⊢
    have e' : s.toList = pre ++ (x.txt.toList ++ (';' :: (' ' :: ((joinS "; " (txts (y :: r))).toList ++ ')' :: post)))) := by rw [e]; simp [String.toList_append, e2]
    have hr := ih x hx hsx k hk deep hd s pre _ e' (fun c q z => by cases z; exact .inr rfl) hs
    obtain ⟨n, hn⟩ : ∃ n, pre.length + x.txt.length = n := ⟨_, rfl⟩
    rw [hn] at hr
    have hsl : slF (.str s) (some (n : Int)) (some ((n : Int) + 1)) = some (.str ";") :=
      sl_mid s (pre ++ x.txt.toList) [';'] (' ' :: ((joinS "; " (txts (y :: r))).toList ++ ')' :: post)) (by rw [e']; simp) _ _ (by simp [← hn, ← String.length_toList]) (by simp [← hn, ← String.length_toList])
    have hsl2 : slF (.str s) (some (n : Int)) (some ((n : Int) + 2)) = some (.str "; ") :=
      sl_mid s (pre ++ x.txt.toList) [';', ' '] ((joinS "; " (txts (y :: r))).toList ++ ')' :: post) (by rw [e']; simp) _ _ (by simp [← hn, ← String.length_toList]) (by simp [← hn, ← String.length_toList])
    have hlen : (trsD done).length + 1 ≤ 100000 := by
      have l1 := len_le t.parts
      rw [← hdn] at l1
      have := Tr.size_parts t
      rw [← hdn] at this
      rw [trsD_length]
      simp at l1; omega
    obtain ⟨r', ih2, ho⟩ := read_loop ih hk hd s hs a1 a3 t ht hz hne post (y :: r) (done ++ [x]) (pre ++ x.txt.toList ++ [';', ' ']) x5 (some (.tup [x.D, .int (n : Nat)])) x9 (by simp) (by rw [← hdn]; simp) (by rw [e']; simp)
    have hpn : (pre ++ x.txt.toList ++ [';', ' ']).length = n + 2 := by simp [← hn, ← String.length_toList]; omega
    rw [hpn] at ih2
    obtain ⟨xs, hxs⟩ := x.shape
    have hxp := x.pur
    have hdp := trsD_pur done
    have hdf := frzL_pur _ hdp
    rw [trsD_app] at ih2
    simp only [trsD] at ih2
    rw [hxs] at hr hxp ih2
    simp only [D.pur] at hxp
    have hxf := frzL_pur _ hxp
    have hc : valT (pure (.bl true)) [some (.str s), a1, some (.int ((deep : Int) + 1)), a3, some (.str t.head), x5, some (.lst true (trsD done)), some (.int (pre.length : Nat)), x8, x9] = .ok true [some (.str s), a1, some (.int ((deep : Int) + 1)), a3, some (.str t.head), x5, some (.lst true (trsD done)), some (.int (pre.length : Nat)), x8, x9] := by
      simp [runF, seqM, readV, moveV, D.isHole, getS, setS, D.pur, purL, D.frz, frzL, bltF, lenF, tupleF, intF, strF, isiF, isTy, tyOf, allF, allB, sumF, allI, cmpF, truthM, D.truth, ixP, ixF, ixD, outsOf, small_def, binF, big64, lift_def, TT.pureM, hereM, callM, takeA, takeP, giveA, putP, tyM, mutM, mutF, appendF, Mu.isL, borM, frzE, D.noFro, noFroL, bmTy, bmtF, D.okEq, D.dat, datL, D.depth, depthL, qii, qss, qbb, qnn, qtt, qll, qts, qst, qnt, qtn, q0, q0c, qc0, qcc, entKey, b2i, rngF1, enumSrc, seqItems]
    have hb : loopB k [some (.str s), a1, some (.int ((deep : Int) + 1)), a3, some (.str t.head), x5, some (.lst true (trsD done)), some (.int (pre.length : Nat)), x8, x9] =
        .ok .nx [some (.str s), a1, some (.int ((deep : Int) + 1)), a3, some (.str t.head), x5, some (.lst true (trsD done ++ [.tup xs])), some (.int ((n + 2 : Nat) : Int)), some (.tup [.tup xs, .int (n : Nat)]), x9] := by
      simp [runF, seqM, readV, moveV, D.isHole, getS, setS, D.pur, purL, D.frz, frzL, bltF, lenF, tupleF, intF, strF, isiF, isTy, tyOf, allF, allB, sumF, allI, cmpF, truthM, D.truth, ixP, ixF, ixD, outsOf, small_def, binF, big64, lift_def, TT.pureM, hereM, callM, takeA, takeP, giveA, putP, tyM, mutM, mutF, appendF, Mu.isL, borM, frzE, D.noFro, noFroL, bmTy, bmtF, D.okEq, D.dat, datL, D.depth, depthL, qii, qss, qbb, qnn, qtt, qll, qts, qst, qnt, qtn, q0, q0c, qc0, qcc, entKey, b2i, rngF1, enumSrc, seqItems, hr, hsl, hsl2, hxp, hxf, hdp, hdf, hlen, Option.filter, trsD_pur, purL_append, frzL_app]
    refine ⟨r', ?_, ho⟩
    rw [whileM_eq, hc]
    simp only [hb]
    rw [ih2]
    have l2 : "; ".length = 2 := rfl
    simp only [String.length_append, l2]
    have : n + 2 + (joinS "; " (txts (y :: r))).length + 1 = pre.length + (x.txt.length + 2 + (joinS "; " (txts (y :: r))).length) + 1 := by omega
    rw [this]
theorem readPart : ∀ d, RdP d
  | 0 => fun t h => by simp [Tr.ok] at h
  | d + 1 => by
    intro t ht hz k hk deep hd s pre post e hpost hs
    obtain ⟨k, rfl⟩ : ∃ j, k = j + 1 := ⟨k - 1, by omega⟩
    have hpl := head_plain ht
    have hhl := head_len ht
    have hl : s.length = pre.length + (t.txt.length + post.length) := by rw [← String.length_toList, e]; simp [← String.length_toList]
    rw [R_p_read_part]
    by_cases hp : t.parts = []
    · rw [Tr.txt_leaf hp ht] at e hl ⊢
      obtain ⟨ws, hw1, hw2⟩ := leafWords ht hp
      have hw := hw2 (show 2 ≤ k by omega)
      have hsc := scan s (some (.int (pre.length : Nat))) (some (.int (deep : Nat))) [none, none, none, none, none, none] t.head.toList pre post e hpl (fun c q z => by rcases hpost c q z with rfl | rfl <;> simp [brk])
      obtain ⟨n, hn⟩ : ∃ n, pre.length + t.head.length = n := ⟨_, rfl⟩
      have hn' : pre.length + t.head.toList.length = n := by rw [String.length_toList]; exact hn
      rw [hn'] at hsc
      rw [hn]
      have hsl : slF (.str s) (some ((pre.length : Nat) : Int)) (some (n : Int)) = some (.str t.head) := by
        rw [sl_mid s pre t.head.toList post e _ _ rfl (by rw [hn']), String.ofList_toList]
      have e1 : " ".toList = [' '] := rfl
      have e2 : ' '.toNat < 256 := by decide
      have hl1 : t.head.length ≤ 99999 := by omega
      have hw3 : ((splitOn ' ' t.head.toList).map fun x => D.str (String.ofList x)) = ws.map .str := by rw [← hw1]; simp
      have hwp : purL (ws.map D.str) = true := ssL_pur ws
      have hwf := ssL_frz ws
      obtain ⟨ys, hys⟩ := t.shape
      have htp := t.pur
      have htf := t.notNeg
      rw [hys] at hw htp htf ⊢
      simp only [D.pur] at htp
      simp only [runF, f_p_read_part, b_p_read_part]
      generalize (whileM (andT (valT (cmpE .Lt (readV 3) (bltE .len (consL (readV 0) (nilL))))) (valT (cmpE .NotIn (ixE (readV 0) (readV 3)) (pure (.str "();"))))) (seqM (setE 3 (binE .Add (readV 3) (pure (.int 1)))) (nxS)) : M Fl) = W at hsc ⊢
      cases post with
      | nil =>
        have hn3 : s.length = n := by simp at hl; omega
        simp [runF, seqM, readV, moveV, D.isHole, getS, setS, D.pur, purL, D.frz, frzL, bltF, lenF, tupleF, intF, strF, isiF, isTy, tyOf, allF, allB, sumF, allI, cmpF, truthM, D.truth, ixP, ixF, ixD, outsOf, small_def, binF, big64, lift_def, TT.pureM, hereM, callM, takeA, takeP, giveA, putP, tyM, mutM, mutF, appendF, Mu.isL, borM, frzE, D.noFro, noFroL, bmTy, bmtF, D.okEq, D.dat, datL, D.depth, depthL, qii, qss, qbb, qnn, qtt, qll, qts, qst, qnt, qtn, q0, q0c, qc0, qcc, entKey, b2i, rngF1, enumSrc, seqItems, hsc, hsl, splitF, e1, e2, hl1, hw3, hwp, hwf, hw, htp, htf, hn3]
      | cons c q =>
        have hcb := hpost c q rfl
        have hlt : ¬ (n : Int) = (s.length : Int) := by rw [hl]; simp [← hn]; omega
        have hlt' : ¬ n = s.length := by simp at hl; omega
        have hat : s.toList[n]? = some c := by rw [e, ← List.append_assoc, ← hn']; simp
        have hcne : ¬ String.singleton c = "(" := by
          intro z
          have : (String.singleton c).toList = "(".toList := by rw [z]
          have e3 : "(".toList = ['('] := rfl
          rw [e3] at this
          simp at this
          subst this
          rcases hcb with h | h <;> cases h
        simp [runF, seqM, readV, moveV, D.isHole, getS, setS, D.pur, purL, D.frz, frzL, bltF, lenF, tupleF, intF, strF, isiF, isTy, tyOf, allF, allB, sumF, allI, cmpF, truthM, D.truth, ixP, ixF, ixD, outsOf, small_def, binF, big64, lift_def, TT.pureM, hereM, callM, takeA, takeP, giveA, putP, tyM, mutM, mutF, appendF, Mu.isL, borM, frzE, D.noFro, noFroL, bmTy, bmtF, D.okEq, D.dat, datL, D.depth, depthL, qii, qss, qbb, qnn, qtt, qll, qts, qst, qnt, qtn, q0, q0c, qc0, qcc, entKey, b2i, rngF1, enumSrc, seqItems, hsc, hsl, splitF, e1, e2, hl1, hw3, hwp, hwf, hw, htp, htf, hlt, hlt', hat, hcne, Option.filter]
    · rw [Tr.txt_parts ht hp] at e hl ⊢
      have hd1 : 1 ≤ d := by
        have hok := Tr.ok_parts ht
        cases h : t.parts with
        | nil => exact absurd h hp
        | cons x xs =>
          rw [h] at hok
          simp only [okL, Bool.and_eq_true] at hok
          cases d with
          | zero => simp [Tr.ok] at hok
          | succ d => omega
      obtain ⟨dp, rfl⟩ : ∃ dp, deep = dp + 1 := ⟨deep - 1, by omega⟩
      have eo : "(".toList = ['('] := rfl
      have ec : ")".toList = [')'] := rfl
      have e' : s.toList = pre ++ (t.head.toList ++ ('(' :: ((joinS "; " (txts t.parts)).toList ++ ')' :: post))) := by rw [e]; simp [String.toList_append, eo, ec]
      have hsc := scan s (some (.int (pre.length : Nat))) (some (.int ((dp : Int) + 1))) [none, none, none, none, none, none] t.head.toList pre _ e' hpl (fun c q z => by cases z; exact .inl rfl)
      obtain ⟨n, hn⟩ : ∃ n, pre.length + t.head.length = n := ⟨_, rfl⟩
      have hn' : pre.length + t.head.toList.length = n := by rw [String.length_toList]; exact hn
      rw [hn'] at hsc
      have hsl : slF (.str s) (some ((pre.length : Nat) : Int)) (some (n : Int)) = some (.str t.head) := by
        rw [sl_mid s pre t.head.toList ('(' :: ((joinS "; " (txts t.parts)).toList ++ ')' :: post)) e' _ _ rfl (by rw [hn']), String.ofList_toList]
      have lo : "(".length = 1 := rfl
      have lc : ")".length = 1 := rfl
      simp only [String.length_append, lo, lc] at hl ⊢
      have hlt : ¬ (n : Int) = (s.length : Int) := by rw [hl]; simp [← hn]; omega
      have hlt' : ¬ n = s.length := by omega
      have hat : s.toList[n]? = some '(' := by rw [e', ← List.append_assoc, ← hn']; simp
      obtain ⟨r', hlo, hou⟩ := read_loop (readPart d) (show 3 * d + 6 ≤ k by omega) (show d ≤ dp + 1 by omega) s hs (some (.int (pre.length : Nat))) (some (.int (n : Nat))) t ht hz hp post t.parts [] (pre ++ t.head.toList ++ ['(']) none none none hp rfl (by rw [e']; simp)
      have hpn : (pre ++ t.head.toList ++ ['(']).length = n + 1 := by simp [← hn, ← String.length_toList]; omega
      rw [hpn] at hlo
      simp only [trsD] at hlo
      have hfin : n + 1 + (joinS "; " (txts t.parts)).length + 1 = pre.length + (t.head.length + 1 + (joinS "; " (txts t.parts)).length + 1) := by omega
      rw [hfin] at hlo
      generalize pre.length + (t.head.length + 1 + (joinS "; " (txts t.parts)).length + 1) = z at hlo ⊢
      have hdn : ¬ ((dp : Int) + 1 = 0) := by omega
      have hsing : String.singleton '(' = "(" := rfl
      simp only [runF, f_p_read_part, b_p_read_part]
      generalize (whileM (andT (valT (cmpE .Lt (readV 3) (bltE .len (consL (readV 0) (nilL))))) (valT (cmpE .NotIn (ixE (readV 0) (readV 3)) (pure (.str "();"))))) (seqM (setE 3 (binE .Add (readV 3) (pure (.int 1)))) (nxS)) : M Fl) = W at hsc ⊢
      unfold loopB at hlo
      generalize (whileM (valT (pure (.bl true))) _ : M Fl) = V at hlo ⊢
      simp at hlo
      simp [runF, seqM, readV, moveV, D.isHole, getS, setS, D.pur, purL, D.frz, frzL, bltF, lenF, tupleF, intF, strF, isiF, isTy, tyOf, allF, allB, sumF, allI, cmpF, truthM, D.truth, ixP, ixF, ixD, outsOf, small_def, binF, big64, lift_def, TT.pureM, hereM, callM, takeA, takeP, giveA, putP, tyM, mutM, mutF, appendF, Mu.isL, borM, frzE, D.noFro, noFroL, bmTy, bmtF, D.okEq, D.dat, datL, D.depth, depthL, qii, qss, qbb, qnn, qtt, qll, qts, qst, qnt, qtn, q0, q0c, qc0, qcc, entKey, b2i, rngF1, enumSrc, seqItems, hsc, hsl, hlt, hlt', hat, hsing, hdn, Option.filter, hlo, hou]
end TT
set_option Elab.async false
set_option linter.all false
set_option maxHeartbeats 4000000
namespace TT
open PySem
theorem readOf {k : Nat} (hk : 26 ≤ k) (t : Tr) (h : t.ok 5 = true) (hs : t.size ≤ 14) : R k "read" [.str t.txt] = .ok t.D [] := by
  obtain ⟨k, rfl⟩ : ∃ j, k = j + 1 := ⟨k - 1, by omega⟩
  have hl := txt_len 5 t h
  have h1 := readPart 5 t h (by omega) k (by omega) 8 (by omega) t.txt [] [] (by simp) (fun c q z => by cases z) (by omega)
  simp only [List.length_nil, Nat.zero_add, Int.cast_ofNat_Int] at h1
  have h2 := isTree (show 15 ≤ k by omega) t h hs
  have h3 := textOf 5 (show 5 + 3 ≤ k by omega) (by omega) t h (by omega)
  rw [R_p_read]
  obtain ⟨ys, hys⟩ := t.shape
  have htp := t.pur
  have htf := t.notNeg
  rw [hys] at h1 h2 h3 htp htf ⊢
  simp only [D.pur] at htp
  have hf := frzL_pur _ htp
  simp [runF, seqM, readV, moveV, D.isHole, getS, setS, D.pur, purL, D.frz, frzL, bltF, lenF, tupleF, intF, strF, isiF, isTy, tyOf, allF, allB, sumF, allI, cmpF, truthM, D.truth, ixP, ixF, ixD, outsOf, small_def, binF, big64, lift_def, TT.pureM, hereM, callM, takeA, takeP, giveA, putP, tyM, mutM, mutF, appendF, Mu.isL, borM, frzE, D.noFro, noFroL, bmTy, bmtF, D.okEq, D.dat, datL, D.depth, depthL, qii, qss, qbb, qnn, qtt, qll, qts, qst, qnt, qtn, q0, q0c, qc0, qcc, entKey, b2i, rngF1, enumSrc, seqItems, f_p_read, b_p_read, h1, h2, h3, htp, hf, Option.filter]
theorem shownP {k : Nat} (hk : 17 ≤ k) (t : Tr) (h : t.ok 5 = true) (hs : t.size ≤ 14) : R k "shown" [t.D] = .ok (.str t.txt) [] := by
  obtain ⟨k, rfl⟩ : ∃ j, k = j + 1 := ⟨k - 1, by omega⟩
  rw [R_p_shown]
  simp [runF, seqM, readV, moveV, D.isHole, getS, setS, D.pur, purL, D.frz, frzL, bltF, lenF, tupleF, intF, strF, isiF, isTy, tyOf, allF, allB, sumF, allI, cmpF, truthM, D.truth, ixP, ixF, ixD, outsOf, small_def, binF, big64, lift_def, TT.pureM, hereM, callM, takeA, takeP, giveA, putP, tyM, mutM, mutF, appendF, Mu.isL, borM, frzE, D.noFro, noFroL, bmTy, bmtF, D.okEq, D.dat, datL, D.depth, depthL, qii, qss, qbb, qnn, qtt, qll, qts, qst, qnt, qtn, q0, q0c, qc0, qcc, entKey, b2i, rngF1, enumSrc, seqItems, f_p_shown, b_p_shown, Tr.pur, Tr.notNeg, needTree (show 16 ≤ k by omega) t h hs, textOf 5 (show 5 + 3 ≤ k by omega) (by omega) t h (by omega)]
theorem backOf {k : Nat} (hk : 27 ≤ k) (t : Tr) (h : t.ok 5 = true) (hs : t.size ≤ 14) : R k "_law_back" [.str t.txt] = .ok t.D [] := by
  obtain ⟨k, rfl⟩ : ∃ j, k = j + 1 := ⟨k - 1, by omega⟩
  rw [R_l_back]
  simp [runF, seqM, readV, moveV, D.isHole, getS, setS, D.pur, purL, D.frz, frzL, bltF, lenF, tupleF, intF, strF, isiF, isTy, tyOf, allF, allB, sumF, allI, cmpF, truthM, D.truth, ixP, ixF, ixD, outsOf, small_def, binF, big64, lift_def, TT.pureM, hereM, callM, takeA, takeP, giveA, putP, tyM, mutM, mutF, appendF, Mu.isL, borM, frzE, D.noFro, noFroL, bmTy, bmtF, D.okEq, D.dat, datL, D.depth, depthL, qii, qss, qbb, qnn, qtt, qll, qts, qst, qnt, qtn, q0, q0c, qc0, qcc, entKey, b2i, rngF1, enumSrc, seqItems, f_l_back, b_l_back, tryM, readOf (show 26 ≤ k by omega) t h hs]
/-! ### two trees -/
def Tr.first : Tr → String
  | .ask _ => "ask" | .set _ _ => "set" | .dee _ _ _ => "do" | .many w _ => w | .one w _ => w | .cnt w _ _ => w | .bes _ _ => "beside"
def Tr.kind : Tr → Nat
  | .ask _ => 0 | .set _ _ => 1 | .dee _ _ _ => 2 | .many _ _ => 3 | .one _ _ => 4 | .cnt _ _ _ => 5 | .bes _ _ => 6
def tagOf (s : String) : Nat := if s = "ask" then 0 else if s = "set" then 1 else if s = "do" then 2 else if s = "row" ∨ s = "choice" ∨ s = "row anew" ∨ s = "choice anew" then 3 else if s = "not" ∨ s = "yes" ∨ s = "no" ∨ s = "keep" then 4 else if s = "again" ∨ s = "till" ∨ s = "hold" then 5 else 6
theorem Tr.tag {d : Nat} {t : Tr} (h : t.ok d = true) : tagOf t.first = t.kind := by
  rcases Tr.words h with ⟨f, rfl⟩ | ⟨f, b, rfl⟩ | ⟨a, b, c, rfl⟩ | ⟨w, ts, rfl, hw⟩ | ⟨w, t', rfl, hw⟩ | ⟨w, n, t', rfl, hw⟩ | ⟨n, ts, rfl⟩
  · rfl
  · rfl
  · rfl
  · simp only [Tr.first, Tr.kind]; rcases hw with rfl | rfl | rfl | rfl <;> decide
  · simp only [Tr.first, Tr.kind]; rcases hw with rfl | rfl | rfl | rfl <;> decide
  · simp only [Tr.first, Tr.kind]; rcases hw with rfl | rfl | rfl <;> decide
  · rfl
theorem Tr.eq_first {t o : Tr} (h : pyEq t.D o.D = true) : t.first = o.first := by
  have key : ∀ (a b : String) (as bs : List TT.D), pyEq (.tup (.str a :: as)) (.tup (.str b :: bs)) = true → a = b := fun a b as bs e => by
    simp [pyEq, pyEqL] at e
    exact e.1
  cases t <;> cases o <;> exact key _ _ _ _ h
mutual
theorem eq_txt : ∀ (d : Nat) (t o : Tr), t.ok d = true → o.ok d = true → pyEq t.D o.D = true → t.txt = o.txt
  | 0, _, _, h, _, _ => by simp [Tr.ok] at h
  | d + 1, t, o, ht, ho, e => by
    have e1 := Tr.eq_first e
    have hk : t.kind = o.kind := by rw [← Tr.tag ht, ← Tr.tag ho, e1]
    cases t <;> cases o <;> simp only [Tr.kind] at hk <;> first | (cases hk; done) | skip
    · simp [Tr.D, pyEq, pyEqL] at e; simp [Tr.txt, e]
    · simp [Tr.D, pyEq, pyEqL] at e; simp [Tr.txt, e]
    · rename_i nm n z nm' n' z'
      simp [Tr.D, pyEq, pyEqL] at e
      have en : n = n' := by have := e.2.1; omega
      simp [Tr.txt, e, en]
    · rename_i w ts w' ts'
      simp only [Tr.ok, Bool.and_eq_true] at ht ho
      simp [Tr.D, pyEq, pyEqL] at e
      simp [Tr.txt, e.1, eqs_txt d ts ts' ht.2 ho.2 e.2]
    · rename_i w t w' t'
      simp only [Tr.ok, Bool.and_eq_true] at ht ho
      simp [Tr.D, pyEq, pyEqL] at e
      simp [Tr.txt, e.1, eq_txt d t t' ht.2 ho.2 e.2]
    · rename_i w n t w' n' t'
      simp only [Tr.ok, Bool.and_eq_true] at ht ho
      simp [Tr.D, pyEq, pyEqL] at e
      have en : n = n' := by have := e.2.1; omega
      simp [Tr.txt, e.1, en, eq_txt d t t' ht.2 ho.2 e.2.2]
    · rename_i n ts n' ts'
      simp only [Tr.ok, Bool.and_eq_true] at ht ho
      simp [Tr.D, pyEq, pyEqL] at e
      have en : n = n' := by have := e.1; omega
      simp [Tr.txt, en, eqs_txt d ts ts' ht.2 ho.2 e.2]
theorem eqs_txt : ∀ (d : Nat) (ts os : List Tr), okL d ts = true → okL d os = true → pyEqL (trsD ts) (trsD os) = true → txts ts = txts os
  | _, [], [], _, _, _ => rfl
  | _, [], _ :: _, _, _, e => by simp [trsD, pyEqL] at e
  | _, _ :: _, [], _, _, e => by simp [trsD, pyEqL] at e
  | d, t :: ts, o :: os, ht, ho, e => by
    simp only [okL, Bool.and_eq_true] at ht ho
    simp only [trsD, pyEqL, Bool.and_eq_true] at e
    rw [txts, txts, eq_txt d t o ht.1 ho.1 e.1, eqs_txt d ts os ht.2 ho.2 e.2]
end
mutual
theorem pyEq_refl : ∀ d : D, d.dat = true → pyEq d d = true
  | .non, _ => by simp [pyEq]
  | .bl b, _ => by simp [pyEq]
  | .int i, _ => by simp [pyEq]
  | .str s, _ => by simp [pyEq]
  | .tup xs, h => by rw [qtt]; exact pyEqL_refl xs (by simpa [D.dat] using h)
  | .lst o xs, h => by rw [qll]; exact pyEqL_refl xs (by simpa [D.dat] using h)
  | .dct _ _ _, h => by simp [D.dat] at h
  | .obj _ _, h => by simp [D.dat] at h
  | .glo _, h => by simp [D.dat] at h
  | .ty _, h => by simp [D.dat] at h
  | .scr _, h => by simp [D.dat] at h
  | .hole, h => by simp [D.dat] at h
theorem pyEqL_refl : ∀ ds : List D, datL ds = true → pyEqL ds ds = true
  | [], _ => by simp [pyEqL]
  | d :: ds, h => by
    simp only [datL, Bool.and_eq_true] at h
    simp [pyEqL, pyEq_refl d h.1, pyEqL_refl ds h.2]
end
theorem same_txt (t o : Tr) (ht : t.ok 5 = true) (hts : t.size ≤ 14) (ho : o.ok 5 = true) (hos : o.size ≤ 14) : pyEq t.D o.D = (t.txt == o.txt) := by
  rw [Bool.eq_iff_iff, beq_iff_eq]
  constructor
  · exact eq_txt 5 t o ht ho
  · intro e
    have h1 := readOf (show 26 ≤ 26 by omega) t ht hts
    rw [e, readOf (show 26 ≤ 26 by omega) o ho hos] at h1
    have e2 : o.D = t.D := by injection h1
    rw [e2]
    exact pyEq_refl _ t.dat
/-! ### the law -/
theorem forM_all (a0 a1 a2 a5 : Option D) (B : M Fl) (P : Tr → Prop) (hB : ∀ t, P t → ∀ x4, ∃ x4', B [a0, a1, a2, some t.D, x4, a5] = .ok .nx [a0, a1, a2, some t.D, x4', a5]) : ∀ (ts : List Tr), (∀ t ∈ ts, P t) → ∀ x3 x4, ∃ x3' x4', forM [3] true B (trsD ts) [a0, a1, a2, x3, x4, a5] = .ok .nx [a0, a1, a2, x3', x4', a5]
  | [], _, x3, x4 => ⟨x3, x4, by simp [trsD, forM]⟩
  | t :: ts, h, x3, x4 => by
    obtain ⟨y4, hb⟩ := hB t (h t List.mem_cons_self) x4
    obtain ⟨z3, z4, ih⟩ := forM_all a0 a1 a2 a5 B P hB ts (fun t' m => h t' (List.mem_cons_of_mem _ m)) (some t.D) y4
    refine ⟨z3, z4, ?_⟩
    rw [trsD, forM]
    simp [tgtM, setS, hb, ih]
theorem forM_in (a0 a1 a2 a3 a5 : Option D) (B : M Fl) (P : Tr → Prop) (hB : ∀ t, P t → B [a0, a1, a2, a3, some t.D, a5] = .ok .nx [a0, a1, a2, a3, some t.D, a5]) : ∀ (ts : List Tr), (∀ t ∈ ts, P t) → ∀ x4, ∃ x4', forM [4] true B (trsD ts) [a0, a1, a2, a3, x4, a5] = .ok .nx [a0, a1, a2, a3, x4', a5]
  | [], _, x4 => ⟨x4, by simp [trsD, forM]⟩
  | t :: ts, h, x4 => by
    obtain ⟨z4, ih⟩ := forM_in a0 a1 a2 a3 a5 B P hB ts (fun t' m => h t' (List.mem_cons_of_mem _ m)) (some t.D)
    refine ⟨z4, ?_⟩
    rw [trsD, forM]
    simp [tgtM, setS, hB t (h t List.mem_cons_self), ih]
def Good (t : Tr) : Prop := t.ok 5 = true ∧ t.size ≤ 14
noncomputable abbrev eltT (k : Nat) : M D := callE (R k) "_law_tree" (valA (readV 0) (ioA 1 (valA (callE (R k) "_law_pick" (valA (readV 0) (ioA 1 (valA (lstE (consL (pure (.int 1)) (consL (pure (.int 2)) (consL (pure (.int 5)) (nilL))))) (nilA))))) (nilA))))
theorem trees_loop (ns : List Int) {k : Nat} (hk : 13 ≤ k) : ∀ (xs acc : List D) (n : Nat) (a2 a3 a4 a5 : Option D), n + xs.length * 10000 ≤ 50000 → acc.length + xs.length ≤ 1000 → ∃ (ts : List Tr) (m : Nat), (∀ t ∈ ts, Good t) ∧
    lcM [5] [5] true allT (eltT k) xs acc [some (.scr ns), some (.lst true (List.replicate n (.int 0))), a2, a3, a4, a5] = .ok (.lst true (acc ++ trsD ts)) [some (.scr ns), some (.lst true (List.replicate (n + m) (.int 0))), a2, a3, a4, none]
  | [], acc, n, a2, a3, a4, a5, _, _ => ⟨[], 0, (fun _ h => nomatch h), by simp [lcM, wipeE, trsD]⟩
  | x :: xs, acc, n, a2, a3, a4, a5, h1, h2 => by
    rw [List.length_cons, Nat.succ_mul] at h1
    simp only [List.length_cons] at h2
    obtain ⟨d, hd, hp⟩ := pick (show 4 ≤ k by omega) ns n (by omega) [.int 1, .int 2, .int 5] (by decide) rfl
    have hd' : ∃ j : Nat, d = .int j ∧ 1 ≤ j ∧ j ≤ 5 := by
      simp at hd
      rcases hd with rfl | rfl | rfl
      · exact ⟨1, rfl, by omega, by omega⟩
      · exact ⟨2, rfl, by omega, by omega⟩
      · exact ⟨5, rfl, by omega, by omega⟩
    obtain ⟨j, rfl, j1, j5⟩ := hd'
    obtain ⟨t, m, h5, hs, hm, e⟩ := tree hk ns (n + 1) j j1 j5 (by omega)
    obtain ⟨ts, m', hg, e'⟩ := trees_loop ns hk xs (acc ++ [t.D]) (n + 1 + m) a2 a3 a4 (some x) (by omega) (by simp; omega)
    refine ⟨t :: ts, 1 + m + m', fun t' h => ?_, ?_⟩
    · rcases List.mem_cons.mp h with rfl | h
      · exact ⟨h5, hs⟩
      · exact hg t' h
    · have hsm : acc.length + 1 ≤ 100000 := by omega
      rw [lcM]
      simp [runF, seqM, readV, moveV, D.isHole, getS, setS, D.pur, purL, D.frz, frzL, bltF, lenF, tupleF, intF, strF, isiF, isTy, tyOf, allF, allB, sumF, allI, cmpF, truthM, D.truth, ixP, ixF, ixD, outsOf, small_def, binF, big64, lift_def, TT.pureM, hereM, callM, takeA, takeP, giveA, putP, tyM, mutM, mutF, appendF, Mu.isL, borM, frzE, D.noFro, noFroL, bmTy, bmtF, D.okEq, D.dat, datL, D.depth, depthL, qii, qss, qbb, qnn, qtt, qll, qts, qst, qnt, qtn, q0, q0c, qc0, qcc, entKey, b2i, rngF1, enumSrc, seqItems, tgtM, wipeE, rp, rf, hp, e, Tr.pur, hsm]
      simp [trsD, Nat.add_assoc] at e' ⊢
      exact e'
theorem law_true : ∀ ns : List Int, ns.length ≤ 63 → R 41 "law" [.scr ns] = .ok (.bl true) [] := by
  intro ns _
  rw [R_law]
  obtain ⟨ts, m, hg, e⟩ := trees_loop ns (show 13 ≤ 40 by omega) (rngItems 0 3) [] 0 none none none none (by simp [rngItems]) (by simp [rngItems])
  rw [List.nil_append, Nat.zero_add] at e
  simp only [List.replicate_zero] at e
  have hpu := trsD_pur ts
  have hpf := frzL_pur _ hpu
  have key : ∀ (a5 : Option D) (t : Tr), Good t → ∀ x4, ∃ x4', (seqM (iteS (orT (valT (cmpE .NotEq (callE (R 40) "shown" (valA (readV 3) (nilA))) (callE (R 40) "_law_shown" (valA (readV 3) (nilA))))) (valT (cmpE .NotEq (callE (R 40) "_law_back" (valA (callE (R 40) "shown" (valA (readV 3) (nilA))) (nilA))) (readV 3)))) (seqM (retS (pure (.bl false))) (nxS)) (nxS)) (seqM (forS [4] true (sqI (readV 2)) (seqM (iteS (valT (cmpE .NotEq (cmpE .Eq (callE (R 40) "shown" (valA (readV 3) (nilA))) (callE (R 40) "shown" (valA (readV 4) (nilA)))) (cmpE .Eq (readV 3) (readV 4)))) (seqM (retS (pure (.bl false))) (nxS)) (nxS)) (nxS))) (nxS)))
      [some (.scr ns), some (.lst true (List.replicate m (.int 0))), some (.lst false (trsD ts)), some t.D, x4, a5] = .ok .nx [some (.scr ns), some (.lst true (List.replicate m (.int 0))), some (.lst false (trsD ts)), some t.D, x4', a5] := by
    intro a5 t ⟨ht, hts⟩ x4
    have s1 := shownP (show 17 ≤ 40 by omega) t ht hts
    have s2 := shownOf 5 (show 5 + 2 ≤ 40 by omega) t ht (by omega)
    have s3 := backOf (show 27 ≤ 40 by omega) t ht hts
    have d1 := t.dat
    have d2 := Tr.dep 5 t ht
    have d2' : t.D.depth ≤ 60 := by omega
    have p1 := t.pur
    have p2 := t.notNeg
    have r1 := pyEq_refl _ d1
    obtain ⟨x4', hin⟩ := forM_in (some (.scr ns)) (some (.lst true (List.replicate m (.int 0)))) (some (.lst false (trsD ts))) (some t.D) a5 (seqM (iteS (valT (cmpE .NotEq (cmpE .Eq (callE (R 40) "shown" (valA (readV 3) (nilA))) (callE (R 40) "shown" (valA (readV 4) (nilA)))) (cmpE .Eq (readV 3) (readV 4)))) (seqM (retS (pure (.bl false))) (nxS)) (nxS)) (nxS)) Good (fun o ⟨ho, hos⟩ => by
      have u1 := shownP (show 17 ≤ 40 by omega) o ho hos
      have u2 := o.dat
      have u3 : o.D.depth ≤ 60 := by have := Tr.dep 5 o ho; omega
      have u4 := o.pur
      have u5 := o.notNeg
      have u6 := same_txt t o ht hts ho hos
      obtain ⟨xs, hxs⟩ := t.shape
      obtain ⟨ys, hys⟩ := o.shape
      rw [hxs] at s1 d1 d2' p1 p2 u6
      rw [hys] at u1 u2 u3 u4 u5 u6
      rw [hxs, hys]
      rw [qtt] at u6
      simp only [D.dat, D.depth, D.pur, D.frz, D.tup.injEq] at d1 d2' p1 p2 u2 u3 u4 u5
      have w1 : depthL xs ≤ 59 := by omega
      have w2 : depthL ys ≤ 59 := by omega
      simp [runF, seqM, readV, moveV, D.isHole, getS, setS, D.pur, purL, D.frz, frzL, bltF, lenF, tupleF, intF, strF, isiF, isTy, tyOf, allF, allB, sumF, allI, cmpF, truthM, D.truth, ixP, ixF, ixD, outsOf, small_def, binF, big64, lift_def, TT.pureM, hereM, callM, takeA, takeP, giveA, putP, tyM, mutM, mutF, appendF, Mu.isL, borM, frzE, D.noFro, noFroL, bmTy, bmtF, D.okEq, D.dat, datL, D.depth, depthL, qii, qss, qbb, qnn, qtt, qll, qts, qst, qnt, qtn, q0, q0c, qc0, qcc, entKey, b2i, rngF1, enumSrc, seqItems, s1, u1, p1, p2, u4, u5, d1, w1, w2, u2, u6]) ts hg x4
    refine ⟨x4', ?_⟩
    generalize (seqM (iteS (valT (cmpE .NotEq (cmpE .Eq (callE (R 40) "shown" (valA (readV 3) (nilA))) (callE (R 40) "shown" (valA (readV 4) (nilA)))) (cmpE .Eq (readV 3) (readV 4)))) (seqM (retS (pure (.bl false))) (nxS)) (nxS)) (nxS) : M Fl) = B at hin ⊢
    obtain ⟨xs, hxs⟩ := t.shape
    rw [hxs] at s1 s2 s3 d1 d2' p1 p2 r1 hin ⊢
    rw [qtt] at r1
    simp only [D.dat, D.depth, D.pur, D.frz, D.tup.injEq] at d1 d2' p1 p2
    have w1 : depthL xs ≤ 59 := by omega
    simp [runF, seqM, readV, moveV, D.isHole, getS, setS, D.pur, purL, D.frz, frzL, bltF, lenF, tupleF, intF, strF, isiF, isTy, tyOf, allF, allB, sumF, allI, cmpF, truthM, D.truth, ixP, ixF, ixD, outsOf, small_def, binF, big64, lift_def, TT.pureM, hereM, callM, takeA, takeP, giveA, putP, tyM, mutM, mutF, appendF, Mu.isL, borM, frzE, D.noFro, noFroL, bmTy, bmtF, D.okEq, D.dat, datL, D.depth, depthL, qii, qss, qbb, qnn, qtt, qll, qts, qst, qnt, qtn, q0, q0c, qc0, qcc, entKey, b2i, rngF1, enumSrc, seqItems, s1, s2, s3, p1, p2, d1, w1, r1, hpu, hin]
  obtain ⟨x3, x4, hf⟩ := forM_all (some (.scr ns)) (some (.lst true (List.replicate m (.int 0)))) (some (.lst false (trsD ts))) none _ Good (key none) ts hg none none
  simp only [runF, f_law, b_law]
  unfold eltT at e
  generalize (seqM (iteS (orT (valT (cmpE .NotEq (callE (R 40) "shown" (valA (readV 3) (nilA))) (callE (R 40) "_law_shown" (valA (readV 3) (nilA))))) (valT (cmpE .NotEq (callE (R 40) "_law_back" (valA (callE (R 40) "shown" (valA (readV 3) (nilA))) (nilA))) (readV 3)))) (seqM (retS (pure (.bl false))) (nxS)) (nxS)) (seqM (forS [4] true (sqI (readV 2)) (seqM (iteS (valT (cmpE .NotEq (cmpE .Eq (callE (R 40) "shown" (valA (readV 3) (nilA))) (callE (R 40) "shown" (valA (readV 4) (nilA)))) (cmpE .Eq (readV 3) (readV 4)))) (seqM (retS (pure (.bl false))) (nxS)) (nxS)) (nxS))) (nxS)) : M Fl) = B at hf ⊢
  generalize (callE (R 40) "_law_tree" (valA (readV 0) (ioA 1 (valA (callE (R 40) "_law_pick" (valA (readV 0) (ioA 1 (valA (lstE (consL (pure (.int 1)) (consL (pure (.int 2)) (consL (pure (.int 5)) (nilL))))) (nilA))))) (nilA)))) : M D) = E at e ⊢
  simp [runF, seqM, readV, moveV, D.isHole, getS, setS, D.pur, purL, D.frz, frzL, bltF, lenF, tupleF, intF, strF, isiF, isTy, tyOf, allF, allB, sumF, allI, cmpF, truthM, D.truth, ixP, ixF, ixD, outsOf, small_def, binF, big64, lift_def, TT.pureM, hereM, callM, takeA, takeP, giveA, putP, tyM, mutM, mutF, appendF, Mu.isL, borM, frzE, D.noFro, noFroL, bmTy, bmtF, D.okEq, D.dat, datL, D.depth, depthL, qii, qss, qbb, qnn, qtt, qll, qts, qst, qnt, qtn, q0, q0c, qc0, qcc, entKey, b2i, rngF1, enumSrc, seqItems, e, hpu, hpf, hf]
end TT
set_option Elab.async false
set_option linter.all false
set_option maxRecDepth 100000
namespace TT
open PySem PySem.Spec PySem.StrLaws L2
structure Txt (A_TreeError : Addr) (K : PySem.W.Frag) (mg : Str → Option Value) : Prop where
  m_all : mg "all" = none
  m_bool : mg "bool" = none
  m_enumerate : mg "enumerate" = none
  m_int : mg "int" = none
  m_isinstance : mg "isinstance" = none
  m_len : mg "len" = none
  m_range : mg "range" = none
  m_str : mg "str" = none
  m_sum : mg "sum" = none
  m_tuple : mg "tuple" = none
  g_LETTERS : GC K mg "LETTERS" c_LETTERS
  g_FLAGS : GC K mg "FLAGS" c_FLAGS
  g_TICKS : GC K mg "TICKS" c_TICKS
  g_TIMES : GC K mg "TIMES" c_TIMES
  g_DEEP : GC K mg "DEEP" c_DEEP
  g_SIZE : GC K mg "SIZE" c_SIZE
  g_ENDS : GC K mg "ENDS" c_ENDS
  g_MANY_KINDS : GC K mg "MANY_KINDS" c_MANY_KINDS
  g_ONE_KINDS : GC K mg "ONE_KINDS" c_ONE_KINDS
  g_COUNT_KINDS : GC K mg "COUNT_KINDS" c_COUNT_KINDS
  g_FIGURES : GC K mg "FIGURES" c_FIGURES
  x_NoTree : XC K mg "NoTree"
  x_NoText : XC K mg "NoText"
  a_TreeError : mg "TreeError" = some (.ref A_TreeError)
  k_TreeError : CatchOk K mg k_TreeError (.ref A_TreeError)
structure Ces (P : Program) (w : World) (K : PySem.W.Frag) (mg : Str → Option Value) (base : Heap) (k : Nat) (cl : Cl) : Prop where
  p_is_whole : Cee P w K mg base k cl "is_whole" [false, false, false]
  p_is_word : Cee P w K mg base k cl "is_word" [false, false]
  p_is_name : Cee P w K mg base k cl "is_name" [false]
  p_is_flag : Cee P w K mg base k cl "is_flag" [false]
  p_is_leaf : Cee P w K mg base k cl "is_leaf" [false]
  p_is_part : Cee P w K mg base k cl "is_part" [false, false]
  p_are_parts : Cee P w K mg base k cl "are_parts" [false, false]
  p_parts_of : Cee P w K mg base k cl "parts_of" [false]
  p_size_of : Cee P w K mg base k cl "size_of" [false]
  p_is_tree : Cee P w K mg base k cl "is_tree" [false]
  p_need_tree : Cee P w K mg base k cl "need_tree" [false]
  p_head_of : Cee P w K mg base k cl "head_of" [false]
  p_text_of : Cee P w K mg base k cl "text_of" [false]
  p_shown : Cee P w K mg base k cl "shown" [false]
  p_number : Cee P w K mg base k cl "number" [false]
  p_leaf_of : Cee P w K mg base k cl "leaf_of" [false]
  p_part_of : Cee P w K mg base k cl "part_of" [false, false]
  p_read_part : Cee P w K mg base k cl "read_part" [false, false, false]
  p_read : Cee P w K mg base k cl "read" [false]
  l_cell_at : Cee P w K mg base k cl "_law_cell_at" [false, false]
  l_mixed : Cee P w K mg base k cl "_law_mixed" [false, false, false]
  l_draw : Cee P w K mg base k cl "_law_draw" [false, true, false]
  l_pick : Cee P w K mg base k cl "_law_pick" [false, true, false]
  l_leaf : Cee P w K mg base k cl "_law_leaf" [false, true]
  l_part : Cee P w K mg base k cl "_law_part" [false, true, false, true]
  l_size : Cee P w K mg base k cl "_law_size" [false]
  l_inner : Cee P w K mg base k cl "_law_inner" [false]
  l_tree : Cee P w K mg base k cl "_law_tree" [false, true, false]
  l_shown : Cee P w K mg base k cl "_law_shown" [false]
  l_back : Cee P w K mg base k cl "_law_back" [false]
  law : Cee P w K mg base k cl "law" [false]
abbrev s_p_is_whole : Stmt := topS 15
theorem sc_p_is_whole : FnScope ["thing", "low", "most"] ["thing", "low", "most"] (defScope s_p_is_whole) := ⟨rfl, rfl, rfl, by decide +kernel, rfl, by decide +kernel, by decide +kernel⟩
abbrev s_p_is_word : Stmt := topS 16
theorem sc_p_is_word : FnScope ["thing", "words"] ["thing", "words"] (defScope s_p_is_word) := ⟨rfl, rfl, rfl, by decide +kernel, rfl, by decide +kernel, by decide +kernel⟩
abbrev s_p_is_name : Stmt := topS 17
theorem sc_p_is_name : FnScope ["thing"] ["thing"] (defScope s_p_is_name) := ⟨rfl, rfl, rfl, by decide +kernel, rfl, by decide +kernel, by decide +kernel⟩
abbrev s_p_is_flag : Stmt := topS 18
theorem sc_p_is_flag : FnScope ["thing"] ["thing"] (defScope s_p_is_flag) := ⟨rfl, rfl, rfl, by decide +kernel, rfl, by decide +kernel, by decide +kernel⟩
abbrev s_p_is_leaf : Stmt := topS 19
theorem sc_p_is_leaf : FnScope ["thing"] ["thing"] (defScope s_p_is_leaf) := ⟨rfl, rfl, rfl, by decide +kernel, rfl, by decide +kernel, by decide +kernel⟩
abbrev s_p_is_part : Stmt := topS 20
theorem sc_p_is_part : FnScope ["thing", "deep"] ["thing", "deep"] (defScope s_p_is_part) := ⟨rfl, rfl, rfl, by decide +kernel, rfl, by decide +kernel, by decide +kernel⟩
abbrev s_p_are_parts : Stmt := topS 21
theorem sc_p_are_parts : FnScope ["thing", "deep", "part"] ["thing", "deep"] (defScope s_p_are_parts) := ⟨rfl, rfl, rfl, by decide +kernel, rfl, by decide +kernel, by decide +kernel⟩
abbrev s_p_parts_of : Stmt := topS 22
theorem sc_p_parts_of : FnScope ["tree"] ["tree"] (defScope s_p_parts_of) := ⟨rfl, rfl, rfl, by decide +kernel, rfl, by decide +kernel, by decide +kernel⟩
abbrev s_p_size_of : Stmt := topS 23
theorem sc_p_size_of : FnScope ["tree", "part"] ["tree"] (defScope s_p_size_of) := ⟨rfl, rfl, rfl, by decide +kernel, rfl, by decide +kernel, by decide +kernel⟩
abbrev s_p_is_tree : Stmt := topS 24
theorem sc_p_is_tree : FnScope ["thing"] ["thing"] (defScope s_p_is_tree) := ⟨rfl, rfl, rfl, by decide +kernel, rfl, by decide +kernel, by decide +kernel⟩
abbrev s_p_need_tree : Stmt := topS 25
theorem sc_p_need_tree : FnScope ["thing"] ["thing"] (defScope s_p_need_tree) := ⟨rfl, rfl, rfl, by decide +kernel, rfl, by decide +kernel, by decide +kernel⟩
abbrev s_p_head_of : Stmt := topS 28
theorem sc_p_head_of : FnScope ["tree"] ["tree"] (defScope s_p_head_of) := ⟨rfl, rfl, rfl, by decide +kernel, rfl, by decide +kernel, by decide +kernel⟩
abbrev s_p_text_of : Stmt := topS 29
theorem sc_p_text_of : FnScope ["tree", "part"] ["tree"] (defScope s_p_text_of) := ⟨rfl, rfl, rfl, by decide +kernel, rfl, by decide +kernel, by decide +kernel⟩
abbrev s_p_shown : Stmt := topS 30
theorem sc_p_shown : FnScope ["tree"] ["tree"] (defScope s_p_shown) := ⟨rfl, rfl, rfl, by decide +kernel, rfl, by decide +kernel, by decide +kernel⟩
abbrev s_p_number : Stmt := topS 31
theorem sc_p_number : FnScope ["word"] ["word"] (defScope s_p_number) := ⟨rfl, rfl, rfl, by decide +kernel, rfl, by decide +kernel, by decide +kernel⟩
abbrev s_p_leaf_of : Stmt := topS 32
theorem sc_p_leaf_of : FnScope ["words"] ["words"] (defScope s_p_leaf_of) := ⟨rfl, rfl, rfl, by decide +kernel, rfl, by decide +kernel, by decide +kernel⟩
abbrev s_p_part_of : Stmt := topS 33
theorem sc_p_part_of : FnScope ["head", "parts", "words"] ["head", "parts"] (defScope s_p_part_of) := ⟨rfl, rfl, rfl, by decide +kernel, rfl, by decide +kernel, by decide +kernel⟩
abbrev s_p_read_part : Stmt := topS 34
theorem sc_p_read_part : FnScope ["text", "at", "deep", "end", "head", "leaf", "parts", "here", "found", "part"] ["text", "at", "deep"] (defScope s_p_read_part) := ⟨rfl, rfl, rfl, by decide +kernel, rfl, by decide +kernel, by decide +kernel⟩
abbrev s_p_read : Stmt := topS 35
theorem sc_p_read : FnScope ["text", "found"] ["text"] (defScope s_p_read) := ⟨rfl, rfl, rfl, by decide +kernel, rfl, by decide +kernel, by decide +kernel⟩
abbrev s_l_cell_at : Stmt := topS 37
theorem sc_l_cell_at : FnScope ["_law_script", "_law_k"] ["_law_script", "_law_k"] (defScope s_l_cell_at) := ⟨rfl, rfl, rfl, by decide +kernel, rfl, by decide +kernel, by decide +kernel⟩
abbrev s_l_mixed : Stmt := topS 38
theorem sc_l_mixed : FnScope ["_law_script", "_law_k", "_law_many", "_law_drawn"] ["_law_script", "_law_k", "_law_many"] (defScope s_l_mixed) := ⟨rfl, rfl, rfl, by decide +kernel, rfl, by decide +kernel, by decide +kernel⟩
abbrev s_l_draw : Stmt := topS 39
theorem sc_l_draw : FnScope ["_law_script", "_law_town", "_law_many"] ["_law_script", "_law_town", "_law_many"] (defScope s_l_draw) := ⟨rfl, rfl, rfl, by decide +kernel, rfl, by decide +kernel, by decide +kernel⟩
abbrev s_l_pick : Stmt := topS 40
theorem sc_l_pick : FnScope ["_law_script", "_law_town", "_law_some"] ["_law_script", "_law_town", "_law_some"] (defScope s_l_pick) := ⟨rfl, rfl, rfl, by decide +kernel, rfl, by decide +kernel, by decide +kernel⟩
abbrev s_l_leaf : Stmt := topS 41
theorem sc_l_leaf : FnScope ["_law_script", "_law_town", "_law_kind", "_law_name"] ["_law_script", "_law_town"] (defScope s_l_leaf) := ⟨rfl, rfl, rfl, by decide +kernel, rfl, by decide +kernel, by decide +kernel⟩
abbrev s_l_part : Stmt := topS 42
theorem sc_l_part : FnScope ["_law_script", "_law_town", "_law_deep", "_law_left", "_law_words", "_law_word", "_law_parts", "_law_k"] ["_law_script", "_law_town", "_law_deep", "_law_left"] (defScope s_l_part) := ⟨rfl, rfl, rfl, by decide +kernel, rfl, by decide +kernel, by decide +kernel⟩
abbrev s_l_size : Stmt := topS 43
theorem sc_l_size : FnScope ["_law_tree_here", "_law_piece"] ["_law_tree_here"] (defScope s_l_size) := ⟨rfl, rfl, rfl, by decide +kernel, rfl, by decide +kernel, by decide +kernel⟩
abbrev s_l_inner : Stmt := topS 44
theorem sc_l_inner : FnScope ["_law_tree_here"] ["_law_tree_here"] (defScope s_l_inner) := ⟨rfl, rfl, rfl, by decide +kernel, rfl, by decide +kernel, by decide +kernel⟩
abbrev s_l_tree : Stmt := topS 45
theorem sc_l_tree : FnScope ["_law_script", "_law_town", "_law_deep", "_law_tree_here"] ["_law_script", "_law_town", "_law_deep"] (defScope s_l_tree) := ⟨rfl, rfl, rfl, by decide +kernel, rfl, by decide +kernel, by decide +kernel⟩
abbrev s_l_shown : Stmt := topS 46
theorem sc_l_shown : FnScope ["_law_tree_here", "_law_word", "_law_head", "_law_text", "_law_at", "_law_piece"] ["_law_tree_here"] (defScope s_l_shown) := ⟨rfl, rfl, rfl, by decide +kernel, rfl, by decide +kernel, by decide +kernel⟩
abbrev s_l_back : Stmt := topS 47
theorem sc_l_back : FnScope ["_law_text"] ["_law_text"] (defScope s_l_back) := ⟨rfl, rfl, rfl, by decide +kernel, rfl, by decide +kernel, by decide +kernel⟩
abbrev s_law : Stmt := topS 48
theorem sc_law : FnScope ["_law_script", "_law_town", "_law_trees", "_law_tree_here", "_law_other", "_law_k"] ["_law_script"] (defScope s_law) := ⟨rfl, rfl, rfl, by decide +kernel, rfl, by decide +kernel, by decide +kernel⟩
section
variable {P : Program} {w : World} {K : PySem.W.Frag} {mg : Str → Option Value} {base : Heap} {k : Nat} {cl cl' : Cl} {f : Addr} {fd : FuncData} {A_TreeError : Addr}
theorem ok_p_is_whole (F : Fun K "is_whole" "is_whole" s_p_is_whole f fd) (T : Txt A_TreeError K mg) (C : Ces P w K mg base k cl) (hcl : cl' "is_whole" = runF cl f_p_is_whole) : FnOk P w K mg base (L2.CX P w) (k + 1) f fd ["thing", "low", "most"] (CSp K mg cl' "is_whole" f_p_is_whole.io) := by
  have S := sc_p_is_whole
  refine fn_ok F S rfl rfl (by decide) hcl fun cdv A outer s H E hr => ?_
  have hu := hu65 hr
  have tk : Takes (cxOf (L2.CX P w) P w K mg base ["thing", "low", "most"] "is_whole" (defScope s_p_is_whole) f cdv A outer s H E) (fun cls d _ H => E cls d H) := takes_of rfl rfl rfl rfl
  have hp : PassesOwn (model P w) _ _ _ := passes_of (X := cxOf (L2.CX P w) P w K mg base ["thing", "low", "most"] "is_whole" (defScope s_p_is_whole) f cdv A outer s H E) rfl
  exact B.n1 (B.ret (B.and_ (B.blt .isinstance T.m_isinstance (B.consP (B.v 0) (B.consP (B.ty "int" T.m_int) (B.nilP)))) (B.and_ (B.inv (B.blt .isinstance T.m_isinstance (B.consP (B.v 0) (B.consP (B.ty "bool" T.m_bool) (B.nilP))))) (B.one (B.chn hu (B.v 1) (B.v 0) (B.v 2)))))) (B.n0)
theorem ok_p_is_word (F : Fun K "is_word" "is_word" s_p_is_word f fd) (T : Txt A_TreeError K mg) (C : Ces P w K mg base k cl) (hcl : cl' "is_word" = runF cl f_p_is_word) : FnOk P w K mg base (L2.CX P w) (k + 1) f fd ["thing", "words"] (CSp K mg cl' "is_word" f_p_is_word.io) := by
  have S := sc_p_is_word
  refine fn_ok F S rfl rfl (by decide) hcl fun cdv A outer s H E hr => ?_
  have hu := hu65 hr
  have tk : Takes (cxOf (L2.CX P w) P w K mg base ["thing", "words"] "is_word" (defScope s_p_is_word) f cdv A outer s H E) (fun cls d _ H => E cls d H) := takes_of rfl rfl rfl rfl
  have hp : PassesOwn (model P w) _ _ _ := passes_of (X := cxOf (L2.CX P w) P w K mg base ["thing", "words"] "is_word" (defScope s_p_is_word) f cdv A outer s H E) rfl
  exact B.n1 (B.ret (B.and_ (B.blt .isinstance T.m_isinstance (B.consP (B.v 0) (B.consP (B.ty "str" T.m_str) (B.nilP)))) (B.one (B.cmp hu (B.v 0) (B.v 1))))) (B.n0)
theorem ok_p_is_name (F : Fun K "is_name" "is_name" s_p_is_name f fd) (T : Txt A_TreeError K mg) (C : Ces P w K mg base k cl) (hcl : cl' "is_name" = runF cl f_p_is_name) : FnOk P w K mg base (L2.CX P w) (k + 1) f fd ["thing"] (CSp K mg cl' "is_name" f_p_is_name.io) := by
  have S := sc_p_is_name
  refine fn_ok F S rfl rfl (by decide) hcl fun cdv A outer s H E hr => ?_
  have hu := hu65 hr
  have tk : Takes (cxOf (L2.CX P w) P w K mg base ["thing"] "is_name" (defScope s_p_is_name) f cdv A outer s H E) (fun cls d _ H => E cls d H) := takes_of rfl rfl rfl rfl
  have hp : PassesOwn (model P w) _ _ _ := passes_of (X := cxOf (L2.CX P w) P w K mg base ["thing"] "is_name" (defScope s_p_is_name) f cdv A outer s H E) rfl
  exact B.n1 (B.ret (B.and_ (B.blt .isinstance T.m_isinstance (B.consP (B.v 0) (B.consP (B.ty "str" T.m_str) (B.nilP)))) (B.and_ (B.chn hu (B.cI) (B.blt .len T.m_len (B.consP (B.v 0) (B.nilP))) (B.cI)) (B.one (B.cmp hu (B.bmt .strip (B.v 0) (B.consP (B.gC T.g_LETTERS) (B.nilP))) (B.cS "")))))) (B.n0)
theorem ok_p_is_flag (F : Fun K "is_flag" "is_flag" s_p_is_flag f fd) (T : Txt A_TreeError K mg) (C : Ces P w K mg base k cl) (hcl : cl' "is_flag" = runF cl f_p_is_flag) : FnOk P w K mg base (L2.CX P w) (k + 1) f fd ["thing"] (CSp K mg cl' "is_flag" f_p_is_flag.io) := by
  have S := sc_p_is_flag
  refine fn_ok F S rfl rfl (by decide) hcl fun cdv A outer s H E hr => ?_
  have hu := hu65 hr
  have tk : Takes (cxOf (L2.CX P w) P w K mg base ["thing"] "is_flag" (defScope s_p_is_flag) f cdv A outer s H E) (fun cls d _ H => E cls d H) := takes_of rfl rfl rfl rfl
  have hp : PassesOwn (model P w) _ _ _ := passes_of (X := cxOf (L2.CX P w) P w K mg base ["thing"] "is_flag" (defScope s_p_is_flag) f cdv A outer s H E) rfl
  exact B.n1 (B.ret (B.and_ (B.blt .isinstance T.m_isinstance (B.consP (B.v 0) (B.consP (B.ty "str" T.m_str) (B.nilP)))) (B.and_ (B.cmp hu (B.blt .len T.m_len (B.consP (B.v 0) (B.nilP))) (B.cI)) (B.one (B.cmp hu (B.v 0) (B.gC T.g_FLAGS)))))) (B.n0)
theorem ok_p_is_leaf (F : Fun K "is_leaf" "is_leaf" s_p_is_leaf f fd) (T : Txt A_TreeError K mg) (C : Ces P w K mg base k cl) (hcl : cl' "is_leaf" = runF cl f_p_is_leaf) : FnOk P w K mg base (L2.CX P w) (k + 1) f fd ["thing"] (CSp K mg cl' "is_leaf" f_p_is_leaf.io) := by
  have S := sc_p_is_leaf
  refine fn_ok F S rfl rfl (by decide) hcl fun cdv A outer s H E hr => ?_
  have hu := hu65 hr
  have tk : Takes (cxOf (L2.CX P w) P w K mg base ["thing"] "is_leaf" (defScope s_p_is_leaf) f cdv A outer s H E) (fun cls d _ H => E cls d H) := takes_of rfl rfl rfl rfl
  have hp : PassesOwn (model P w) _ _ _ := passes_of (X := cxOf (L2.CX P w) P w K mg base ["thing"] "is_leaf" (defScope s_p_is_leaf) f cdv A outer s H E) rfl
  exact B.n1 (B.cond (B.tC hu (B.ix hu (B.v 0) (B.cI)) (B.cS "ask")) (B.n1 (B.ret (B.and_ (B.cmp hu (B.blt .len T.m_len (B.consP (B.v 0) (B.nilP))) (B.cI)) (B.one (B.call C.p_is_flag hr tk (B.aV (B.ix hu (B.v 0) (B.cI)) (B.a0)))))) (B.n0)) (B.n0)) (B.n1 (B.cond (B.tC hu (B.ix hu (B.v 0) (B.cI)) (B.cS "set")) (B.n1 (B.ret (B.and_ (B.cmp hu (B.blt .len T.m_len (B.consP (B.v 0) (B.nilP))) (B.cI)) (B.and_ (B.call C.p_is_flag hr tk (B.aV (B.ix hu (B.v 0) (B.cI)) (B.a0))) (B.one (B.blt .isinstance T.m_isinstance (B.consP (B.ix hu (B.v 0) (B.cI)) (B.consP (B.ty "bool" T.m_bool) (B.nilP)))))))) (B.n0)) (B.n0)) (B.n1 (B.cond (B.tO (B.tC hu (B.ix hu (B.v 0) (B.cI)) (B.cS "do")) (B.wO (B.tC hu (B.blt .len T.m_len (B.consP (B.v 0) (B.nilP))) (B.cI)) (B.w1O (B.tN (B.tV (B.call C.p_is_name hr tk (B.aV (B.ix hu (B.v 0) (B.cI)) (B.a0)))))))) (B.n1 (B.ret (B.cB)) (B.n0)) (B.n0)) (B.n1 (B.ret (B.and_ (B.call C.p_is_whole hr tk (B.aV (B.ix hu (B.v 0) (B.cI)) (B.aV (B.cI) (B.aV (B.gC T.g_TICKS) (B.a0))))) (B.one (B.call C.p_is_word hr tk (B.aV (B.ix hu (B.v 0) (B.cI)) (B.aV (B.gC T.g_ENDS) (B.a0))))))) (B.n0))))
theorem ok_p_is_part (F : Fun K "is_part" "is_part" s_p_is_part f fd) (T : Txt A_TreeError K mg) (C : Ces P w K mg base k cl) (hcl : cl' "is_part" = runF cl f_p_is_part) : FnOk P w K mg base (L2.CX P w) (k + 1) f fd ["thing", "deep"] (CSp K mg cl' "is_part" f_p_is_part.io) := by
  have S := sc_p_is_part
  refine fn_ok F S rfl rfl (by decide) hcl fun cdv A outer s H E hr => ?_
  have hu := hu65 hr
  have tk : Takes (cxOf (L2.CX P w) P w K mg base ["thing", "deep"] "is_part" (defScope s_p_is_part) f cdv A outer s H E) (fun cls d _ H => E cls d H) := takes_of rfl rfl rfl rfl
  have hp : PassesOwn (model P w) _ _ _ := passes_of (X := cxOf (L2.CX P w) P w K mg base ["thing", "deep"] "is_part" (defScope s_p_is_part) f cdv A outer s H E) rfl
  exact B.n1 (B.cond (B.tO (B.tC hu (B.v 1) (B.cI)) (B.wO (B.tN (B.tV (B.blt .isinstance T.m_isinstance (B.consP (B.v 0) (B.consP (B.ty "tuple" T.m_tuple) (B.nilP)))))) (B.wO (B.tC hu (B.blt .len T.m_len (B.consP (B.v 0) (B.nilP))) (B.cI)) (B.w1O (B.tN (B.tV (B.blt .isinstance T.m_isinstance (B.consP (B.ix hu (B.v 0) (B.cI)) (B.consP (B.ty "str" T.m_str) (B.nilP)))))))))) (B.n1 (B.ret (B.cB)) (B.n0)) (B.n0)) (B.n1 (B.cond (B.tC hu (B.ix hu (B.v 0) (B.cI)) (B.tup (B.consP (B.cS "ask") (B.consP (B.cS "set") (B.consP (B.cS "do") (B.nilP)))))) (B.n1 (B.ret (B.call C.p_is_leaf hr tk (B.aV (B.v 0) (B.a0)))) (B.n0)) (B.n0)) (B.n1 (B.cond (B.tC hu (B.ix hu (B.v 0) (B.cI)) (B.gC T.g_MANY_KINDS)) (B.n1 (B.ret (B.and_ (B.cmp hu (B.blt .len T.m_len (B.consP (B.v 0) (B.nilP))) (B.cI)) (B.one (B.call C.p_are_parts hr tk (B.aV (B.ix hu (B.v 0) (B.cI)) (B.aV (B.bin .Sub o_sub (B.v 1) (B.cI)) (B.a0))))))) (B.n0)) (B.n0)) (B.n1 (B.cond (B.tC hu (B.ix hu (B.v 0) (B.cI)) (B.gC T.g_ONE_KINDS)) (B.n1 (B.ret (B.and_ (B.cmp hu (B.blt .len T.m_len (B.consP (B.v 0) (B.nilP))) (B.cI)) (B.one (B.call C.p_is_part hr tk (B.aV (B.ix hu (B.v 0) (B.cI)) (B.aV (B.bin .Sub o_sub (B.v 1) (B.cI)) (B.a0))))))) (B.n0)) (B.n0)) (B.n1 (B.cond (B.tC hu (B.ix hu (B.v 0) (B.cI)) (B.gC T.g_COUNT_KINDS)) (B.n1 (B.ret (B.and_ (B.cmp hu (B.blt .len T.m_len (B.consP (B.v 0) (B.nilP))) (B.cI)) (B.and_ (B.call C.p_is_whole hr tk (B.aV (B.ix hu (B.v 0) (B.cI)) (B.aV (B.cI) (B.aV (B.gC T.g_TIMES) (B.a0))))) (B.one (B.call C.p_is_part hr tk (B.aV (B.ix hu (B.v 0) (B.cI)) (B.aV (B.bin .Sub o_sub (B.v 1) (B.cI)) (B.a0)))))))) (B.n0)) (B.n0)) (B.n1 (B.cond (B.tO (B.tC hu (B.ix hu (B.v 0) (B.cI)) (B.cS "beside")) (B.wO (B.tC hu (B.blt .len T.m_len (B.consP (B.v 0) (B.nilP))) (B.cI)) (B.w1O (B.tN (B.tV (B.call C.p_are_parts hr tk (B.aV (B.ix hu (B.v 0) (B.cI)) (B.aV (B.bin .Sub o_sub (B.v 1) (B.cI)) (B.a0))))))))) (B.n1 (B.ret (B.cB)) (B.n0)) (B.n0)) (B.n1 (B.ret (B.call C.p_is_whole hr tk (B.aV (B.ix hu (B.v 0) (B.cI)) (B.aV (B.cI) (B.aV (B.blt .len T.m_len (B.consP (B.ix hu (B.v 0) (B.cI)) (B.nilP))) (B.a0)))))) (B.n0)))))))
theorem ok_p_are_parts (F : Fun K "are_parts" "are_parts" s_p_are_parts f fd) (T : Txt A_TreeError K mg) (C : Ces P w K mg base k cl) (hcl : cl' "are_parts" = runF cl f_p_are_parts) : FnOk P w K mg base (L2.CX P w) (k + 1) f fd ["thing", "deep"] (CSp K mg cl' "are_parts" f_p_are_parts.io) := by
  have S := sc_p_are_parts
  refine fn_ok F S rfl rfl (by decide) hcl fun cdv A outer s H E hr => ?_
  have hu := hu65 hr
  have tk : Takes (cxOf (L2.CX P w) P w K mg base ["thing", "deep", "part"] "are_parts" (defScope s_p_are_parts) f cdv A outer s H E) (fun cls d _ H => E cls d H) := takes_of rfl rfl rfl rfl
  have hp : PassesOwn (model P w) _ _ _ := passes_of (X := cxOf (L2.CX P w) P w K mg base ["thing", "deep", "part"] "are_parts" (defScope s_p_are_parts) f cdv A outer s H E) rfl
  exact B.n1 (B.ret (B.and_ (B.blt .isinstance T.m_isinstance (B.consP (B.v 0) (B.consP (B.ty "tuple" T.m_tuple) (B.nilP)))) (B.and_ (B.cmp hu (B.blt .len T.m_len (B.consP (B.v 0) (B.nilP))) (B.cI)) (B.one (B.blt .all T.m_all (B.consP (B.lc [("part", 2)] S.nd (B.iS (B.v 0)) (fun _ _ _ _ _ => B.g1 2 S.nd) (fun _ _ _ _ _ => B.q0) (fun _ _ _ _ _ => B.call C.p_is_part hr takes0 (B.aV (B.v 2) (B.aV (B.v 1) (B.a0))))) (B.nilP))))))) (B.n0)
theorem ok_p_parts_of (F : Fun K "parts_of" "parts_of" s_p_parts_of f fd) (T : Txt A_TreeError K mg) (C : Ces P w K mg base k cl) (hcl : cl' "parts_of" = runF cl f_p_parts_of) : FnOk P w K mg base (L2.CX P w) (k + 1) f fd ["tree"] (CSp K mg cl' "parts_of" f_p_parts_of.io) := by
  have S := sc_p_parts_of
  refine fn_ok F S rfl rfl (by decide) hcl fun cdv A outer s H E hr => ?_
  have hu := hu65 hr
  have tk : Takes (cxOf (L2.CX P w) P w K mg base ["tree"] "parts_of" (defScope s_p_parts_of) f cdv A outer s H E) (fun cls d _ H => E cls d H) := takes_of rfl rfl rfl rfl
  have hp : PassesOwn (model P w) _ _ _ := passes_of (X := cxOf (L2.CX P w) P w K mg base ["tree"] "parts_of" (defScope s_p_parts_of) f cdv A outer s H E) rfl
  exact B.n1 (B.cond (B.tC hu (B.ix hu (B.v 0) (B.cI)) (B.gC T.g_MANY_KINDS)) (B.n1 (B.ret (B.ix hu (B.v 0) (B.cI))) (B.n0)) (B.n0)) (B.n1 (B.cond (B.tC hu (B.ix hu (B.v 0) (B.cI)) (B.gC T.g_ONE_KINDS)) (B.n1 (B.ret (B.tup (B.consP (B.ix hu (B.v 0) (B.cI)) (B.nilP)))) (B.n0)) (B.n0)) (B.n1 (B.cond (B.tC hu (B.ix hu (B.v 0) (B.cI)) (B.gC T.g_COUNT_KINDS)) (B.n1 (B.ret (B.tup (B.consP (B.ix hu (B.v 0) (B.cI)) (B.nilP)))) (B.n0)) (B.n0)) (B.n1 (B.cond (B.tC hu (B.ix hu (B.v 0) (B.cI)) (B.cS "beside")) (B.n1 (B.ret (B.ix hu (B.v 0) (B.cI))) (B.n0)) (B.n0)) (B.n1 (B.ret (B.tup (B.nilP))) (B.n0)))))
theorem ok_p_size_of (F : Fun K "size_of" "size_of" s_p_size_of f fd) (T : Txt A_TreeError K mg) (C : Ces P w K mg base k cl) (hcl : cl' "size_of" = runF cl f_p_size_of) : FnOk P w K mg base (L2.CX P w) (k + 1) f fd ["tree"] (CSp K mg cl' "size_of" f_p_size_of.io) := by
  have S := sc_p_size_of
  refine fn_ok F S rfl rfl (by decide) hcl fun cdv A outer s H E hr => ?_
  have hu := hu65 hr
  have tk : Takes (cxOf (L2.CX P w) P w K mg base ["tree", "part"] "size_of" (defScope s_p_size_of) f cdv A outer s H E) (fun cls d _ H => E cls d H) := takes_of rfl rfl rfl rfl
  have hp : PassesOwn (model P w) _ _ _ := passes_of (X := cxOf (L2.CX P w) P w K mg base ["tree", "part"] "size_of" (defScope s_p_size_of) f cdv A outer s H E) rfl
  exact B.n1 (B.ret (B.bin .Add o_add (B.cI) (B.blt .sum T.m_sum (B.consP (B.lc [("part", 1)] S.nd (B.iS (B.call C.p_parts_of hr tk (B.aV (B.v 0) (B.a0)))) (fun _ _ _ _ _ => B.g1 1 S.nd) (fun _ _ _ _ _ => B.q0) (fun _ _ _ _ _ => B.call C.p_size_of hr takes0 (B.aV (B.v 1) (B.a0)))) (B.nilP))))) (B.n0)
theorem ok_p_is_tree (F : Fun K "is_tree" "is_tree" s_p_is_tree f fd) (T : Txt A_TreeError K mg) (C : Ces P w K mg base k cl) (hcl : cl' "is_tree" = runF cl f_p_is_tree) : FnOk P w K mg base (L2.CX P w) (k + 1) f fd ["thing"] (CSp K mg cl' "is_tree" f_p_is_tree.io) := by
  have S := sc_p_is_tree
  refine fn_ok F S rfl rfl (by decide) hcl fun cdv A outer s H E hr => ?_
  have hu := hu65 hr
  have tk : Takes (cxOf (L2.CX P w) P w K mg base ["thing"] "is_tree" (defScope s_p_is_tree) f cdv A outer s H E) (fun cls d _ H => E cls d H) := takes_of rfl rfl rfl rfl
  have hp : PassesOwn (model P w) _ _ _ := passes_of (X := cxOf (L2.CX P w) P w K mg base ["thing"] "is_tree" (defScope s_p_is_tree) f cdv A outer s H E) rfl
  exact B.n1 (B.ret (B.and_ (B.call C.p_is_part hr tk (B.aV (B.v 0) (B.aV (B.gC T.g_DEEP) (B.a0)))) (B.one (B.cmp hu (B.call C.p_size_of hr tk (B.aV (B.v 0) (B.a0))) (B.gC T.g_SIZE))))) (B.n0)
theorem ok_p_need_tree (F : Fun K "need_tree" "need_tree" s_p_need_tree f fd) (T : Txt A_TreeError K mg) (C : Ces P w K mg base k cl) (hcl : cl' "need_tree" = runF cl f_p_need_tree) : FnOk P w K mg base (L2.CX P w) (k + 1) f fd ["thing"] (CSp K mg cl' "need_tree" f_p_need_tree.io) := by
  have S := sc_p_need_tree
  refine fn_ok F S rfl rfl (by decide) hcl fun cdv A outer s H E hr => ?_
  have hu := hu65 hr
  have tk : Takes (cxOf (L2.CX P w) P w K mg base ["thing"] "need_tree" (defScope s_p_need_tree) f cdv A outer s H E) (fun cls d _ H => E cls d H) := takes_of rfl rfl rfl rfl
  have hp : PassesOwn (model P w) _ _ _ := passes_of (X := cxOf (L2.CX P w) P w K mg base ["thing"] "need_tree" (defScope s_p_need_tree) f cdv A outer s H E) rfl
  exact B.n1 (B.cond (B.tN (B.tV (B.call C.p_is_tree hr tk (B.aV (B.v 0) (B.a0))))) (B.n1 (B.raise T.x_NoTree tk) (B.n0)) (B.n0)) (B.n0)
theorem ok_p_head_of (F : Fun K "head_of" "head_of" s_p_head_of f fd) (T : Txt A_TreeError K mg) (C : Ces P w K mg base k cl) (hcl : cl' "head_of" = runF cl f_p_head_of) : FnOk P w K mg base (L2.CX P w) (k + 1) f fd ["tree"] (CSp K mg cl' "head_of" f_p_head_of.io) := by
  have S := sc_p_head_of
  refine fn_ok F S rfl rfl (by decide) hcl fun cdv A outer s H E hr => ?_
  have hu := hu65 hr
  have tk : Takes (cxOf (L2.CX P w) P w K mg base ["tree"] "head_of" (defScope s_p_head_of) f cdv A outer s H E) (fun cls d _ H => E cls d H) := takes_of rfl rfl rfl rfl
  have hp : PassesOwn (model P w) _ _ _ := passes_of (X := cxOf (L2.CX P w) P w K mg base ["tree"] "head_of" (defScope s_p_head_of) f cdv A outer s H E) rfl
  exact B.n1 (B.cond (B.tC hu (B.ix hu (B.v 0) (B.cI)) (B.cS "ask")) (B.n1 (B.ret (B.bin .Add o_add (B.cS "ask ") (B.ix hu (B.v 0) (B.cI)))) (B.n0)) (B.n0)) (B.n1 (B.cond (B.tC hu (B.ix hu (B.v 0) (B.cI)) (B.cS "set")) (B.n1 (B.ret (B.bin .Add o_add (B.bin .Add o_add (B.cS "set ") (B.ix hu (B.v 0) (B.cI))) (B.ix hu (B.lst (B.consP (B.cS " down") (B.consP (B.cS " up") (B.nilP)))) (B.blt .int T.m_int (B.consP (B.ix hu (B.v 0) (B.cI)) (B.nilP)))))) (B.n0)) (B.n0)) (B.n1 (B.cond (B.tC hu (B.ix hu (B.v 0) (B.cI)) (B.cS "do")) (B.n1 (B.ret (B.bmt .join (B.cS " ") (B.consP (B.lst (B.consP (B.cS "do") (B.consP (B.ix hu (B.v 0) (B.cI)) (B.consP (B.blt .str T.m_str (B.consP (B.ix hu (B.v 0) (B.cI)) (B.nilP))) (B.consP (B.ix hu (B.v 0) (B.cI)) (B.nilP)))))) (B.nilP)))) (B.n0)) (B.n0)) (B.n1 (B.cond (B.tO (B.tC hu (B.ix hu (B.v 0) (B.cI)) (B.gC T.g_COUNT_KINDS)) (B.w1O (B.tC hu (B.ix hu (B.v 0) (B.cI)) (B.cS "beside")))) (B.n1 (B.ret (B.bin .Add o_add (B.bin .Add o_add (B.ix hu (B.v 0) (B.cI)) (B.cS " ")) (B.blt .str T.m_str (B.consP (B.ix hu (B.v 0) (B.cI)) (B.nilP))))) (B.n0)) (B.n0)) (B.n1 (B.ret (B.ix hu (B.v 0) (B.cI))) (B.n0)))))
theorem ok_p_text_of (F : Fun K "text_of" "text_of" s_p_text_of f fd) (T : Txt A_TreeError K mg) (C : Ces P w K mg base k cl) (hcl : cl' "text_of" = runF cl f_p_text_of) : FnOk P w K mg base (L2.CX P w) (k + 1) f fd ["tree"] (CSp K mg cl' "text_of" f_p_text_of.io) := by
  have S := sc_p_text_of
  refine fn_ok F S rfl rfl (by decide) hcl fun cdv A outer s H E hr => ?_
  have hu := hu65 hr
  have tk : Takes (cxOf (L2.CX P w) P w K mg base ["tree", "part"] "text_of" (defScope s_p_text_of) f cdv A outer s H E) (fun cls d _ H => E cls d H) := takes_of rfl rfl rfl rfl
  have hp : PassesOwn (model P w) _ _ _ := passes_of (X := cxOf (L2.CX P w) P w K mg base ["tree", "part"] "text_of" (defScope s_p_text_of) f cdv A outer s H E) rfl
  exact B.n1 (B.cond (B.tC hu (B.call C.p_parts_of hr tk (B.aV (B.v 0) (B.a0))) (B.tup (B.nilP))) (B.n1 (B.ret (B.call C.p_head_of hr tk (B.aV (B.v 0) (B.a0)))) (B.n0)) (B.n0)) (B.n1 (B.ret (B.bin .Add o_add (B.bin .Add o_add (B.bin .Add o_add (B.call C.p_head_of hr tk (B.aV (B.v 0) (B.a0))) (B.cS "(")) (B.bmt .join (B.cS "; ") (B.consP (B.lc [("part", 1)] S.nd (B.iS (B.call C.p_parts_of hr tk (B.aV (B.v 0) (B.a0)))) (fun _ _ _ _ _ => B.g1 1 S.nd) (fun _ _ _ _ _ => B.q0) (fun _ _ _ _ _ => B.call C.p_text_of hr takes0 (B.aV (B.v 1) (B.a0)))) (B.nilP)))) (B.cS ")"))) (B.n0))
theorem ok_p_shown (F : Fun K "shown" "shown" s_p_shown f fd) (T : Txt A_TreeError K mg) (C : Ces P w K mg base k cl) (hcl : cl' "shown" = runF cl f_p_shown) : FnOk P w K mg base (L2.CX P w) (k + 1) f fd ["tree"] (CSp K mg cl' "shown" f_p_shown.io) := by
  have S := sc_p_shown
  refine fn_ok F S rfl rfl (by decide) hcl fun cdv A outer s H E hr => ?_
  have hu := hu65 hr
  have tk : Takes (cxOf (L2.CX P w) P w K mg base ["tree"] "shown" (defScope s_p_shown) f cdv A outer s H E) (fun cls d _ H => E cls d H) := takes_of rfl rfl rfl rfl
  have hp : PassesOwn (model P w) _ _ _ := passes_of (X := cxOf (L2.CX P w) P w K mg base ["tree"] "shown" (defScope s_p_shown) f cdv A outer s H E) rfl
  exact B.n1 (B.exp (B.call C.p_need_tree hr tk (B.aV (B.v 0) (B.a0)))) (B.n1 (B.ret (B.call C.p_text_of hr tk (B.aV (B.v 0) (B.a0)))) (B.n0))
theorem ok_p_number (F : Fun K "number" "number" s_p_number f fd) (T : Txt A_TreeError K mg) (C : Ces P w K mg base k cl) (hcl : cl' "number" = runF cl f_p_number) : FnOk P w K mg base (L2.CX P w) (k + 1) f fd ["word"] (CSp K mg cl' "number" f_p_number.io) := by
  have S := sc_p_number
  refine fn_ok F S rfl rfl (by decide) hcl fun cdv A outer s H E hr => ?_
  have hu := hu65 hr
  have tk : Takes (cxOf (L2.CX P w) P w K mg base ["word"] "number" (defScope s_p_number) f cdv A outer s H E) (fun cls d _ H => E cls d H) := takes_of rfl rfl rfl rfl
  have hp : PassesOwn (model P w) _ _ _ := passes_of (X := cxOf (L2.CX P w) P w K mg base ["word"] "number" (defScope s_p_number) f cdv A outer s H E) rfl
  exact B.n1 (B.cond (B.tO (B.tC hu (B.blt .len T.m_len (B.consP (B.v 0) (B.nilP))) (B.cI)) (B.w1O (B.tC hu (B.v 0) (B.gC T.g_FIGURES)))) (B.n1 (B.ret (B.cN)) (B.n0)) (B.n0)) (B.n1 (B.ret (B.blt .int T.m_int (B.consP (B.v 0) (B.nilP)))) (B.n0))
theorem ok_p_leaf_of (F : Fun K "leaf_of" "leaf_of" s_p_leaf_of f fd) (T : Txt A_TreeError K mg) (C : Ces P w K mg base k cl) (hcl : cl' "leaf_of" = runF cl f_p_leaf_of) : FnOk P w K mg base (L2.CX P w) (k + 1) f fd ["words"] (CSp K mg cl' "leaf_of" f_p_leaf_of.io) := by
  have S := sc_p_leaf_of
  refine fn_ok F S rfl rfl (by decide) hcl fun cdv A outer s H E hr => ?_
  have hu := hu65 hr
  have tk : Takes (cxOf (L2.CX P w) P w K mg base ["words"] "leaf_of" (defScope s_p_leaf_of) f cdv A outer s H E) (fun cls d _ H => E cls d H) := takes_of rfl rfl rfl rfl
  have hp : PassesOwn (model P w) _ _ _ := passes_of (X := cxOf (L2.CX P w) P w K mg base ["words"] "leaf_of" (defScope s_p_leaf_of) f cdv A outer s H E) rfl
  exact B.n1 (B.cond (B.tA (B.tC hu (B.ix hu (B.v 0) (B.cI)) (B.cS "ask")) (B.w1A (B.tC hu (B.blt .len T.m_len (B.consP (B.v 0) (B.nilP))) (B.cI)))) (B.n1 (B.ret (B.tup (B.consP (B.cS "ask") (B.consP (B.ix hu (B.v 0) (B.cI)) (B.nilP))))) (B.n0)) (B.n0)) (B.n1 (B.cond (B.tA (B.tC hu (B.ix hu (B.v 0) (B.cI)) (B.cS "set")) (B.wA (B.tC hu (B.blt .len T.m_len (B.consP (B.v 0) (B.nilP))) (B.cI)) (B.w1A (B.tC hu (B.ix hu (B.v 0) (B.cI)) (B.tup (B.consP (B.cS "up") (B.consP (B.cS "down") (B.nilP)))))))) (B.n1 (B.ret (B.tup (B.consP (B.cS "set") (B.consP (B.ix hu (B.v 0) (B.cI)) (B.consP (B.cmp hu (B.ix hu (B.v 0) (B.cI)) (B.cS "up")) (B.nilP)))))) (B.n0)) (B.n0)) (B.n1 (B.cond (B.tA (B.tC hu (B.ix hu (B.v 0) (B.cI)) (B.cS "do")) (B.w1A (B.tC hu (B.blt .len T.m_len (B.consP (B.v 0) (B.nilP))) (B.cI)))) (B.n1 (B.ret (B.tup (B.consP (B.cS "do") (B.consP (B.ix hu (B.v 0) (B.cI)) (B.consP (B.call C.p_number hr tk (B.aV (B.ix hu (B.v 0) (B.cI)) (B.a0))) (B.consP (B.ix hu (B.v 0) (B.cI)) (B.nilP))))))) (B.n0)) (B.n0)) (B.n1 (B.ret (B.cN)) (B.n0))))
theorem ok_p_part_of (F : Fun K "part_of" "part_of" s_p_part_of f fd) (T : Txt A_TreeError K mg) (C : Ces P w K mg base k cl) (hcl : cl' "part_of" = runF cl f_p_part_of) : FnOk P w K mg base (L2.CX P w) (k + 1) f fd ["head", "parts"] (CSp K mg cl' "part_of" f_p_part_of.io) := by
  have S := sc_p_part_of
  refine fn_ok F S rfl rfl (by decide) hcl fun cdv A outer s H E hr => ?_
  have hu := hu65 hr
  have tk : Takes (cxOf (L2.CX P w) P w K mg base ["head", "parts", "words"] "part_of" (defScope s_p_part_of) f cdv A outer s H E) (fun cls d _ H => E cls d H) := takes_of rfl rfl rfl rfl
  have hp : PassesOwn (model P w) _ _ _ := passes_of (X := cxOf (L2.CX P w) P w K mg base ["head", "parts", "words"] "part_of" (defScope s_p_part_of) f cdv A outer s H E) rfl
  exact B.n1 (B.set 2 S.nd (B.bmt .split (B.v 0) (B.consP (B.cS " ") (B.nilP)))) (B.n1 (B.cond (B.tC hu (B.v 0) (B.gC T.g_MANY_KINDS)) (B.n1 (B.ret (B.tup (B.consP (B.v 0) (B.consP (B.blt .tuple T.m_tuple (B.consP (B.v 1) (B.nilP))) (B.nilP))))) (B.n0)) (B.n0)) (B.n1 (B.cond (B.tA (B.tC hu (B.v 0) (B.gC T.g_ONE_KINDS)) (B.w1A (B.tC hu (B.blt .len T.m_len (B.consP (B.v 1) (B.nilP))) (B.cI)))) (B.n1 (B.ret (B.tup (B.consP (B.v 0) (B.consP (B.ix hu (B.v 1) (B.cI)) (B.nilP))))) (B.n0)) (B.n0)) (B.n1 (B.cond (B.tC hu (B.blt .len T.m_len (B.consP (B.v 2) (B.nilP))) (B.cI)) (B.n1 (B.ret (B.cN)) (B.n0)) (B.n0)) (B.n1 (B.cond (B.tA (B.tC hu (B.ix hu (B.v 2) (B.cI)) (B.gC T.g_COUNT_KINDS)) (B.w1A (B.tC hu (B.blt .len T.m_len (B.consP (B.v 1) (B.nilP))) (B.cI)))) (B.n1 (B.ret (B.tup (B.consP (B.ix hu (B.v 2) (B.cI)) (B.consP (B.call C.p_number hr tk (B.aV (B.ix hu (B.v 2) (B.cI)) (B.a0))) (B.consP (B.ix hu (B.v 1) (B.cI)) (B.nilP)))))) (B.n0)) (B.n0)) (B.n1 (B.cond (B.tC hu (B.ix hu (B.v 2) (B.cI)) (B.cS "beside")) (B.n1 (B.ret (B.tup (B.consP (B.cS "beside") (B.consP (B.call C.p_number hr tk (B.aV (B.ix hu (B.v 2) (B.cI)) (B.a0))) (B.consP (B.blt .tuple T.m_tuple (B.consP (B.v 1) (B.nilP))) (B.nilP)))))) (B.n0)) (B.n0)) (B.n1 (B.ret (B.cN)) (B.n0)))))))
theorem ok_p_read_part (F : Fun K "read_part" "read_part" s_p_read_part f fd) (T : Txt A_TreeError K mg) (C : Ces P w K mg base k cl) (hcl : cl' "read_part" = runF cl f_p_read_part) : FnOk P w K mg base (L2.CX P w) (k + 1) f fd ["text", "at", "deep"] (CSp K mg cl' "read_part" f_p_read_part.io) := by
  have S := sc_p_read_part
  refine fn_ok F S rfl rfl (by decide) hcl fun cdv A outer s H E hr => ?_
  have hu := hu65 hr
  have tk : Takes (cxOf (L2.CX P w) P w K mg base ["text", "at", "deep", "end", "head", "leaf", "parts", "here", "found", "part"] "read_part" (defScope s_p_read_part) f cdv A outer s H E) (fun cls d _ H => E cls d H) := takes_of rfl rfl rfl rfl
  have hp : PassesOwn (model P w) _ _ _ := passes_of (X := cxOf (L2.CX P w) P w K mg base ["text", "at", "deep", "end", "head", "leaf", "parts", "here", "found", "part"] "read_part" (defScope s_p_read_part) f cdv A outer s H E) rfl
  exact B.n1 (B.set 3 S.nd (B.v 1)) (B.n1 (B.whl hp (B.tA (B.tC hu (B.v 3) (B.blt .len T.m_len (B.consP (B.v 0) (B.nilP)))) (B.w1A (B.tC hu (B.ix hu (B.v 0) (B.v 3)) (B.cS "();")))) (B.n1 (B.set 3 S.nd (B.bin .Add o_add (B.v 3) (B.cI))) (B.n0))) (B.n1 (B.set 4 S.nd (B.sl (B.v 0) (B.oS (B.v 1)) (B.oS (B.v 3)))) (B.n1 (B.cond (B.tO (B.tC hu (B.v 3) (B.blt .len T.m_len (B.consP (B.v 0) (B.nilP)))) (B.w1O (B.tC hu (B.ix hu (B.v 0) (B.v 3)) (B.cS "(")))) (B.n1 (B.set 5 S.nd (B.call C.p_leaf_of hr tk (B.aV (B.bmt .split (B.v 4) (B.consP (B.cS " ") (B.nilP))) (B.a0)))) (B.n1 (B.ret (B.ite (B.tC hu (B.v 5) (B.cN)) (B.cN) (B.tup (B.consP (B.m 5) (B.consP (B.m 3) (B.nilP)))))) (B.n0))) (B.n0)) (B.n1 (B.cond (B.tC hu (B.v 2) (B.cI)) (B.n1 (B.ret (B.cN)) (B.n0)) (B.n0)) (B.n1 (B.set 6 S.nd (B.lst (B.nilP))) (B.n1 (B.set 7 S.nd (B.bin .Add o_add (B.v 3) (B.cI))) (B.n1 (B.whl hp (B.tV (B.cB)) (B.n1 (B.set 8 S.nd (B.call C.p_read_part hr tk (B.aV (B.v 0) (B.aV (B.v 7) (B.aV (B.bin .Sub o_sub (B.v 2) (B.cI)) (B.a0)))))) (B.n1 (B.cond (B.tC hu (B.v 8) (B.cN)) (B.n1 (B.ret (B.cN)) (B.n0)) (B.n0)) (B.n1 (B.exp (B.mt .append 6 (B.consP (B.ix hu (B.v 8) (B.cI)) (B.nilP)))) (B.n1 (B.set 7 S.nd (B.ix hu (B.v 8) (B.cI))) (B.n1 (B.cond (B.tC hu (B.sl (B.v 0) (B.oS (B.v 7)) (B.oS (B.bin .Add o_add (B.v 7) (B.cI)))) (B.cS ")")) (B.n1 (B.set 9 S.nd (B.call C.p_part_of hr tk (B.aV (B.v 4) (B.aV (B.v 6) (B.a0))))) (B.n1 (B.ret (B.ite (B.tC hu (B.v 9) (B.cN)) (B.cN) (B.tup (B.consP (B.m 9) (B.consP (B.bin .Add o_add (B.v 7) (B.cI)) (B.nilP)))))) (B.n0))) (B.n0)) (B.n1 (B.cond (B.tC hu (B.sl (B.v 0) (B.oS (B.v 7)) (B.oS (B.bin .Add o_add (B.v 7) (B.cI)))) (B.cS "; ")) (B.n1 (B.ret (B.cN)) (B.n0)) (B.n0)) (B.n1 (B.set 7 S.nd (B.bin .Add o_add (B.v 7) (B.cI))) (B.n0))))))))) (B.n0))))))))
theorem ok_p_read (F : Fun K "read" "read" s_p_read f fd) (T : Txt A_TreeError K mg) (C : Ces P w K mg base k cl) (hcl : cl' "read" = runF cl f_p_read) : FnOk P w K mg base (L2.CX P w) (k + 1) f fd ["text"] (CSp K mg cl' "read" f_p_read.io) := by
  have S := sc_p_read
  refine fn_ok F S rfl rfl (by decide) hcl fun cdv A outer s H E hr => ?_
  have hu := hu65 hr
  have tk : Takes (cxOf (L2.CX P w) P w K mg base ["text", "found"] "read" (defScope s_p_read) f cdv A outer s H E) (fun cls d _ H => E cls d H) := takes_of rfl rfl rfl rfl
  have hp : PassesOwn (model P w) _ _ _ := passes_of (X := cxOf (L2.CX P w) P w K mg base ["text", "found"] "read" (defScope s_p_read) f cdv A outer s H E) rfl
  exact B.n1 (B.cond (B.tN (B.tV (B.blt .isinstance T.m_isinstance (B.consP (B.v 0) (B.consP (B.ty "str" T.m_str) (B.nilP)))))) (B.n1 (B.raise T.x_NoText tk) (B.n0)) (B.n0)) (B.n1 (B.set 1 S.nd (B.call C.p_read_part hr tk (B.aV (B.v 0) (B.aV (B.cI) (B.aV (B.cI) (B.a0)))))) (B.n1 (B.cond (B.tO (B.tC hu (B.v 1) (B.cN)) (B.wO (B.tC hu (B.ix hu (B.v 1) (B.cI)) (B.blt .len T.m_len (B.consP (B.v 0) (B.nilP)))) (B.wO (B.tN (B.tV (B.call C.p_is_tree hr tk (B.aV (B.ix hu (B.v 1) (B.cI)) (B.a0))))) (B.w1O (B.tC hu (B.call C.p_text_of hr tk (B.aV (B.ix hu (B.v 1) (B.cI)) (B.a0))) (B.v 0)))))) (B.n1 (B.raise T.x_NoText tk) (B.n0)) (B.n0)) (B.n1 (B.ret (B.ix hu (B.v 1) (B.cI))) (B.n0))))
theorem ok_l_cell_at (F : Fun K "_law_cell_at" "_law_cell_at" s_l_cell_at f fd) (T : Txt A_TreeError K mg) (C : Ces P w K mg base k cl) (hcl : cl' "_law_cell_at" = runF cl f_l_cell_at) : FnOk P w K mg base (L2.CX P w) (k + 1) f fd ["_law_script", "_law_k"] (CSp K mg cl' "_law_cell_at" f_l_cell_at.io) := by
  have S := sc_l_cell_at
  refine fn_ok F S rfl rfl (by decide) hcl fun cdv A outer s H E hr => ?_
  have hu := hu65 hr
  have tk : Takes (cxOf (L2.CX P w) P w K mg base ["_law_script", "_law_k"] "_law_cell_at" (defScope s_l_cell_at) f cdv A outer s H E) (fun cls d _ H => E cls d H) := takes_of rfl rfl rfl rfl
  have hp : PassesOwn (model P w) _ _ _ := passes_of (X := cxOf (L2.CX P w) P w K mg base ["_law_script", "_law_k"] "_law_cell_at" (defScope s_l_cell_at) f cdv A outer s H E) rfl
  exact B.n1 (B.cond (B.tC hu (B.v 1) (B.blt .len T.m_len (B.consP (B.v 0) (B.nilP)))) (B.n1 (B.ret (B.ix hu (B.v 0) (B.v 1))) (B.n0)) (B.n0)) (B.n1 (B.cond (B.tC hu (B.v 0) (B.lst (B.nilP))) (B.n1 (B.ret (B.cI)) (B.n0)) (B.n0)) (B.n1 (B.ret (B.bin .Add o_add (B.bin .Mult o_mult (B.ix hu (B.v 0) (B.bin .Mod o_mod (B.v 1) (B.blt .len T.m_len (B.consP (B.v 0) (B.nilP))))) (B.cI)) (B.v 1))) (B.n0)))
theorem ok_l_mixed (F : Fun K "_law_mixed" "_law_mixed" s_l_mixed f fd) (T : Txt A_TreeError K mg) (C : Ces P w K mg base k cl) (hcl : cl' "_law_mixed" = runF cl f_l_mixed) : FnOk P w K mg base (L2.CX P w) (k + 1) f fd ["_law_script", "_law_k", "_law_many"] (CSp K mg cl' "_law_mixed" f_l_mixed.io) := by
  have S := sc_l_mixed
  refine fn_ok F S rfl rfl (by decide) hcl fun cdv A outer s H E hr => ?_
  have hu := hu65 hr
  have tk : Takes (cxOf (L2.CX P w) P w K mg base ["_law_script", "_law_k", "_law_many", "_law_drawn"] "_law_mixed" (defScope s_l_mixed) f cdv A outer s H E) (fun cls d _ H => E cls d H) := takes_of rfl rfl rfl rfl
  have hp : PassesOwn (model P w) _ _ _ := passes_of (X := cxOf (L2.CX P w) P w K mg base ["_law_script", "_law_k", "_law_many", "_law_drawn"] "_law_mixed" (defScope s_l_mixed) f cdv A outer s H E) rfl
  exact B.n1 (B.set 3 S.nd (B.bin .Mod o_mod (B.bin .Mult o_mult (B.bin .Add o_add (B.bin .Add o_add (B.call C.l_cell_at hr tk (B.aV (B.v 0) (B.aV (B.v 1) (B.a0)))) (B.bin .Mult o_mult (B.cI) (B.v 1))) (B.cI)) (B.cI)) (B.cI))) (B.n1 (B.ret (B.bin .Mod o_mod (B.bin .Mod o_mod (B.bin .Add o_add (B.bin .Add o_add (B.bin .Mult o_mult (B.v 3) (B.v 3)) (B.bin .Mult o_mult (B.cI) (B.v 3))) (B.v 1)) (B.cI)) (B.v 2))) (B.n0))
theorem ok_l_draw (F : Fun K "_law_draw" "_law_draw" s_l_draw f fd) (T : Txt A_TreeError K mg) (C : Ces P w K mg base k cl) (hcl : cl' "_law_draw" = runF cl f_l_draw) : FnOk P w K mg base (L2.CX P w) (k + 1) f fd ["_law_script", "_law_town", "_law_many"] (CSp K mg cl' "_law_draw" f_l_draw.io) := by
  have S := sc_l_draw
  refine fn_ok F S rfl rfl (by decide) hcl fun cdv A outer s H E hr => ?_
  have hu := hu65 hr
  have tk : Takes (cxOf (L2.CX P w) P w K mg base ["_law_script", "_law_town", "_law_many"] "_law_draw" (defScope s_l_draw) f cdv A outer s H E) (fun cls d _ H => E cls d H) := takes_of rfl rfl rfl rfl
  have hp : PassesOwn (model P w) _ _ _ := passes_of (X := cxOf (L2.CX P w) P w K mg base ["_law_script", "_law_town", "_law_many"] "_law_draw" (defScope s_l_draw) f cdv A outer s H E) rfl
  exact B.n1 (B.exp (B.mt .append 1 (B.consP (B.cI) (B.nilP)))) (B.n1 (B.ret (B.call C.l_mixed hr tk (B.aV (B.v 0) (B.aV (B.bor (B.blt .len T.m_len (B.consP (B.v 1) (B.nilP)))) (B.aV (B.v 2) (B.a0)))))) (B.n0))
theorem ok_l_pick (F : Fun K "_law_pick" "_law_pick" s_l_pick f fd) (T : Txt A_TreeError K mg) (C : Ces P w K mg base k cl) (hcl : cl' "_law_pick" = runF cl f_l_pick) : FnOk P w K mg base (L2.CX P w) (k + 1) f fd ["_law_script", "_law_town", "_law_some"] (CSp K mg cl' "_law_pick" f_l_pick.io) := by
  have S := sc_l_pick
  refine fn_ok F S rfl rfl (by decide) hcl fun cdv A outer s H E hr => ?_
  have hu := hu65 hr
  have tk : Takes (cxOf (L2.CX P w) P w K mg base ["_law_script", "_law_town", "_law_some"] "_law_pick" (defScope s_l_pick) f cdv A outer s H E) (fun cls d _ H => E cls d H) := takes_of rfl rfl rfl rfl
  have hp : PassesOwn (model P w) _ _ _ := passes_of (X := cxOf (L2.CX P w) P w K mg base ["_law_script", "_law_town", "_law_some"] "_law_pick" (defScope s_l_pick) f cdv A outer s H E) rfl
  exact B.n1 (B.ret (B.ix hu (B.v 2) (B.call C.l_draw hr tk (B.aV (B.v 0) (B.aI 1 (B.aV (B.blt .len T.m_len (B.consP (B.v 2) (B.nilP))) (B.a0))))))) (B.n0)
theorem ok_l_leaf (F : Fun K "_law_leaf" "_law_leaf" s_l_leaf f fd) (T : Txt A_TreeError K mg) (C : Ces P w K mg base k cl) (hcl : cl' "_law_leaf" = runF cl f_l_leaf) : FnOk P w K mg base (L2.CX P w) (k + 1) f fd ["_law_script", "_law_town"] (CSp K mg cl' "_law_leaf" f_l_leaf.io) := by
  have S := sc_l_leaf
  refine fn_ok F S rfl rfl (by decide) hcl fun cdv A outer s H E hr => ?_
  have hu := hu65 hr
  have tk : Takes (cxOf (L2.CX P w) P w K mg base ["_law_script", "_law_town", "_law_kind", "_law_name"] "_law_leaf" (defScope s_l_leaf) f cdv A outer s H E) (fun cls d _ H => E cls d H) := takes_of rfl rfl rfl rfl
  have hp : PassesOwn (model P w) _ _ _ := passes_of (X := cxOf (L2.CX P w) P w K mg base ["_law_script", "_law_town", "_law_kind", "_law_name"] "_law_leaf" (defScope s_l_leaf) f cdv A outer s H E) rfl
  exact B.n1 (B.set 2 S.nd (B.call C.l_draw hr tk (B.aV (B.v 0) (B.aI 1 (B.aV (B.cI) (B.a0)))))) (B.n1 (B.cond (B.tC hu (B.v 2) (B.cI)) (B.n1 (B.ret (B.tup (B.consP (B.cS "ask") (B.consP (B.call C.l_pick hr tk (B.aV (B.v 0) (B.aI 1 (B.aV (B.lst (B.consP (B.cS "a") (B.consP (B.cS "b") (B.consP (B.cS "a") (B.consP (B.cS "b") (B.consP (B.cS "c") (B.nilP))))))) (B.a0))))) (B.nilP))))) (B.n0)) (B.n0)) (B.n1 (B.cond (B.tC hu (B.v 2) (B.cI)) (B.n1 (B.ret (B.tup (B.consP (B.cS "set") (B.consP (B.call C.l_pick hr tk (B.aV (B.v 0) (B.aI 1 (B.aV (B.lst (B.consP (B.cS "a") (B.consP (B.cS "b") (B.nilP)))) (B.a0))))) (B.consP (B.cmp hu (B.call C.l_draw hr tk (B.aV (B.v 0) (B.aI 1 (B.aV (B.cI) (B.a0))))) (B.cI)) (B.nilP)))))) (B.n0)) (B.n0)) (B.n1 (B.set 3 S.nd (B.call C.l_pick hr tk (B.aV (B.v 0) (B.aI 1 (B.aV (B.lst (B.consP (B.cS "x") (B.consP (B.cS "y") (B.consP (B.cS "z") (B.consP (B.cS "run") (B.nilP)))))) (B.a0)))))) (B.n1 (B.ret (B.tup (B.consP (B.cS "do") (B.consP (B.m 3) (B.consP (B.bin .Add o_add (B.cI) (B.call C.l_draw hr tk (B.aV (B.v 0) (B.aI 1 (B.aV (B.cI) (B.a0)))))) (B.consP (B.call C.l_pick hr tk (B.aV (B.v 0) (B.aI 1 (B.aV (B.lst (B.consP (B.cS "yes") (B.consP (B.cS "no") (B.nilP)))) (B.a0))))) (B.nilP))))))) (B.n0)))))
theorem ok_l_part (F : Fun K "_law_part" "_law_part" s_l_part f fd) (T : Txt A_TreeError K mg) (C : Ces P w K mg base k cl) (hcl : cl' "_law_part" = runF cl f_l_part) : FnOk P w K mg base (L2.CX P w) (k + 1) f fd ["_law_script", "_law_town", "_law_deep", "_law_left"] (CSp K mg cl' "_law_part" f_l_part.io) := by
  have S := sc_l_part
  refine fn_ok F S rfl rfl (by decide) hcl fun cdv A outer s H E hr => ?_
  have hu := hu65 hr
  have tk : Takes (cxOf (L2.CX P w) P w K mg base ["_law_script", "_law_town", "_law_deep", "_law_left", "_law_words", "_law_word", "_law_parts", "_law_k"] "_law_part" (defScope s_l_part) f cdv A outer s H E) (fun cls d _ H => E cls d H) := takes_of rfl rfl rfl rfl
  have hp : PassesOwn (model P w) _ _ _ := passes_of (X := cxOf (L2.CX P w) P w K mg base ["_law_script", "_law_town", "_law_deep", "_law_left", "_law_words", "_law_word", "_law_parts", "_law_k"] "_law_part" (defScope s_l_part) f cdv A outer s H E) rfl
  exact B.n1 (B.exp (B.mt .append 3 (B.consP (B.cI) (B.nilP)))) (B.n1 (B.cond (B.tO (B.tC hu (B.v 2) (B.cI)) (B.wO (B.tC hu (B.bor (B.blt .len T.m_len (B.consP (B.v 3) (B.nilP)))) (B.cI)) (B.w1O (B.tC hu (B.call C.l_draw hr tk (B.aV (B.v 0) (B.aI 1 (B.aV (B.cI) (B.a0))))) (B.cI))))) (B.n1 (B.ret (B.call C.l_leaf hr tk (B.aV (B.v 0) (B.aI 1 (B.a0))))) (B.n0)) (B.n0)) (B.n1 (B.set 4 S.nd (B.lst (B.consP (B.cS "row") (B.consP (B.cS "choice") (B.consP (B.cS "row anew") (B.consP (B.cS "choice anew") (B.consP (B.cS "beside") (B.consP (B.cS "row") (B.consP (B.cS "choice anew") (B.consP (B.cS "not") (B.consP (B.cS "yes") (B.consP (B.cS "no") (B.consP (B.cS "keep") (B.nilP)))))))))))))) (B.n1 (B.set 5 S.nd (B.call C.l_pick hr tk (B.aV (B.v 0) (B.aI 1 (B.aV (B.bin .Add o_add (B.v 4) (B.lst (B.consP (B.cS "again") (B.consP (B.cS "till") (B.consP (B.cS "hold") (B.nilP)))))) (B.a0)))))) (B.n1 (B.cond (B.tC hu (B.v 5) (B.tup (B.consP (B.cS "not") (B.consP (B.cS "yes") (B.consP (B.cS "no") (B.consP (B.cS "keep") (B.nilP))))))) (B.n1 (B.ret (B.tup (B.consP (B.m 5) (B.consP (B.call C.l_part hr tk (B.aV (B.v 0) (B.aI 1 (B.aV (B.bin .Sub o_sub (B.v 2) (B.cI)) (B.aI 3 (B.a0)))))) (B.nilP))))) (B.n0)) (B.n0)) (B.n1 (B.cond (B.tC hu (B.v 5) (B.tup (B.consP (B.cS "again") (B.consP (B.cS "till") (B.consP (B.cS "hold") (B.nilP)))))) (B.n1 (B.ret (B.tup (B.consP (B.m 5) (B.consP (B.bin .Add o_add (B.cI) (B.call C.l_draw hr tk (B.aV (B.v 0) (B.aI 1 (B.aV (B.cI) (B.a0)))))) (B.consP (B.call C.l_part hr tk (B.aV (B.v 0) (B.aI 1 (B.aV (B.bin .Sub o_sub (B.v 2) (B.cI)) (B.aI 3 (B.a0)))))) (B.nilP)))))) (B.n0)) (B.n0)) (B.n1 (B.set 6 S.nd (B.blt .tuple T.m_tuple (B.consP (B.lc [("_law_k", 7)] S.nd (B.iR T.m_range (B.bin .Add o_add (B.cI) (B.call C.l_draw hr tk (B.aV (B.v 0) (B.aI 1 (B.aV (B.cI) (B.a0))))))) (fun _ _ _ _ _ => B.g1 7 S.nd) (fun _ _ _ _ _ => B.q0) (fun _ _ _ _ _ => B.call C.l_part hr takes0 (B.aV (B.v 0) (B.aI 1 (B.aV (B.bin .Sub o_sub (B.v 2) (B.cI)) (B.aI 3 (B.a0))))))) (B.nilP)))) (B.n1 (B.cond (B.tC hu (B.v 5) (B.cS "beside")) (B.n1 (B.ret (B.tup (B.consP (B.m 5) (B.consP (B.bin .Add o_add (B.cI) (B.call C.l_draw hr tk (B.aV (B.v 0) (B.aI 1 (B.aV (B.blt .len T.m_len (B.consP (B.v 6) (B.nilP))) (B.a0)))))) (B.consP (B.m 6) (B.nilP)))))) (B.n0)) (B.n0)) (B.n1 (B.ret (B.tup (B.consP (B.m 5) (B.consP (B.m 6) (B.nilP))))) (B.n0)))))))))
theorem ok_l_size (F : Fun K "_law_size" "_law_size" s_l_size f fd) (T : Txt A_TreeError K mg) (C : Ces P w K mg base k cl) (hcl : cl' "_law_size" = runF cl f_l_size) : FnOk P w K mg base (L2.CX P w) (k + 1) f fd ["_law_tree_here"] (CSp K mg cl' "_law_size" f_l_size.io) := by
  have S := sc_l_size
  refine fn_ok F S rfl rfl (by decide) hcl fun cdv A outer s H E hr => ?_
  have hu := hu65 hr
  have tk : Takes (cxOf (L2.CX P w) P w K mg base ["_law_tree_here", "_law_piece"] "_law_size" (defScope s_l_size) f cdv A outer s H E) (fun cls d _ H => E cls d H) := takes_of rfl rfl rfl rfl
  have hp : PassesOwn (model P w) _ _ _ := passes_of (X := cxOf (L2.CX P w) P w K mg base ["_law_tree_here", "_law_piece"] "_law_size" (defScope s_l_size) f cdv A outer s H E) rfl
  exact B.n1 (B.ret (B.bin .Add o_add (B.cI) (B.blt .sum T.m_sum (B.consP (B.lc [("_law_piece", 1)] S.nd (B.iS (B.call C.l_inner hr tk (B.aV (B.v 0) (B.a0)))) (fun _ _ _ _ _ => B.g1 1 S.nd) (fun _ _ _ _ _ => B.q0) (fun _ _ _ _ _ => B.call C.l_size hr takes0 (B.aV (B.v 1) (B.a0)))) (B.nilP))))) (B.n0)
theorem ok_l_inner (F : Fun K "_law_inner" "_law_inner" s_l_inner f fd) (T : Txt A_TreeError K mg) (C : Ces P w K mg base k cl) (hcl : cl' "_law_inner" = runF cl f_l_inner) : FnOk P w K mg base (L2.CX P w) (k + 1) f fd ["_law_tree_here"] (CSp K mg cl' "_law_inner" f_l_inner.io) := by
  have S := sc_l_inner
  refine fn_ok F S rfl rfl (by decide) hcl fun cdv A outer s H E hr => ?_
  have hu := hu65 hr
  have tk : Takes (cxOf (L2.CX P w) P w K mg base ["_law_tree_here"] "_law_inner" (defScope s_l_inner) f cdv A outer s H E) (fun cls d _ H => E cls d H) := takes_of rfl rfl rfl rfl
  have hp : PassesOwn (model P w) _ _ _ := passes_of (X := cxOf (L2.CX P w) P w K mg base ["_law_tree_here"] "_law_inner" (defScope s_l_inner) f cdv A outer s H E) rfl
  exact B.n1 (B.cond (B.tC hu (B.ix hu (B.v 0) (B.cI)) (B.tup (B.consP (B.cS "ask") (B.consP (B.cS "set") (B.consP (B.cS "do") (B.nilP)))))) (B.n1 (B.ret (B.tup (B.nilP))) (B.n0)) (B.n0)) (B.n1 (B.cond (B.tC hu (B.ix hu (B.v 0) (B.cI)) (B.tup (B.consP (B.cS "not") (B.consP (B.cS "yes") (B.consP (B.cS "no") (B.consP (B.cS "keep") (B.consP (B.cS "again") (B.consP (B.cS "till") (B.consP (B.cS "hold") (B.nilP)))))))))) (B.n1 (B.ret (B.tup (B.consP (B.ix hu (B.v 0) (B.neg (B.cI))) (B.nilP)))) (B.n0)) (B.n0)) (B.n1 (B.ret (B.ix hu (B.v 0) (B.neg (B.cI)))) (B.n0)))
theorem ok_l_tree (F : Fun K "_law_tree" "_law_tree" s_l_tree f fd) (T : Txt A_TreeError K mg) (C : Ces P w K mg base k cl) (hcl : cl' "_law_tree" = runF cl f_l_tree) : FnOk P w K mg base (L2.CX P w) (k + 1) f fd ["_law_script", "_law_town", "_law_deep"] (CSp K mg cl' "_law_tree" f_l_tree.io) := by
  have S := sc_l_tree
  refine fn_ok F S rfl rfl (by decide) hcl fun cdv A outer s H E hr => ?_
  have hu := hu65 hr
  have tk : Takes (cxOf (L2.CX P w) P w K mg base ["_law_script", "_law_town", "_law_deep", "_law_tree_here"] "_law_tree" (defScope s_l_tree) f cdv A outer s H E) (fun cls d _ H => E cls d H) := takes_of rfl rfl rfl rfl
  have hp : PassesOwn (model P w) _ _ _ := passes_of (X := cxOf (L2.CX P w) P w K mg base ["_law_script", "_law_town", "_law_deep", "_law_tree_here"] "_law_tree" (defScope s_l_tree) f cdv A outer s H E) rfl
  exact B.n1 (B.set 3 S.nd (B.call C.l_part hr tk (B.aV (B.v 0) (B.aI 1 (B.aV (B.v 2) (B.aT (B.lst (B.nilP)) (B.a0))))))) (B.n1 (B.whl hp (B.tC hu (B.call C.l_size hr tk (B.aV (B.v 3) (B.a0))) (B.cI)) (B.n1 (B.set 3 S.nd (B.ix hu (B.call C.l_inner hr tk (B.aV (B.v 3) (B.a0))) (B.cI))) (B.n0))) (B.n1 (B.ret (B.m 3)) (B.n0)))
theorem ok_l_shown (F : Fun K "_law_shown" "_law_shown" s_l_shown f fd) (T : Txt A_TreeError K mg) (C : Ces P w K mg base k cl) (hcl : cl' "_law_shown" = runF cl f_l_shown) : FnOk P w K mg base (L2.CX P w) (k + 1) f fd ["_law_tree_here"] (CSp K mg cl' "_law_shown" f_l_shown.io) := by
  have S := sc_l_shown
  refine fn_ok F S rfl rfl (by decide) hcl fun cdv A outer s H E hr => ?_
  have hu := hu65 hr
  have tk : Takes (cxOf (L2.CX P w) P w K mg base ["_law_tree_here", "_law_word", "_law_head", "_law_text", "_law_at", "_law_piece"] "_law_shown" (defScope s_l_shown) f cdv A outer s H E) (fun cls d _ H => E cls d H) := takes_of rfl rfl rfl rfl
  have hp : PassesOwn (model P w) _ _ _ := passes_of (X := cxOf (L2.CX P w) P w K mg base ["_law_tree_here", "_law_word", "_law_head", "_law_text", "_law_at", "_law_piece"] "_law_shown" (defScope s_l_shown) f cdv A outer s H E) rfl
  exact B.n1 (B.set 1 S.nd (B.ix hu (B.v 0) (B.cI))) (B.n1 (B.cond (B.tC hu (B.v 1) (B.cS "ask")) (B.n1 (B.ret (B.bin .Add o_add (B.cS "ask ") (B.ix hu (B.v 0) (B.cI)))) (B.n0)) (B.n0)) (B.n1 (B.cond (B.tC hu (B.v 1) (B.cS "set")) (B.n1 (B.ret (B.bin .Add o_add (B.bin .Add o_add (B.cS "set ") (B.ix hu (B.v 0) (B.cI))) (B.ite (B.tV (B.ix hu (B.v 0) (B.cI))) (B.cS " up") (B.cS " down")))) (B.n0)) (B.n0)) (B.n1 (B.cond (B.tC hu (B.v 1) (B.cS "do")) (B.n1 (B.ret (B.bin .Add o_add (B.bin .Add o_add (B.bin .Add o_add (B.bin .Add o_add (B.bin .Add o_add (B.cS "do ") (B.ix hu (B.v 0) (B.cI))) (B.cS " ")) (B.blt .str T.m_str (B.consP (B.ix hu (B.v 0) (B.cI)) (B.nilP)))) (B.cS " ")) (B.ix hu (B.v 0) (B.cI)))) (B.n0)) (B.n0)) (B.n1 (B.set 2 S.nd (B.v 1)) (B.n1 (B.cond (B.tC hu (B.v 1) (B.tup (B.consP (B.cS "again") (B.consP (B.cS "till") (B.consP (B.cS "hold") (B.consP (B.cS "beside") (B.nilP))))))) (B.n1 (B.set 2 S.nd (B.bin .Add o_add (B.bin .Add o_add (B.v 1) (B.cS " ")) (B.blt .str T.m_str (B.consP (B.ix hu (B.v 0) (B.cI)) (B.nilP))))) (B.n0)) (B.n0)) (B.n1 (B.set 3 S.nd (B.cS "")) (B.n1 (B.for_ hp (B.iE T.m_enumerate (B.call C.l_inner hr tk (B.aV (B.v 0) (B.a0)))) (B.gT (B.gS 4 S.nd (B.gS 5 S.nd (B.gN)))) (B.n1 (B.set 3 S.nd (B.bin .Add o_add (B.bin .Add o_add (B.v 3) (B.bin .Mult o_mult (B.cS "; ") (B.blt .int T.m_int (B.consP (B.cmp hu (B.v 4) (B.cI)) (B.nilP))))) (B.call C.l_shown hr tk (B.aV (B.v 5) (B.a0))))) (B.n0))) (B.n1 (B.ret (B.bin .Add o_add (B.bin .Add o_add (B.bin .Add o_add (B.v 2) (B.cS "(")) (B.v 3)) (B.cS ")"))) (B.n0)))))))))
theorem ok_l_back (F : Fun K "_law_back" "_law_back" s_l_back f fd) (T : Txt A_TreeError K mg) (C : Ces P w K mg base k cl) (hcl : cl' "_law_back" = runF cl f_l_back) : FnOk P w K mg base (L2.CX P w) (k + 1) f fd ["_law_text"] (CSp K mg cl' "_law_back" f_l_back.io) := by
  have S := sc_l_back
  refine fn_ok F S rfl rfl (by decide) hcl fun cdv A outer s H E hr => ?_
  have hu := hu65 hr
  have tk : Takes (cxOf (L2.CX P w) P w K mg base ["_law_text"] "_law_back" (defScope s_l_back) f cdv A outer s H E) (fun cls d _ H => E cls d H) := takes_of rfl rfl rfl rfl
  have hp : PassesOwn (model P w) _ _ _ := passes_of (X := cxOf (L2.CX P w) P w K mg base ["_law_text"] "_law_back" (defScope s_l_back) f cdv A outer s H E) rfl
  exact B.n1 (B.try_ T.a_TreeError T.k_TreeError tk (fun _ _ _ tkB hpB => B.n1 (B.ret (B.call C.p_read hr tkB (B.aV (B.v 0) (B.a0)))) (B.n0)) (fun _ _ _ => B.n1 (B.ret (B.cN)) (B.n0))) (B.n0)
theorem ok_law (F : Fun K "law" "law" s_law f fd) (T : Txt A_TreeError K mg) (C : Ces P w K mg base k cl) (hcl : cl' "law" = runF cl f_law) : FnOk P w K mg base (L2.CX P w) (k + 1) f fd ["_law_script"] (CSp K mg cl' "law" f_law.io) := by
  have S := sc_law
  refine fn_ok F S rfl rfl (by decide) hcl fun cdv A outer s H E hr => ?_
  have hu := hu65 hr
  have tk : Takes (cxOf (L2.CX P w) P w K mg base ["_law_script", "_law_town", "_law_trees", "_law_tree_here", "_law_other", "_law_k"] "law" (defScope s_law) f cdv A outer s H E) (fun cls d _ H => E cls d H) := takes_of rfl rfl rfl rfl
  have hp : PassesOwn (model P w) _ _ _ := passes_of (X := cxOf (L2.CX P w) P w K mg base ["_law_script", "_law_town", "_law_trees", "_law_tree_here", "_law_other", "_law_k"] "law" (defScope s_law) f cdv A outer s H E) rfl
  exact B.n1 (B.set 1 S.nd (B.lst (B.nilP))) (B.n1 (B.setLc 2 [("_law_k", 5)] S.nd (B.iR T.m_range (B.cI)) (fun _ _ _ _ _ => B.g1 5 S.nd) (fun _ _ _ _ _ => B.q0) (fun _ _ _ _ _ => B.call C.l_tree hr takes0 (B.aV (B.v 0) (B.aI 1 (B.aV (B.call C.l_pick hr takes0 (B.aV (B.v 0) (B.aI 1 (B.aV (B.lst (B.consP (B.cI) (B.consP (B.cI) (B.consP (B.cI) (B.nilP))))) (B.a0))))) (B.a0))))) (sw_true rfl rfl rfl rfl)) (B.n1 (B.for_ hp (B.iS (B.v 2)) (B.g1 3 S.nd) (B.n1 (B.cond (B.tO (B.tC hu (B.call C.p_shown hr tk (B.aV (B.v 3) (B.a0))) (B.call C.l_shown hr tk (B.aV (B.v 3) (B.a0)))) (B.w1O (B.tC hu (B.call C.l_back hr tk (B.aV (B.call C.p_shown hr tk (B.aV (B.v 3) (B.a0))) (B.a0))) (B.v 3)))) (B.n1 (B.ret (B.cB)) (B.n0)) (B.n0)) (B.n1 (B.for_ hp (B.iS (B.v 2)) (B.g1 4 S.nd) (B.n1 (B.cond (B.tC hu (B.cmp hu (B.call C.p_shown hr tk (B.aV (B.v 3) (B.a0))) (B.call C.p_shown hr tk (B.aV (B.v 4) (B.a0)))) (B.cmp hu (B.v 3) (B.v 4))) (B.n1 (B.ret (B.cB)) (B.n0)) (B.n0)) (B.n0))) (B.n0)))) (B.n1 (B.ret (B.cB)) (B.n0))))
end
structure Dfs (K : PySem.W.Frag) (mg : Str → Option Value) : Prop where
  p_is_whole : FD K mg "is_whole" s_p_is_whole ["thing", "low", "most"]
  p_is_word : FD K mg "is_word" s_p_is_word ["thing", "words"]
  p_is_name : FD K mg "is_name" s_p_is_name ["thing"]
  p_is_flag : FD K mg "is_flag" s_p_is_flag ["thing"]
  p_is_leaf : FD K mg "is_leaf" s_p_is_leaf ["thing"]
  p_is_part : FD K mg "is_part" s_p_is_part ["thing", "deep"]
  p_are_parts : FD K mg "are_parts" s_p_are_parts ["thing", "deep"]
  p_parts_of : FD K mg "parts_of" s_p_parts_of ["tree"]
  p_size_of : FD K mg "size_of" s_p_size_of ["tree"]
  p_is_tree : FD K mg "is_tree" s_p_is_tree ["thing"]
  p_need_tree : FD K mg "need_tree" s_p_need_tree ["thing"]
  p_head_of : FD K mg "head_of" s_p_head_of ["tree"]
  p_text_of : FD K mg "text_of" s_p_text_of ["tree"]
  p_shown : FD K mg "shown" s_p_shown ["tree"]
  p_number : FD K mg "number" s_p_number ["word"]
  p_leaf_of : FD K mg "leaf_of" s_p_leaf_of ["words"]
  p_part_of : FD K mg "part_of" s_p_part_of ["head", "parts"]
  p_read_part : FD K mg "read_part" s_p_read_part ["text", "at", "deep"]
  p_read : FD K mg "read" s_p_read ["text"]
  l_cell_at : FD K mg "_law_cell_at" s_l_cell_at ["_law_script", "_law_k"]
  l_mixed : FD K mg "_law_mixed" s_l_mixed ["_law_script", "_law_k", "_law_many"]
  l_draw : FD K mg "_law_draw" s_l_draw ["_law_script", "_law_town", "_law_many"]
  l_pick : FD K mg "_law_pick" s_l_pick ["_law_script", "_law_town", "_law_some"]
  l_leaf : FD K mg "_law_leaf" s_l_leaf ["_law_script", "_law_town"]
  l_part : FD K mg "_law_part" s_l_part ["_law_script", "_law_town", "_law_deep", "_law_left"]
  l_size : FD K mg "_law_size" s_l_size ["_law_tree_here"]
  l_inner : FD K mg "_law_inner" s_l_inner ["_law_tree_here"]
  l_tree : FD K mg "_law_tree" s_l_tree ["_law_script", "_law_town", "_law_deep"]
  l_shown : FD K mg "_law_shown" s_l_shown ["_law_tree_here"]
  l_back : FD K mg "_law_back" s_l_back ["_law_text"]
  law : FD K mg "law" s_law ["_law_script"]
theorem ces {P : Program} {w : World} {K : PySem.W.Frag} {mg : Str → Option Value} {base : Heap} {A_TreeError : Addr} (T : Txt A_TreeError K mg) (F : Dfs K mg) : ∀ k, Ces P w K mg base k (R k)
  | 0 => ⟨fn_zero rfl F.p_is_whole, fn_zero rfl F.p_is_word, fn_zero rfl F.p_is_name, fn_zero rfl F.p_is_flag, fn_zero rfl F.p_is_leaf, fn_zero rfl F.p_is_part, fn_zero rfl F.p_are_parts, fn_zero rfl F.p_parts_of, fn_zero rfl F.p_size_of, fn_zero rfl F.p_is_tree, fn_zero rfl F.p_need_tree, fn_zero rfl F.p_head_of, fn_zero rfl F.p_text_of, fn_zero rfl F.p_shown, fn_zero rfl F.p_number, fn_zero rfl F.p_leaf_of, fn_zero rfl F.p_part_of, fn_zero rfl F.p_read_part, fn_zero rfl F.p_read, fn_zero rfl F.l_cell_at, fn_zero rfl F.l_mixed, fn_zero rfl F.l_draw, fn_zero rfl F.l_pick, fn_zero rfl F.l_leaf, fn_zero rfl F.l_part, fn_zero rfl F.l_size, fn_zero rfl F.l_inner, fn_zero rfl F.l_tree, fn_zero rfl F.l_shown, fn_zero rfl F.l_back, fn_zero rfl F.law⟩
  | k + 1 => ⟨fn_succ F.p_is_whole fun _ _ G => ok_p_is_whole G T (ces T F k) (funext fun ds => R_p_is_whole k ds), fn_succ F.p_is_word fun _ _ G => ok_p_is_word G T (ces T F k) (funext fun ds => R_p_is_word k ds), fn_succ F.p_is_name fun _ _ G => ok_p_is_name G T (ces T F k) (funext fun ds => R_p_is_name k ds), fn_succ F.p_is_flag fun _ _ G => ok_p_is_flag G T (ces T F k) (funext fun ds => R_p_is_flag k ds), fn_succ F.p_is_leaf fun _ _ G => ok_p_is_leaf G T (ces T F k) (funext fun ds => R_p_is_leaf k ds), fn_succ F.p_is_part fun _ _ G => ok_p_is_part G T (ces T F k) (funext fun ds => R_p_is_part k ds), fn_succ F.p_are_parts fun _ _ G => ok_p_are_parts G T (ces T F k) (funext fun ds => R_p_are_parts k ds), fn_succ F.p_parts_of fun _ _ G => ok_p_parts_of G T (ces T F k) (funext fun ds => R_p_parts_of k ds), fn_succ F.p_size_of fun _ _ G => ok_p_size_of G T (ces T F k) (funext fun ds => R_p_size_of k ds), fn_succ F.p_is_tree fun _ _ G => ok_p_is_tree G T (ces T F k) (funext fun ds => R_p_is_tree k ds), fn_succ F.p_need_tree fun _ _ G => ok_p_need_tree G T (ces T F k) (funext fun ds => R_p_need_tree k ds), fn_succ F.p_head_of fun _ _ G => ok_p_head_of G T (ces T F k) (funext fun ds => R_p_head_of k ds), fn_succ F.p_text_of fun _ _ G => ok_p_text_of G T (ces T F k) (funext fun ds => R_p_text_of k ds), fn_succ F.p_shown fun _ _ G => ok_p_shown G T (ces T F k) (funext fun ds => R_p_shown k ds), fn_succ F.p_number fun _ _ G => ok_p_number G T (ces T F k) (funext fun ds => R_p_number k ds), fn_succ F.p_leaf_of fun _ _ G => ok_p_leaf_of G T (ces T F k) (funext fun ds => R_p_leaf_of k ds), fn_succ F.p_part_of fun _ _ G => ok_p_part_of G T (ces T F k) (funext fun ds => R_p_part_of k ds), fn_succ F.p_read_part fun _ _ G => ok_p_read_part G T (ces T F k) (funext fun ds => R_p_read_part k ds), fn_succ F.p_read fun _ _ G => ok_p_read G T (ces T F k) (funext fun ds => R_p_read k ds), fn_succ F.l_cell_at fun _ _ G => ok_l_cell_at G T (ces T F k) (funext fun ds => R_l_cell_at k ds), fn_succ F.l_mixed fun _ _ G => ok_l_mixed G T (ces T F k) (funext fun ds => R_l_mixed k ds), fn_succ F.l_draw fun _ _ G => ok_l_draw G T (ces T F k) (funext fun ds => R_l_draw k ds), fn_succ F.l_pick fun _ _ G => ok_l_pick G T (ces T F k) (funext fun ds => R_l_pick k ds), fn_succ F.l_leaf fun _ _ G => ok_l_leaf G T (ces T F k) (funext fun ds => R_l_leaf k ds), fn_succ F.l_part fun _ _ G => ok_l_part G T (ces T F k) (funext fun ds => R_l_part k ds), fn_succ F.l_size fun _ _ G => ok_l_size G T (ces T F k) (funext fun ds => R_l_size k ds), fn_succ F.l_inner fun _ _ G => ok_l_inner G T (ces T F k) (funext fun ds => R_l_inner k ds), fn_succ F.l_tree fun _ _ G => ok_l_tree G T (ces T F k) (funext fun ds => R_l_tree k ds), fn_succ F.l_shown fun _ _ G => ok_l_shown G T (ces T F k) (funext fun ds => R_l_shown k ds), fn_succ F.l_back fun _ _ G => ok_l_back G T (ces T F k) (funext fun ds => R_l_back k ds), fn_succ F.law fun _ _ G => ok_law G T (ces T F k) (funext fun ds => R_law k ds)⟩
end TT
set_option Elab.async false
set_option linter.all false
set_option maxRecDepth 100000
set_option maxHeartbeats 8000000
open PySem PySem.W PyProof.Rows
theorem PySem.Challenge.cw_ticktree_k25_whole_texts_holds : PySem.Challenge.rw_ticktree_k25_whole_texts.Holds := by
  w_on; o_law; k_head; (case hw => w_witness2)
  k_fill
  refine L2.walk_of (l := PySem.Challenge.rw_ticktree_k25_whole_texts) (n := 63) (k := 41) (x := "_law_script") (CX := fun w => L2.CX (PySem.Challenge.rw_ticktree_k25_whole_texts).prog w) (sp := fun w => TT.spLaw _) rfl (by decide) rfl ⟨rfl, by decide, by decide⟩ (fun w h Y => PySem.W.kIn_of Y) ?F (fun _ H a ns hl hO hS => ⟨a, ns, rfl, hl, hO, hS, fun _ => rfl⟩) (fun w H s e s' h => TT.no_exc w H s e s' h)
  case F =>
    intro w mg fa h KX G hmg
    have m_all : mg "all" = none := by
      refine' PySem.W.mg_none_of KX G ?a
      (case a => k_is)
    have m_bool : mg "bool" = none := by
      refine' PySem.W.mg_none_of KX G ?a
      (case a => k_is)
    have m_enumerate : mg "enumerate" = none := by
      refine' PySem.W.mg_none_of KX G ?a
      (case a => k_is)
    have m_int : mg "int" = none := by
      refine' PySem.W.mg_none_of KX G ?a
      (case a => k_is)
    have m_isinstance : mg "isinstance" = none := by
      refine' PySem.W.mg_none_of KX G ?a
      (case a => k_is)
    have m_len : mg "len" = none := by
      refine' PySem.W.mg_none_of KX G ?a
      (case a => k_is)
    have m_range : mg "range" = none := by
      refine' PySem.W.mg_none_of KX G ?a
      (case a => k_is)
    have m_str : mg "str" = none := by
      refine' PySem.W.mg_none_of KX G ?a
      (case a => k_is)
    have m_sum : mg "sum" = none := by
      refine' PySem.W.mg_none_of KX G ?a
      (case a => k_is)
    have m_tuple : mg "tuple" = none := by
      refine' PySem.W.mg_none_of KX G ?a
      (case a => k_is)
    have g_LETTERS : TT.GCX KX mg "LETTERS" TT.c_LETTERS := by
      refine' TT.gc_str (s := "abcdefghijklmnopqrstuvwxyz") KX G ?a
      (case a => k_is)
    have g_FLAGS : TT.GCX KX mg "FLAGS" TT.c_FLAGS := by
      refine' TT.gc_str (s := "abc") KX G ?a
      (case a => k_is)
    have g_TICKS : TT.GCX KX mg "TICKS" TT.c_TICKS := by
      refine' TT.gc_int (i := 4) KX G ?a
      (case a => k_is)
    have g_TIMES : TT.GCX KX mg "TIMES" TT.c_TIMES := by
      refine' TT.gc_int (i := 4) KX G ?a
      (case a => k_is)
    have g_DEEP : TT.GCX KX mg "DEEP" TT.c_DEEP := by
      refine' TT.gc_int (i := 5) KX G ?a
      (case a => k_is)
    have g_SIZE : TT.GCX KX mg "SIZE" TT.c_SIZE := by
      refine' TT.gc_int (i := 14) KX G ?a
      (case a => k_is)
    have g_ENDS : TT.GCX KX mg "ENDS" TT.c_ENDS := by
      refine' TT.gc_strs (ss := ["yes", "no"]) KX G ?a ?l ?s
      (case a => k_is)
      (case l => k_is)
      (case s => decide +kernel)
    have g_MANY_KINDS : TT.GCX KX mg "MANY_KINDS" TT.c_MANY_KINDS := by
      refine' TT.gc_strs (ss := ["row", "choice", "row anew", "choice anew"]) KX G ?a ?l ?s
      (case a => k_is)
      (case l => k_is)
      (case s => decide +kernel)
    have g_ONE_KINDS : TT.GCX KX mg "ONE_KINDS" TT.c_ONE_KINDS := by
      refine' TT.gc_strs (ss := ["not", "yes", "no", "keep"]) KX G ?a ?l ?s
      (case a => k_is)
      (case l => k_is)
      (case s => decide +kernel)
    have g_COUNT_KINDS : TT.GCX KX mg "COUNT_KINDS" TT.c_COUNT_KINDS := by
      refine' TT.gc_strs (ss := ["again", "till", "hold"]) KX G ?a ?l ?s
      (case a => k_is)
      (case l => k_is)
      (case s => decide +kernel)
    have g_FIGURES : TT.GCX KX mg "FIGURES" TT.c_FIGURES := by
      refine' TT.gc_str (s := "0123456789") KX G ?a
      (case a => k_is)
    have x_NoTree : TT.XCX KX mg "NoTree" := by
      refine' TT.xc_val KX G ?a ?e ?k ?s ?t
      (case a => k_is)
      (case e => kernel_rfl)
      (case k => k_is)
      (case s => k_is)
      (case t => k_is)
    have x_NoText : TT.XCX KX mg "NoText" := by
      refine' TT.xc_val KX G ?a ?e ?k ?s ?t
      (case a => k_is)
      (case e => kernel_rfl)
      (case k => k_is)
      (case s => k_is)
      (case t => k_is)
    obtain ⟨A_TreeError, a_TreeError, k_TreeError⟩ : ∃ A, mg "TreeError" = some (.ref A) ∧ TT.CatchX KX mg TT.k_TreeError (.ref A) := by
      refine' TT.catch_end KX G ?a ?s1 ?s2 ?s3 (TT.catch_cons KX G ?a0 ?b0 (TT.catch_cons KX G ?a1 ?b1 TT.catch_nil))
      (case a => k_is); (case s1 => k_is); (case s2 => k_is); (case s3 => k_is)
      (case a0 => k_is); (case b0 => k_is)
      (case a1 => k_is); (case b1 => k_is)
    have d_p_is_whole : TT.FDX KX mg "is_whole" TT.s_p_is_whole ["thing", "low", "most"] := by
      refine' TT.fd_mk KX G ?a ?l ?c ?k (fun _ _ _ _ _ _ us hl => match us, hl with | [_, _, _], _ => rfl)
      (case a => k_is)
      (case l => k_is)
      (case c => k_is)
      (case k => k_is)
    have d_p_is_word : TT.FDX KX mg "is_word" TT.s_p_is_word ["thing", "words"] := by
      refine' TT.fd_mk KX G ?a ?l ?c ?k (fun _ _ _ _ _ _ us hl => match us, hl with | [_, _], _ => rfl)
      (case a => k_is)
      (case l => k_is)
      (case c => k_is)
      (case k => k_is)
    have d_p_is_name : TT.FDX KX mg "is_name" TT.s_p_is_name ["thing"] := by
      refine' TT.fd_mk KX G ?a ?l ?c ?k (fun _ _ _ _ _ _ us hl => match us, hl with | [_], _ => rfl)
      (case a => k_is)
      (case l => k_is)
      (case c => k_is)
      (case k => k_is)
    have d_p_is_flag : TT.FDX KX mg "is_flag" TT.s_p_is_flag ["thing"] := by
      refine' TT.fd_mk KX G ?a ?l ?c ?k (fun _ _ _ _ _ _ us hl => match us, hl with | [_], _ => rfl)
      (case a => k_is)
      (case l => k_is)
      (case c => k_is)
      (case k => k_is)
    have d_p_is_leaf : TT.FDX KX mg "is_leaf" TT.s_p_is_leaf ["thing"] := by
      refine' TT.fd_mk KX G ?a ?l ?c ?k (fun _ _ _ _ _ _ us hl => match us, hl with | [_], _ => rfl)
      (case a => k_is)
      (case l => k_is)
      (case c => k_is)
      (case k => k_is)
    have d_p_is_part : TT.FDX KX mg "is_part" TT.s_p_is_part ["thing", "deep"] := by
      refine' TT.fd_mk KX G ?a ?l ?c ?k (fun _ _ _ _ _ _ us hl => match us, hl with | [_, _], _ => rfl)
      (case a => k_is)
      (case l => k_is)
      (case c => k_is)
      (case k => k_is)
    have d_p_are_parts : TT.FDX KX mg "are_parts" TT.s_p_are_parts ["thing", "deep"] := by
      refine' TT.fd_mk KX G ?a ?l ?c ?k (fun _ _ _ _ _ _ us hl => match us, hl with | [_, _], _ => rfl)
      (case a => k_is)
      (case l => k_is)
      (case c => k_is)
      (case k => k_is)
    have d_p_parts_of : TT.FDX KX mg "parts_of" TT.s_p_parts_of ["tree"] := by
      refine' TT.fd_mk KX G ?a ?l ?c ?k (fun _ _ _ _ _ _ us hl => match us, hl with | [_], _ => rfl)
      (case a => k_is)
      (case l => k_is)
      (case c => k_is)
      (case k => k_is)
    have d_p_size_of : TT.FDX KX mg "size_of" TT.s_p_size_of ["tree"] := by
      refine' TT.fd_mk KX G ?a ?l ?c ?k (fun _ _ _ _ _ _ us hl => match us, hl with | [_], _ => rfl)
      (case a => k_is)
      (case l => k_is)
      (case c => k_is)
      (case k => k_is)
    have d_p_is_tree : TT.FDX KX mg "is_tree" TT.s_p_is_tree ["thing"] := by
      refine' TT.fd_mk KX G ?a ?l ?c ?k (fun _ _ _ _ _ _ us hl => match us, hl with | [_], _ => rfl)
      (case a => k_is)
      (case l => k_is)
      (case c => k_is)
      (case k => k_is)
    have d_p_need_tree : TT.FDX KX mg "need_tree" TT.s_p_need_tree ["thing"] := by
      refine' TT.fd_mk KX G ?a ?l ?c ?k (fun _ _ _ _ _ _ us hl => match us, hl with | [_], _ => rfl)
      (case a => k_is)
      (case l => k_is)
      (case c => k_is)
      (case k => k_is)
    have d_p_head_of : TT.FDX KX mg "head_of" TT.s_p_head_of ["tree"] := by
      refine' TT.fd_mk KX G ?a ?l ?c ?k (fun _ _ _ _ _ _ us hl => match us, hl with | [_], _ => rfl)
      (case a => k_is)
      (case l => k_is)
      (case c => k_is)
      (case k => k_is)
    have d_p_text_of : TT.FDX KX mg "text_of" TT.s_p_text_of ["tree"] := by
      refine' TT.fd_mk KX G ?a ?l ?c ?k (fun _ _ _ _ _ _ us hl => match us, hl with | [_], _ => rfl)
      (case a => k_is)
      (case l => k_is)
      (case c => k_is)
      (case k => k_is)
    have d_p_shown : TT.FDX KX mg "shown" TT.s_p_shown ["tree"] := by
      refine' TT.fd_mk KX G ?a ?l ?c ?k (fun _ _ _ _ _ _ us hl => match us, hl with | [_], _ => rfl)
      (case a => k_is)
      (case l => k_is)
      (case c => k_is)
      (case k => k_is)
    have d_p_number : TT.FDX KX mg "number" TT.s_p_number ["word"] := by
      refine' TT.fd_mk KX G ?a ?l ?c ?k (fun _ _ _ _ _ _ us hl => match us, hl with | [_], _ => rfl)
      (case a => k_is)
      (case l => k_is)
      (case c => k_is)
      (case k => k_is)
    have d_p_leaf_of : TT.FDX KX mg "leaf_of" TT.s_p_leaf_of ["words"] := by
      refine' TT.fd_mk KX G ?a ?l ?c ?k (fun _ _ _ _ _ _ us hl => match us, hl with | [_], _ => rfl)
      (case a => k_is)
      (case l => k_is)
      (case c => k_is)
      (case k => k_is)
    have d_p_part_of : TT.FDX KX mg "part_of" TT.s_p_part_of ["head", "parts"] := by
      refine' TT.fd_mk KX G ?a ?l ?c ?k (fun _ _ _ _ _ _ us hl => match us, hl with | [_, _], _ => rfl)
      (case a => k_is)
      (case l => k_is)
      (case c => k_is)
      (case k => k_is)
    have d_p_read_part : TT.FDX KX mg "read_part" TT.s_p_read_part ["text", "at", "deep"] := by
      refine' TT.fd_mk KX G ?a ?l ?c ?k (fun _ _ _ _ _ _ us hl => match us, hl with | [_, _, _], _ => rfl)
      (case a => k_is)
      (case l => k_is)
      (case c => k_is)
      (case k => k_is)
    have d_p_read : TT.FDX KX mg "read" TT.s_p_read ["text"] := by
      refine' TT.fd_mk KX G ?a ?l ?c ?k (fun _ _ _ _ _ _ us hl => match us, hl with | [_], _ => rfl)
      (case a => k_is)
      (case l => k_is)
      (case c => k_is)
      (case k => k_is)
    have d_l_cell_at : TT.FDX KX mg "_law_cell_at" TT.s_l_cell_at ["_law_script", "_law_k"] := by
      refine' TT.fd_mk KX G ?a ?l ?c ?k (fun _ _ _ _ _ _ us hl => match us, hl with | [_, _], _ => rfl)
      (case a => k_is)
      (case l => k_is)
      (case c => k_is)
      (case k => k_is)
    have d_l_mixed : TT.FDX KX mg "_law_mixed" TT.s_l_mixed ["_law_script", "_law_k", "_law_many"] := by
      refine' TT.fd_mk KX G ?a ?l ?c ?k (fun _ _ _ _ _ _ us hl => match us, hl with | [_, _, _], _ => rfl)
      (case a => k_is)
      (case l => k_is)
      (case c => k_is)
      (case k => k_is)
    have d_l_draw : TT.FDX KX mg "_law_draw" TT.s_l_draw ["_law_script", "_law_town", "_law_many"] := by
      refine' TT.fd_mk KX G ?a ?l ?c ?k (fun _ _ _ _ _ _ us hl => match us, hl with | [_, _, _], _ => rfl)
      (case a => k_is)
      (case l => k_is)
      (case c => k_is)
      (case k => k_is)
    have d_l_pick : TT.FDX KX mg "_law_pick" TT.s_l_pick ["_law_script", "_law_town", "_law_some"] := by
      refine' TT.fd_mk KX G ?a ?l ?c ?k (fun _ _ _ _ _ _ us hl => match us, hl with | [_, _, _], _ => rfl)
      (case a => k_is)
      (case l => k_is)
      (case c => k_is)
      (case k => k_is)
    have d_l_leaf : TT.FDX KX mg "_law_leaf" TT.s_l_leaf ["_law_script", "_law_town"] := by
      refine' TT.fd_mk KX G ?a ?l ?c ?k (fun _ _ _ _ _ _ us hl => match us, hl with | [_, _], _ => rfl)
      (case a => k_is)
      (case l => k_is)
      (case c => k_is)
      (case k => k_is)
    have d_l_part : TT.FDX KX mg "_law_part" TT.s_l_part ["_law_script", "_law_town", "_law_deep", "_law_left"] := by
      refine' TT.fd_mk KX G ?a ?l ?c ?k (fun _ _ _ _ _ _ us hl => match us, hl with | [_, _, _, _], _ => rfl)
      (case a => k_is)
      (case l => k_is)
      (case c => k_is)
      (case k => k_is)
    have d_l_size : TT.FDX KX mg "_law_size" TT.s_l_size ["_law_tree_here"] := by
      refine' TT.fd_mk KX G ?a ?l ?c ?k (fun _ _ _ _ _ _ us hl => match us, hl with | [_], _ => rfl)
      (case a => k_is)
      (case l => k_is)
      (case c => k_is)
      (case k => k_is)
    have d_l_inner : TT.FDX KX mg "_law_inner" TT.s_l_inner ["_law_tree_here"] := by
      refine' TT.fd_mk KX G ?a ?l ?c ?k (fun _ _ _ _ _ _ us hl => match us, hl with | [_], _ => rfl)
      (case a => k_is)
      (case l => k_is)
      (case c => k_is)
      (case k => k_is)
    have d_l_tree : TT.FDX KX mg "_law_tree" TT.s_l_tree ["_law_script", "_law_town", "_law_deep"] := by
      refine' TT.fd_mk KX G ?a ?l ?c ?k (fun _ _ _ _ _ _ us hl => match us, hl with | [_, _, _], _ => rfl)
      (case a => k_is)
      (case l => k_is)
      (case c => k_is)
      (case k => k_is)
    have d_l_shown : TT.FDX KX mg "_law_shown" TT.s_l_shown ["_law_tree_here"] := by
      refine' TT.fd_mk KX G ?a ?l ?c ?k (fun _ _ _ _ _ _ us hl => match us, hl with | [_], _ => rfl)
      (case a => k_is)
      (case l => k_is)
      (case c => k_is)
      (case k => k_is)
    have d_l_back : TT.FDX KX mg "_law_back" TT.s_l_back ["_law_text"] := by
      refine' TT.fd_mk KX G ?a ?l ?c ?k (fun _ _ _ _ _ _ us hl => match us, hl with | [_], _ => rfl)
      (case a => k_is)
      (case l => k_is)
      (case c => k_is)
      (case k => k_is)
    have d_law : TT.FDX KX mg "law" TT.s_law ["_law_script"] := by
      refine' TT.fd_mk KX G ?a ?l ?c ?k (fun _ _ _ _ _ _ us hl => match us, hl with | [_], _ => rfl)
      (case a => k_is)
      (case l => k_is)
      (case c => k_is)
      (case k => k_is)
    have T : TT.OfX KX fun K => TT.Txt A_TreeError K mg := ⟨m_all, m_bool, m_enumerate, m_int, m_isinstance, m_len, m_range, m_str, m_sum, m_tuple, g_LETTERS, g_FLAGS, g_TICKS, g_TIMES, g_DEEP, g_SIZE, g_ENDS, g_MANY_KINDS, g_ONE_KINDS, g_COUNT_KINDS, g_FIGURES, x_NoTree, x_NoText, a_TreeError, k_TreeError⟩
    have F : TT.OfX KX fun K => TT.Dfs K mg := ⟨d_p_is_whole, d_p_is_word, d_p_is_name, d_p_is_flag, d_p_is_leaf, d_p_is_part, d_p_are_parts, d_p_parts_of, d_p_size_of, d_p_is_tree, d_p_need_tree, d_p_head_of, d_p_text_of, d_p_shown, d_p_number, d_p_leaf_of, d_p_part_of, d_p_read_part, d_p_read, d_l_cell_at, d_l_mixed, d_l_draw, d_l_pick, d_l_leaf, d_l_part, d_l_size, d_l_inner, d_l_tree, d_l_shown, d_l_back, d_law⟩
    refine' TT.law_end (n := 41) (cl := TT.R 41) KX G hmg ?a ?l ?c ?k (fun _ _ _ _ _ _ us hl => match us, hl with | [_], _ => rfl) (fun base f fd G => TT.ok_law G T (TT.ces T F 40) (funext fun ds => TT.R_law 40 ds)) TT.law_true
    (case a => k_is)
    (case l => k_is)
    (case c => k_is)
    (case k => k_is)
