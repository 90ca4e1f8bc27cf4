import PyProof.Rows.All
import Wide.All
import OpenK.AllK
import Wide.FinOn
import PyProof.ReprReads
import HandS.ForMost
import HandS.Exc
import HandS.TryOnly
import HandS.Wide
import HandS.WideBits
import HandS.Lambda
import HandS.HotCalls
import HandS.TupAny
import PyProof.EqKinds
import PyProof.FactsAll.dict_1
import HandS.Deep
import PyProof.SeqIndex
import HandS.Flow
import HandS.SortInts
import HandS.RaiseMore
import HandS.Text
import HandS.ExcOwn
import HandS.WordsExc
import HandS.Style
import HandS.More
import HandS.AnyAll
import PyProof.ReprRoads
import HandS.Comp
import HandS.Iter
import HandS.Zip
import KE.GoesEnum
import HandS.Property
import HandS.ClsMeth
import HandS.IsInst
import HandS.FStr
import HandS.Codes
import OpenK.KMeth
import OpenK.KOps
import KE.KCallOwn
import PyProof.Conv_bool
import HandS.Star
import KE.KExcInit
import HandS.ExcInit
import HandS.SortKw
import KE.SortKeyHeap
import HandS.Ends
import HandS.HeadEnd
import HandS.Conv
import KE.KExcIs
import HandS.ExcField
import KE.KNestM
import HandS.HeadHook4
import HandS.ExcIs
import HandS.MakeKwOnly
import HandS.Head2
import PyProof.StrLawsRepr
import PySem.Challenge.RW_scorelists_k05_whole_lists_and_texts
set_option autoImplicit false
set_option linter.all false
set_option Elab.async false
set_option maxRecDepth 100000
set_option maxHeartbeats 4000000
/-! The engine: data, a small language, its evaluator. Plain Lean. -/
namespace G
abbrev Nm := Nat
/-- data: what a Python value is, without addresses; loc: a changeable object of the store -/
inductive D where
  | non | bl (b : Bool) | int (i : Int) | str (s : List Nat)
  | tup (xs : List D) | lst (xs : List D) | dct (ks vs : List D)
  | loc (l : Nat)
  | obj (c : Nat) (fs : List D)
  | exc (c : Nat) (fs : List D)
  | cls (c : Nat)
  | fl (xs : List D)
instance : Inhabited D := ⟨.non⟩
inductive Obj where
  | lst (xs : List D)
  | ins (c : Nat) (fs : List (Nm × D))
abbrev Store := List Obj
/-- a slot of a frame: empty, a value, a list that the slot alone holds -/
inductive Sl where
  | em | v (d : D) | own (xs : List D) | xc (c : Nat) (fs : List D)
abbrev Env := List Sl

inductive O (α : Type) where
  | ok (a : α) (st : Store)
  | ex (c : Nat) (fs : List D) (st : Store)
  | bad
def O.bind {α β : Type} (x : O α) (f : α → Store → O β) : O β := match x with
  | .ok a st => f a st
  | .ex c fs st => .ex c fs st
  | .bad => .bad
def O.of {α : Type} (x : Option α) (st : Store) : O α := match x with
  | some a => .ok a st
  | none => .bad

inductive Op2 where
  | add | sub | mul | fdiv | mod | pow | eq | ne | lt | le | gt | ge | is | isnot | mem | nmem | idx
inductive Bi where
  | len | int | str | repr | abs | bool | min | max | sum | sorted | tuple | list | all | any | divmod
inductive Mt where
  | split | join | index | count | upper | replace
inductive Ty where
  | int | bool | str | tuple | own (c : Nat) | exc (c : Nat) | value | lookup | arith
inductive Pt where
  | nm (i : Nat) | tp (ps : List Pt)
/-! ### data -/
/-- code points -/
def okCode (c : Nat) : Bool := decide (c < 1114112)
def b2i (b : Bool) : Int := if b then 1 else 0
mutual
def pyEq : D → D → Bool
  | .non, .non => true
  | .bl a, .bl b => a == b
  | .bl a, .int j => b2i a == j
  | .int i, .bl b => i == b2i b
  | .int i, .int j => i == j
  | .str x, .str y => x == y
  | .tup xs, .tup ys => pyEqs xs ys
  | .lst xs, .lst ys => pyEqs xs ys
  | _, _ => false
def pyEqs : List D → List D → Bool
  | [], [] => true
  | x :: xs, y :: ys => pyEq x y && pyEqs xs ys
  | _, _ => false
end
def isStr : D → Bool
  | .str _ => true
  | _ => false
mutual
/-- plain data, nested to a depth -/
def okEq : Nat → D → Bool
  | _, .non => true
  | _, .bl _ => true
  | _, .int _ => true
  | _, .str _ => true
  | n, .tup xs => match n with
    | 0 => false
    | n + 1 => okEqs n xs
  | n, .lst xs => match n with
    | 0 => false
    | n + 1 => okEqs n xs
  | _, _ => false
def okEqs : Nat → List D → Bool
  | _, [] => true
  | n, x :: xs => okEq n x && okEqs n xs
end
/-- the most items of a list, signs of a text -/
@[irreducible] def LIM : Nat := 16777216
/-- numbers that may be multiplied -/
@[irreducible] def BIG : Nat := 2 ^ 4000
def okMul (i j : Int) : Bool := decide (i.natAbs < BIG) && decide (j.natAbs < BIG)
@[irreducible] def DIV : Nat := 2 ^ 4000
def okDiv (j : Int) : Bool := decide (0 < j) && decide (j.natAbs < DIV)
def ixN (n : Nat) (i : Int) : Option Nat := if 0 ≤ i then (if i < n then some i.toNat else none) else if -(n : Int) ≤ i then some (i + n).toNat else none
def atI {α : Type} (xs : List α) (i : Int) : Option α := (ixN xs.length i).bind fun j => xs[j]?
/-- a sequence's items -/
def seqv (st : Store) : D → Option (List D)
  | .tup xs => some xs
  | .lst xs => some xs
  | .fl xs => some xs
  | .loc l => match st[l]? with
    | some (.lst xs) => some xs
    | _ => none
  | _ => none
def view (st : Store) : D → D
  | .loc l => match st[l]? with
    | some (.lst xs) => .lst xs
    | _ => .loc l
  | d => d
def op2 (o : Op2) (st : Store) (x y : D) : Option D := match o with
  | .add => match view st x, view st y with
    | .int i, .int j => some (.int (i + j))
    | .str a, .str b => if a.length + b.length ≤ LIM then some (.str (a ++ b)) else none
    | .tup a, .tup b => if a.length + b.length ≤ LIM then some (.tup (a ++ b)) else none
    | .lst a, .lst b => if a.length + b.length ≤ LIM then some (.lst (a ++ b)) else none
    | _, _ => none
  | .sub => match x, y with
    | .int i, .int j => some (.int (i - j))
    | _, _ => none
  | .mul => match view st x, y with
    | .int i, .int j => if okMul i j then some (.int (i * j)) else none
    | .lst a, .int j => if 0 ≤ j ∧ j ≤ 4096 ∧ a.length * j.toNat ≤ LIM then some (.lst (List.replicate j.toNat a).flatten) else none
    | _, _ => none
  | .fdiv => match x, y with
    | .int i, .int j => if okDiv j then some (.int (i / j)) else none
    | _, _ => none
  | .mod => match x, y with
    | .int i, .int j => if okDiv j then some (.int (i % j)) else none
    | _, _ => none
  | .pow => match x, y with
    | .int i, .int j => if 0 ≤ j ∧ j ≤ 1000 ∧ i.natAbs < 1000 then some (.int (i ^ j.toNat)) else none
    | _, _ => none
  | .eq => let x := view st x; let y := view st y; if okEq 64 x && okEq 64 y then some (.bl (pyEq x y)) else none
  | .ne => let x := view st x; let y := view st y; if okEq 64 x && okEq 64 y then some (.bl (!pyEq x y)) else none
  | .lt => match x, y with
    | .int i, .int j => some (.bl (decide (i < j)))
    | _, _ => none
  | .le => match x, y with
    | .int i, .int j => some (.bl (decide (i ≤ j)))
    | _, _ => none
  | .gt => match x, y with
    | .int i, .int j => some (.bl (decide (j < i)))
    | _, _ => none
  | .ge => match x, y with
    | .int i, .int j => some (.bl (decide (j ≤ i)))
    | _, _ => none
  | .is => match x, y with
    | .non, .non => some (.bl true)
    | .bl a, .bl b => some (.bl (a == b))
    | _, .non => some (.bl false)
    | _, _ => none
  | .isnot => match x, y with
    | .non, .non => some (.bl false)
    | .bl a, .bl b => some (.bl (a != b))
    | _, .non => some (.bl true)
    | _, _ => none
  | .mem => match x, y with
    | .str a, .str b => (match a with
      | [c] => some (.bl (b.contains c))
      | _ => none)
    | .dct _ _, y => (match seqv st y with
      | some ys => if ys.all isStr then some (.bl false) else none
      | none => none)
    | _, _ => match seqv st y with
      | some ys => let x := view st x; if okEq 64 x && okEqs 64 ys then some (.bl (ys.any fun z => pyEq z x)) else none
      | none => none
  | .nmem => match x, y with
    | .str a, .str b => (match a with
      | [c] => some (.bl (!b.contains c))
      | _ => none)
    | .dct _ _, y => (match seqv st y with
      | some ys => if ys.all isStr then some (.bl true) else none
      | none => none)
    | _, _ => match seqv st y with
      | some ys => let x := view st x; if okEq 64 x && okEqs 64 ys then some (.bl (!ys.any fun z => pyEq z x)) else none
      | none => none
  | .idx => match y with
    | .int i => match x with
      | .str a => (atI a i).map fun c => .str [c]
      | _ => (seqv st x).bind fun xs => atI xs i
    | _ => none

/-! ### texts and numbers -/
def isDig (c : Nat) : Bool := decide (48 ≤ c) && decide (c ≤ 57)
def digVal (s : List Nat) : Nat := s.foldl (fun n c => 10 * n + (c - 48)) 0
def natStr (n : Nat) : List Nat := (Nat.toDigits 10 n).map Char.toNat
def intStr (i : Int) : List Nat := match i with
  | .ofNat n => natStr n
  | .negSucc n => 45 :: natStr (n + 1)
def splitOn (c : Nat) : List Nat → List (List Nat)
  | [] => [[]]
  | x :: r => if x = c then [] :: splitOn c r else match splitOn c r with
    | [] => [[x]]
    | w :: ws => (x :: w) :: ws
def joinS (sep : List Nat) : List (List Nat) → List Nat
  | [] => []
  | [x] => x
  | x :: y :: r => x ++ sep ++ joinS sep (y :: r)
def dStrs : List D → Option (List (List Nat))
  | [] => some []
  | .str s :: r => (dStrs r).map (s :: ·)
  | _ => none
def dInts : List D → Option (List Int)
  | [] => some []
  | .int i :: r => (dInts r).map (i :: ·)
  | _ => none
def bls : List D → Option (List Bool)
  | [] => some []
  | .bl b :: r => (bls r).map (b :: ·)
  | _ => none
def lenSum : List (List Nat) → Nat
  | [] => 0
  | x :: r => x.length + lenSum r
mutual
/-- as the kit's plain data -/
def toPy : D → PySem.PyData
  | .non => .none
  | .bl b => .bool b
  | .int i => .int i
  | .str s => .str ⟨s.toArray⟩
  | .tup xs => .tuple (toPys xs)
  | .lst xs => .list (toPys xs)
  | _ => .none
def toPys : List D → List PySem.PyData
  | [] => []
  | x :: xs => toPy x :: toPys xs
end
/-- repr -/
def reprD (d : D) : List Nat := (toPy d).shown.cps.toList
/-- what repr may be asked of, nested to a depth -/
def okRep (n : Nat) (d : D) : Bool := okEq n d && (toPy d).showable && decide ((reprD d).length ≤ LIM) && (reprD d).all okCode
def leI (a b : Int) : Bool := decide (a ≤ b)
def ltS : List Nat → List Nat → Bool
  | [], [] => false
  | [], _ :: _ => true
  | _ :: _, [] => false
  | a :: r, b :: t => if a = b then ltS r t else decide (a < b)
def leS (a b : List Nat) : Bool := !ltS b a
def maxI : List Int → Option Int
  | [] => none
  | [x] => some x
  | x :: r => (maxI r).map fun m => if m < x then x else m
def minI : List Int → Option Int
  | [] => none
  | [x] => some x
  | x :: r => (minI r).map fun m => if x < m then x else m
/-- a list's items -/
def listv (st : Store) : D → Option (List D)
  | .tup _ => none
  | d => seqv st d
/-- a built-in by its name; the third is whether the list is new -/
def bi (f : Bi) (st : Store) (ds : List D) : Option D := match f, ds with
  | .len, [.str s] => some (.int s.length)
  | .len, [d] => (seqv st d).map fun xs => .int xs.length
  | .int, [.int i] => some (.int i)
  | .int, [.bl b] => some (.int (b2i b))
  | .int, [.str s] => if s ≠ [] ∧ s.length ≤ 40 ∧ s.all isDig = true then some (.int (digVal s)) else none
  | .str, [.int i] => if i.natAbs < 2 ^ 1900 then some (.str (intStr i)) else none
  | .str, [.str s] => some (.str s)
  | .repr, [d] => let x := view st d
    if okRep 32 x then some (.str (reprD x)) else none
  | .abs, [.int i] => some (.int i.natAbs)
  | .bool, [.bl b] => some (.bl b)
  | .bool, [.int i] => some (.bl (i != 0))
  | .min, [.int i, .int j] => some (.int (if j < i then j else i))
  | .max, [.int i, .int j] => some (.int (if j > i then j else i))
  | .min, [d] => (listv st d).bind fun xs => (dInts xs).bind fun is => (minI is).map .int
  | .max, [d] => (listv st d).bind fun xs => (dInts xs).bind fun is => (maxI is).map .int
  | .sum, [d] => (listv st d).bind fun xs => (dInts xs).map fun is => .int is.sum
  | .sorted, [d] => (listv st d).bind fun xs => (dInts xs).map fun is => .lst ((is.mergeSort leI).map .int)
  | .tuple, [d] => (seqv st d).map .tup
  | .list, [d] => (seqv st d).map .lst
  | .all, [d] => (listv st d).bind fun xs => (bls xs).map fun bs => .bl (bs.all id)
  | .any, [d] => (listv st d).bind fun xs => (bls xs).map fun bs => .bl (bs.any id)
  | .divmod, [.int i, .int j] => if okDiv j then some (.tup [.int (i / j), .int (i % j)]) else none
  | _, _ => none
def mt (m : Mt) (st : Store) (x : D) (ds : List D) : Option D := match m, x, ds with
  | .split, .str s, [.str [c]] => if s.length + 2 ≤ LIM then some (.lst ((splitOn c s).map .str)) else none
  | .join, .str s, [d] => (seqv st d).bind fun xs => (dStrs xs).bind fun ss => if lenSum ss + s.length * ss.length ≤ LIM then some (.str (joinS s ss)) else none
  | .index, x, [y] => (seqv st x).bind fun xs => if okEq 64 y && okEqs 63 xs then (xs.findIdx? fun z => pyEq z y).map fun (k : Nat) => .int (k : Int) else none
  | .count, x, [y] => (seqv st x).bind fun xs => if okEq 64 y && okEqs 63 xs then some (.int (xs.countP fun z => pyEq z y)) else none
  | _, _, _ => none
/-- truth -/
def truth (st : Store) : D → Option Bool
  | .non => some false
  | .bl b => some b
  | .int i => some (i != 0)
  | .str s => some (!s.isEmpty)
  | d => (seqv st d).map fun xs => !xs.isEmpty

mutual
/-- all changeable objects in it are older than the n-th -/
def ltLoc (n : Nat) : D → Bool
  | .tup xs => ltLocs n xs
  | .lst xs => ltLocs n xs
  | .dct ks vs => ltLocs n ks && ltLocs n vs
  | .loc l => decide (l < n)
  | .fl xs => ltLocs n xs
  | .obj _ fs => ltLocs n fs
  | .exc _ fs => ltLocs n fs
  | _ => true
def ltLocs (n : Nat) : List D → Bool
  | [] => true
  | x :: xs => ltLoc n x && ltLocs n xs
end
/-! ### the evaluator -/
structure Cl where
  fields : List Nm
  init : Nat
  props : List (Nm × Nat)
  meths : List (Nm × Nat)
  frozen : Bool
structure Xc where
  field : List Nm
  base : Nat        -- 0 ValueError, 1 LookupError, 2 ArithmeticError
  own : Nat         -- the base class's number
structure Ctx where
  call : Nat → List D → Store → O D
  cls : Nat → Option Cl
  exs : Nat → Option Xc
  glob : Nat → Option D
def n_init : Nm := 0
def n_len : Nm := 1
def n_contains : Nm := 2
def n_eq : Nm := 3
def n_str : Nm := 4
def n_bool : Nm := 5
/-- an object's class and fields -/
def objv (st : Store) : D → Option (Nat × List D)
  | .obj c fs => some (c, fs)
  | .loc l => match st[l]? with
    | some (.ins c fs) => some (c, fs.map (·.2))
    | _ => none
  | _ => none
def fldv (Γ : Ctx) (st : Store) (f : Nm) : D → Option D
  | .obj c fs => (Γ.cls c).bind fun k => ((k.fields.zip fs).lookup f)
  | .loc l => match st[l]? with
    | some (.ins c fs) => (Γ.cls c).bind fun k => if f ∈ k.fields then fs.lookup f else none
    | _ => none
  | _ => none
def Env.get (env : Env) (i : Nat) : Option D := match env[i]? with
  | some (.v d) => some d
  | _ => none
def Env.pk (env : Env) (i : Nat) : Option D := match env[i]? with
  | some (.own xs) => some (.lst xs)
  | some (.v d) => some d
  | _ => none
def wipe (env : Env) : List Nat → Env
  | [] => env
  | i :: r => (wipe env r).set i .em
mutual
/-- the slots of a pattern -/
def ptSlots : Pt → List Nat
  | .nm i => [i]
  | .tp ps => ptsSlots ps
def ptsSlots : List Pt → List Nat
  | [] => []
  | p :: ps => ptSlots p ++ ptsSlots ps
end
mutual
def setPt : Pt → D → Env → Option Env
  | .nm i, d, env => some (env.set i (.v d))
  | .tp ps, .tup ds, env => setPts ps ds env
  | .tp ps, .lst ds, env => setPts ps ds env
  | _, _, _ => none
def setPts : List Pt → List D → Env → Option Env
  | [], [], env => some env
  | p :: ps, d :: ds, env => (setPt p d env).bind (setPts ps ds)
  | _, _, _ => none
end
/-- the items of lo .. hi - 1 -/
def rangeD (lo hi : Int) : List D := (List.range (hi - lo).toNat).map fun (k : Nat) => D.int (lo + (k : Int))
def enumD (xs : List D) : List D := xs.zipIdx.map fun p => .tup [.int p.2, p.1]
def zipD (xs ys : List D) : List D := (xs.zip ys).map fun p => .tup [p.1, p.2]
def zipV : D → D → Option (List D)
  | .lst xs, .lst ys => some (zipD xs ys)
  | .tup xs, .tup ys => some (zipD xs ys)
  | _, _ => none
/-- a slice's end, clipped -/
def clip (n d : Nat) : Option Int → Nat
  | none => d
  | some v => if v < 0 then (max (v + n) 0).toNat else (min v n).toNat
def cut {α : Type} (xs : List α) (lo hi : Option Int) : List α := (xs.drop (clip xs.length 0 lo)).take (clip xs.length xs.length hi - clip xs.length 0 lo)
def slice (st : Store) (d : D) (lo hi : Option Int) : Option D := match view st d with
  | .str s => some (.str (cut s lo hi))
  | .tup xs => some (.tup (cut xs lo hi))
  | .lst xs => some (.lst (cut xs lo hi))
  | .fl xs => some (.lst (cut xs lo hi))
  | _ => none
def revD (st : Store) (d : D) : Option D := match view st d with
  | .tup xs => some (.tup xs.reverse)
  | .lst xs => some (.lst xs.reverse)
  | _ => none
/-- the turns of a comprehension: what it has so far -/
def compL (f : D → Store → O (Option D)) : List D → List D → Store → O (List D)
  | [], acc, st => .ok acc st
  | x :: r, acc, st => match f x st with
    | .ok (some y) st' => if acc.length < LIM then compL f r (acc ++ [y]) st' else .bad
    | .ok none st' => compL f r acc st'
    | _ => .bad
def optI : List D → Option (Option Int)
  | [] => some none
  | [.int i] => some (some i)
  | _ => none
/-- an instance is made: __init__ runs over a new place of the store; a frozen class's instance is taken out of it -/
def mkObj (Γ : Ctx) (c : Nat) (ds : List D) (st : Store) : O D := match Γ.cls c with
  | none => .bad
  | some k => match Γ.call k.init (.loc st.length :: ds) (st ++ [.ins c []]) with
    | .ok .non st' => if k.frozen then (match st'[st.length]? with
        | some (.ins b fs) => if b = c ∧ fs.map (·.1) = k.fields ∧ st'.length = st.length + 1 then .ok (.obj c (fs.map (·.2))) (st'.take st.length) else .bad
        | _ => .bad) else .ok (.loc st.length) st'
    | .ex b fs st' => .ex b fs st'
    | _ => .bad

/-- the items of a sequence that does not change -/
def seqF : D → Option (List D)
  | .tup xs => some xs
  | .lst xs => some xs
  | _ => none
/-- what may be walked: texts, too -/
def seqI : D → Option (List D)
  | .str s => some (s.map fun c => .str [c])
  | d => seqF d
/-! ### the meaning of an expression: its value, as a test, what it lets walk -/
structure Sem where
  val : Env → Store → O D
  test : Env → Store → O Bool
  items : Env → Store → O (List D)
def Sem.of (v : Env → Store → O D) : Sem where
  val := v
  test := fun env st => (v env st).bind fun x st => .of (truth st x) st
  items := fun env st => (v env st).bind fun x st => .of (seqI x) st
def Sem.walk (w : Env → Store → O (List D)) : Sem where
  val := fun _ _ => .bad
  test := fun _ _ => .bad
  items := w
def Sem.ife (c a b : Sem) : Sem where
  val := fun env st => (c.test env st).bind fun t st => if t then a.val env st else b.val env st
  test := fun env st => (c.test env st).bind fun t st => if t then a.test env st else b.test env st
  items := fun env st => ((c.test env st).bind fun t st => if t then a.val env st else b.val env st).bind fun x st => .of (seqI x) st
def Sem.no (a : Sem) : Sem where
  val := fun env st => (a.val env st).bind fun x st => (O.of (truth st x) st).bind fun b st => .ok (.bl (!b)) st
  test := fun env st => (a.test env st).bind fun b st => .ok (!b) st
  items := fun _ _ => .bad
/-- arguments from the left -/
def args : List Sem → Env → Store → O (List D)
  | [], _, st => .ok [] st
  | e :: r, env, st => (e.val env st).bind fun x st => (args r env st).bind fun xs st => .ok (x :: xs) st
/-- a and b .., a or b .. as values (all but the last are bools) -/
def bopV (and : Bool) : List Sem → Env → Store → O D
  | [], _, _ => .bad
  | [e], env, st => e.val env st
  | e :: r, env, st => (e.val env st).bind fun x st => match x with
    | .bl b => if b = and then bopV and r env st else .ok (.bl b) st
    | _ => .bad
def bopT (and : Bool) : List Sem → Env → Store → O Bool
  | [], _, _ => .bad
  | [e], env, st => e.test env st
  | e :: r, env, st => (e.test env st).bind fun b st => if b = and then bopT and r env st else .ok b st
def Sem.bop (and : Bool) (es : List Sem) : Sem where
  val := bopV and es
  test := bopT and es
  items := fun _ _ => .bad
/-- two values, then an operation -/
def two (sa sb : Sem) (f : D → D → Store → O D) : Env → Store → O D := fun env st => (sa.val env st).bind fun x st => (sb.val env st).bind fun y st => f x y st
def one (sa : Sem) (f : D → Store → O D) : Env → Store → O D := fun env st => (sa.val env st).bind f
def many (es : List Sem) (f : List D → Store → O D) : Env → Store → O D := fun env st => (args es env st).bind f
def one_many (sa : Sem) (es : List Sem) (f : D → List D → Store → O D) : Env → Store → O D := fun env st => (sa.val env st).bind fun x st => (args es env st).bind fun ds st => f x ds st
def chain (o p : Op2) (sa sb sc : Sem) : Env → Store → O D := fun env st => (sa.val env st).bind fun x st => (sb.val env st).bind fun y st => (O.of (op2 o st x y) st).bind fun r st => match r with
  | .bl true => (sc.val env st).bind fun z st => .of (op2 p st y z) st
  | .bl false => .ok (.bl false) st
  | _ => .bad
/-- a comprehension's tests: at most one -/
def testsV : List Sem → Env → Store → O Bool
  | [], _, st => .ok true st
  | [e], env, st => e.test env st
  | _, _, _ => .bad
def dunder (Γ : Ctx) (st : Store) (n : Nm) (d : D) : Option (Option Nat) := (objv st d).map fun p => (Γ.cls p.1).bind fun k => k.meths.lookup n
/-- nothing is let out -/
def O.hush {α : Type} : O α → O α
  | .ok a st => .ok a st
  | _ => .bad
/-- len(x), str(x), bool(x) of an own class (one class is meant) -/
def dunV (Γ : Ctx) (c : Nat) (m : Nm) (x : D) (st : Store) : O D := match objv st x with
  | some (b, _) => if b = c then (match (Γ.cls c).bind fun k => k.meths.lookup m with
    | some f => (Γ.call f [x] st).hush.bind fun r st => (match r with
      | .int i => if m = n_len ∧ 0 ≤ i ∧ i ≤ 1000 then .ok (.int i) st else .bad
      | .str s => if m = n_str then .ok (.str s) st else .bad
      | .bl b => if m = n_bool then .ok (.bl b) st else .bad
      | _ => .bad)
    | none => .bad) else .bad
  | none => .bad
/-- x in y, y of an own class -/
def hasV (Γ : Ctx) (c : Nat) (neg : Bool) (x y : D) (st : Store) : O D := match objv st y with
  | some (b, _) => if b = c then (match (Γ.cls c).bind fun k => k.meths.lookup n_contains with
    | some f => (Γ.call f [y, x] st).hush.bind fun r st => (match r with
      | .bl b => .ok (.bl (b != neg)) st
      | _ => .bad)
    | none => .bad) else .bad
  | none => .bad
def neg1 : D → Option D
  | .int i => some (.int (-i))
  | _ => none
def atV (Γ : Ctx) (f : Nm) (x : D) (st : Store) : O D := match fldv Γ st f x with
  | some d => .ok d st
  | none => match (objv st x).bind fun p => (Γ.cls p.1).bind fun k => k.props.lookup f with
    | some g => (Γ.call g [x] st).hush
    | none => .bad
def rngI (ds : List D) (st : Store) : O (List D) := match ds with
  | [.int j] => if -LIM ≤ j ∧ j ≤ LIM then .ok (rangeD 0 j) st else .bad
  | [.int i, .int j] => if -LIM ≤ i ∧ i ≤ LIM ∧ -LIM ≤ j ∧ j ≤ LIM then .ok (rangeD i j) st else .bad
  | _ => .bad
/-- a new changeable list -/
def newV (ds : List D) (st : Store) : O D := if ltLocs st.length ds = true ∧ ds.length ≤ LIM then .ok (.loc st.length) (st ++ [.lst ds]) else .bad
/-- one turn of a comprehension -/
def turnV (own : List Nat) (elt : Sem) (p : Pt) (ifs : List Sem) (env : Env) (x : D) (st : Store) : O (Option D) := match setPt p x (wipe env own) with
  | none => .bad
  | some env => (testsV ifs env st).bind fun t st => if t then (elt.val env st).bind fun y st => .ok (some y) st else .ok none st
def noFld (st : Store) (m : Nm) : D → Bool
  | .loc l => match st[l]? with
    | some (.ins _ fs) => fs.all fun p => p.1 != m
    | _ => true
  | _ => true
/-- o.m(..), a def of o's class (one class is meant) -/
def meV (Γ : Ctx) (c : Nat) (m : Nm) (so : Sem) (ss : List Sem) : Env → Store → O D := fun env st => (so.val env st).bind fun x st => match objv st x with
  | some (b, _) => if b = c ∧ noFld st m x = true then (match (Γ.cls c).bind fun k => k.meths.lookup m with
    | some f => (args ss env st).bind fun ds st => Γ.call f (x :: ds) st
    | none => .bad) else .bad
  | none => .bad
def optV (ss : List Sem) : Env → Store → O (Option Int) := fun env st => (args ss env st).bind fun ds st => .of (optI ds) st
def slV (s : Sem) (lo hi : List Sem) : Env → Store → O D := fun env st => (s.val env st).bind fun x st => (optV lo env st).bind fun l st => (optV hi env st).bind fun h st => .of (slice st x l h) st
/-! ### statements -/
inductive R where
  | nx (env : Env) (st : Store) | rt (d : D) (st : Store) | bk (env : Env) (st : Store) | ct (env : Env) (st : Store)
  | ex (env : Env) (c : Nat) (fs : List D) (st : Store)
  | bad
def O.run {α : Type} (x : O α) (env : Env) (f : α → Store → R) : R := match x with
  | .ok a st => f a st
  | .ex c fs st => .ex env c fs st
  | .bad => .bad
def putF (f : Nm) (d : D) : List (Nm × D) → List (Nm × D)
  | [] => [(f, d)]
  | (g, e) :: r => if g = f then (f, d) :: r else (g, e) :: putF f d r
def isFld (Γ : Ctx) (c : Nat) (f : Nm) : Bool := match Γ.cls c with
  | some k => k.fields.contains f
  | none => false
abbrev StS := Env → Store → R
def forL (body : StS) (p : Pt) : List D → Env → Store → R
  | [], env, st => .nx env st
  | x :: r, env, st => match setPt p x env with
    | none => .bad
    | some env => match body env st with
      | .nx env st => forL body p r env st
      | .ct env st => forL body p r env st
      | .bk env st => .nx env st
      | o => o
def whileL (t : Env → Store → O Bool) (body : StS) : Nat → Env → Store → R
  | 0, _, _ => .bad
  | n + 1, env, st => (t env st).run env fun b st => if b then (match body env st with
      | .nx env st => whileL t body n env st
      | .ct env st => whileL t body n env st
      | .bk env st => .nx env st
      | o => o) else .nx env st
/-- the slot of an except clause's name is emptied behind the suite -/
def Sl.cool : Sl → Sl
  | .xc _ _ => .em
  | s => s
def coolE (i : Nat) (env : Env) : Env := (env.set i .em).map Sl.cool
def R.cool (i : Nat) : R → R
  | .nx env st => .nx (coolE i env) st
  | .bk env st => .bk (coolE i env) st
  | .ct env st => .ct (coolE i env) st
  | .rt d st => .rt d st
  | _ => .bad

/-! ### more meanings -/
def Ty.isInt : Ty → Bool
  | .int => true
  | _ => false
def Ty.isBl : Ty → Bool
  | .int => true
  | .bool => true
  | _ => false
def Ty.isStr : Ty → Bool
  | .str => true
  | _ => false
def Ty.isTup : Ty → Bool
  | .tuple => true
  | _ => false
def Ty.isOwn (c : Nat) : Ty → Bool
  | .own b => c == b
  | _ => false
/-- plain isinstance: instances' classes are known -/
def isiV (Γ : Ctx) (st : Store) (d : D) (τ : Ty) : Option Bool := match d with
  | .non => some false
  | .bl _ => some τ.isBl
  | .int _ => some τ.isInt
  | .str _ => some τ.isStr
  | .tup _ => some τ.isTup
  | .lst _ => some false
  | .fl _ => some false
  | .dct _ _ => some false
  | .loc l => match st[l]? with
    | some (.lst _) => some false
    | some (.ins c _) => if (Γ.cls c).isSome = true then some (τ.isOwn c) else none
    | none => none
  | .obj c _ => if (Γ.cls c).isSome = true then some (τ.isOwn c) else none
  | _ => none
def fmtD : D → Option D
  | .str x => some (.str x)
  | .int i => if i.natAbs < 2 ^ 1900 then some (.str (intStr i)) else none
  | _ => none
/-- the parts one behind another -/
def joinedV : List Sem → List Nat → Env → Store → O D
  | [], acc, _, st => .ok (.str acc) st
  | s :: ss, acc, env, st => (s.val env st).bind fun d st => match d with
    | .str y => if acc.length + y.length ≤ LIM then joinedV ss (acc ++ y) env st else .bad
    | _ => .bad
/-- o.m(e), texts' methods -/
def m1V (s t : Sem) (f : Store → D → D → Option D) : Env → Store → O D := two s t fun x y st => match x with
  | .str _ => .of (f st x y) st
  | _ => .bad
def lcV (sI sE : Sem) (own : List Nat) (p : Pt) (ss : List Sem) : Env → Store → O D := fun env st => (sI.items env st).bind fun items st => (compL (turnV own sE p ss env) items [] st).bind fun ds st => .ok (.lst ds) st
/-- one after another -/
def seqR (r : R) (f : StS) : R := match r with
  | .nx env st => f env st
  | o => o
def R.pl : R → Bool
  | .nx _ _ => true
  | .ex _ _ _ _ => true
  | .bad => true
  | _ => false
/-- name = a new list, which the name alone will hold -/
def ownR (i : Nat) (d : D) (env : Env) (st : Store) : R := match d with
  | .lst xs => .nx (env.set i (.own xs)) st
  | _ => .bad
def putO : List (Bool × Nat) → List D → Env → Option Env
  | [], [], env => some env
  | (false, i) :: ts, d :: ds, env => putO ts ds (env.set i (.v d))
  | (true, i) :: ts, .lst xs :: ds, env => putO ts ds (env.set i (.own xs))
  | _, _, _ => none
def ofPut (o : Option Env) (st : Store) : R := match o with
  | some env => .nx env st
  | none => .bad
/-- x[b] = .., of a slot's own list -/
def osubR (i : Nat) (sb : Sem) (d : D) : StS := fun env st => match env[i]? with
  | some (.own xs) => (sb.val env st).run env fun k st => match k with
    | .int k => match ixN xs.length k with
      | some j => .nx (env.set i (.own (xs.set j d))) st
      | none => .bad
    | _ => .bad
  | _ => .bad
/-- a[b] = .., of a list of the store -/
def subR (sa sb : Sem) (d : D) : StS := fun env st => (sa.val env st).run env fun x st => (sb.val env st).run env fun k st => match x, k with
    | .loc l, .int k => (match st[l]? with
      | some (.lst xs) => match ixN xs.length k with
        | some j => if ltLoc l d then .nx env (st.set l (.lst (xs.set j d))) else .bad
        | none => .bad
      | _ => .bad)
    | _, _ => .bad
def setAll : List (D → StS) → List D → StS
  | [], [], env, st => .nx env st
  | f :: fs, d :: ds, env, st => seqR (f d env st) (setAll fs ds)
  | _, _, _, _ => .bad
def appR (i : Nat) (se : Sem) : StS := fun env st => match env[i]? with
  | some (.own xs) => (se.val env st).run env fun d st => if xs.length < LIM then .nx (env.set i (.own (xs ++ [d]))) st else .bad
  | _ => .bad
def aug1 (o : Op2) (i : Nat) (x : Int) (d : D) (env : Env) (st : Store) : R := match o, d with
  | .add, .int y => .nx (env.set i (.v (.int (x + y)))) st
  | .sub, .int y => .nx (env.set i (.v (.int (x - y)))) st
  | _, _ => .bad
def augR (i : Nat) (o : Op2) (se : Sem) : StS := fun env st => match env.get i with
  | some (.int x) => (se.val env st).run env fun y st => aug1 o i x y env st
  | _ => .bad
/-- o.f = e, of an object of the store -/
def fldR (Γ : Ctx) (f : Nm) (so : Sem) (d : D) : StS := fun env st => (so.val env st).run env fun x st => match x with
    | .loc l => (match st[l]? with
      | some (.ins c fs) => if ltLoc l d = true ∧ fs.length < 100 ∧ isFld Γ c f = true then .nx env (st.set l (.ins c (putF f d fs))) else .bad
      | _ => .bad)
    | _ => .bad
def frzS (i : Nat) (f : StS) : StS := fun env st => match env[i]? with
  | some (.own xs) => f (env.set i (.v (.lst xs))) st
  | _ => .bad
/-- the meaning of a def: data in, an outcome -/
abbrev Fd := List D → Store → O D
def pick {α : Type} (d : α) (is : List Nat) (xs : List α) : List α := is.map fun i => xs.getD i d
/-! ### forms -/
/-! statements -/
def passS : StS := fun env st => .nx env st
def brkS : StS := fun env st => .bk env st
def contS : StS := fun env st => .ct env st
def ret0S : StS := fun _ st => .rt .non st
def badS : StS := fun _ _ => .bad
def retS (s : Sem) : StS := fun env st => (s.val env st).run env fun d st => .rt d st
def exS (s : Sem) : StS := fun env st => (s.val env st).run env fun _ st => .nx env st
def ifS (c : Sem) (a b : StS) : StS := fun env st => (c.test env st).run env fun t st => if t then a env st else b env st
def seqS (a b : StS) : StS := fun env st => seqR (a env st) b
def nmS (i : Nat) (s : Sem) : StS := fun env st => (s.val env st).run env fun d st => .nx (env.set i (.v d)) st
def ownS (i : Nat) (s : Sem) : StS := fun env st => (s.val env st).run env fun d st => ownR i d env st
def tgS (f : D → StS) (s : Sem) : StS := fun env st => (s.val env st).run env fun d st => f d env st
def parS (ts : List (Bool × Nat)) (ss : List Sem) : StS := fun env st => (args ss env st).run env fun ds st => ofPut (putO ts ds env) st
def asgnS (fs : List (D → StS)) (ss : List Sem) : StS := fun env st => (args ss env st).run env fun ds st => setAll fs ds env st
def unpS (fs : List (D → StS)) (s : Sem) : StS := fun env st => (s.val env st).run env fun d st => match d with
  | .tup ds => if ds.length = fs.length then setAll fs ds env st else .bad
  | .lst ds => if ds.length = fs.length then setAll fs ds env st else .bad
  | _ => .bad
def forS (p : Pt) (s : Sem) (f : StS) : StS := fun env st => (s.items env st).run env fun xs st => forL f p xs env st
def whlS (c : Sem) (f : StS) : StS := whileL c.test f 2000
def raiseS (Γ : Ctx) (c : Nat) (ss : List Sem) : StS := fun env st => (args ss env st).run env fun ds st => match Γ.exs c with
  | some k => if k.field.length = ds.length then .ex env c ds st else .bad
  | none => .bad
/-! expressions -/
def kE (d : D) : Sem := .of fun _ st => .ok d st
def vE (i : Nat) : Sem := .of fun env st => .of (env.get i) st
def pkE (i : Nat) : Sem := .of fun env st => .of (env.pk i) st
def opE (o : Op2) (a b : Sem) : Sem := .of (two a b fun x y st => .of (op2 o st x y) st)
def tupE (es : List Sem) : Sem := .of (many es fun ds st => .ok (.tup ds) st)
def lstE (es : List Sem) : Sem := .of (many es fun ds st => .ok (.lst ds) st)
def newE (es : List Sem) : Sem := .of (many es newV)
def biE (f : Bi) (es : List Sem) : Sem := .of (many es fun ds st => .of (bi f st ds) st)
def callE (c : Fd) (es : List Sem) : Sem := .of (many es c)
def mkE (Γ : Ctx) (c : Nat) (es : List Sem) : Sem := .of (many es (mkObj Γ c))
def isiE (Γ : Ctx) (s : Sem) (τ : Ty) : Sem := .of (one s fun d st => .of ((isiV Γ st d τ).map .bl) st)
def atE (Γ : Ctx) (f : Nm) (s : Sem) : Sem := .of (one s fun d st => atV Γ f d st)
def meE (Γ : Ctx) (c : Nat) (m : Nm) (s : Sem) (es : List Sem) : Sem := .of (meV Γ c m s es)
def cmE (call : Fd) (c : Nat) (es : List Sem) : Sem := .of (many es fun ds st => call (.cls c :: ds) st)
def hasE (Γ : Ctx) (c : Nat) (neg : Bool) (a b : Sem) : Sem := .of (two a b (hasV Γ c neg))
def lenOE (Γ : Ctx) (c : Nat) (a : Sem) : Sem := .of (one a (dunV Γ c n_len))
def lcE (s e : Sem) (own : List Nat) (p : Pt) (ifs : List Sem) : Sem := .of (lcV s e own p ifs)
def slE (s : Sem) (lo hi : List Sem) : Sem := .of (slV s lo hi)
def splitE (s : Sem) (c : Nat) : Sem := .of (one s fun d st => .of (mt .split st d [.str [c]]) st)
def joinE (x : List Nat) (s : Sem) : Sem := .of (one s fun d st => .of (mt .join st (.str x) [d]) st)
def fmtE (s : Sem) : Sem := .of (one s fun d st => .of (fmtD d) st)
def joinedE (ss : List Sem) : Sem := .of (joinedV ss [])
def negE (s : Sem) : Sem := .of (one s fun x st => .of (neg1 x) st)
def rngE (es : List Sem) : Sem := .walk fun env st => (args es env st).bind fun ds st => rngI ds st
def enumE (s : Sem) : Sem := .walk fun env st => (s.val env st).bind fun x st => .of ((seqF x).map enumD) st
def zipE (s t : Sem) : Sem := .walk fun env st => (s.val env st).bind fun x st => (t.val env st).bind fun y st => .of (zipV x y) st
def chE (o p : Op2) (a b c : Sem) : Sem := .of (chain o p a b c)
def mkcE (Γ : Ctx) (i c : Nat) (es : List Sem) : Sem := .of fun env st => match env.get i with
  | some (.cls d) => if d = c then many es (mkObj Γ c) env st else .bad
  | _ => .bad
def callKE (c : Fd) (is : List Nat) (es : List Sem) : Sem := .of (many es fun ds st => c (pick .non is ds) st)
def mkKE (Γ : Ctx) (c : Nat) (is : List Nat) (es : List Sem) : Sem := .of (many es fun ds st => mkObj Γ c (pick .non is ds) st)
def appS (i : Nat) (s : Sem) : StS := appR i s
def augS (i : Nat) (o : Op2) (s : Sem) : StS := augR i o s
def fldS (Γ : Ctx) (f : Nm) (so s : Sem) : StS := fun env st => (s.val env st).run env fun d st => fldR Γ f so d env st
def nmT (i : Nat) (d : D) : StS := fun env st => .nx (env.set i (.v d)) st
/-- [x, *ys] -/
def consV (x y : D) (st : Store) : O D := match seqv st y with
  | some ys => if ys.length < LIM then .ok (.lst (x :: ys)) st else .bad
  | none => .bad
def consE (a b : Sem) : Sem := .of (two a b consV)
def strOE (Γ : Ctx) (c : Nat) (a : Sem) : Sem := .of (one a (dunV Γ c n_str))
def boolOE (Γ : Ctx) (c : Nat) (a : Sem) : Sem := .of (one a (dunV Γ c n_bool))
def upC (c : Nat) : Nat := if 97 ≤ c ∧ c ≤ 122 then c - 32 else c
def upD : D → Option D
  | .str x => if x.length ≤ 1000000 ∧ x.all (fun c => decide (c < 128)) = true then some (.str (x.map upC)) else none
  | _ => none
def upE (s : Sem) : Sem := .of (one s fun d st => .of (upD d) st)
/-- {k: v}, a text or an int for the key -/
def keyOk : D → Bool
  | .str _ => true
  | .int _ => true
  | _ => false
def dct1V (x y : D) (st : Store) : O D := if keyOk x then .ok (.dct [x] [y]) st else .bad
def dct1E (a b : Sem) : Sem := .of (two a b dct1V)
def dct0E : Sem := .of fun _ st => .ok (.dct [] []) st
/-- a value that is a list -/
def lsE (s : Sem) : Sem := .of fun env st => (s.val env st).bind fun d st => match d with
  | .lst xs => .ok (.lst xs) st
  | _ => .bad
/-- x.insert(i, e), of a slot's own list -/
def insS (i : Nat) (a b : Sem) : StS := fun env st => match env[i]? with
  | some (.own xs) => (a.val env st).run env fun k st => (b.val env st).run env fun d st => match k with
    | .int k => if 0 ≤ k ∧ k ≤ xs.length ∧ xs.length < LIM then .nx (env.set i (.own (xs.take k.toNat ++ d :: xs.drop k.toNat))) st else .bad
    | _ => .bad
  | _ => .bad
/-! ### sorted(e, key=lambda x: ..) -/
/-- what a key may be: the item, a captured name, a number, a subscript -/
inductive KX where
  | p | c (i : Nat) | k (z : Int) | ix (a b : KX)
def KX.val (env : Env) (x : D) : KX → Option D
  | .p => some x
  | .c i => env.get i
  | .k z => some (.int z)
  | .ix a b => (KX.val env x a).bind fun u => (KX.val env x b).bind fun j => match j with
    | .int j => (seqF u).bind fun xs => atI xs j
    | _ => none
def dInt : Option D → Option Int
  | some (.int i) => some i
  | _ => none
def dStr : Option D → Option (List Nat)
  | some (.str i) => some i
  | _ => none
/-- by whole numbers, or by texts -/
def sortK (f : D → Option D) (xs : List D) : Option (List D) :=
  if xs.all (fun x => (dInt (f x)).isSome) = true then some (xs.mergeSort fun a b => decide ((dInt (f a)).getD 0 ≤ (dInt (f b)).getD 0))
  else if xs.all (fun x => (dStr (f x)).isSome) = true then some (xs.mergeSort fun a b => decide ((dStr (f a)).getD [] ≤ (dStr (f b)).getD []))
  else none
def sortKE (kx : KX) (s : Sem) : Sem := .of fun env st => (s.val env st).bind fun d st => .of (((listv st d).bind fun xs => sortK (fun x => kx.val env x) xs).map .lst) st
/-- x.index(e), x.count(e) of a list -/
def isLs : D → Bool
  | .lst _ => true
  | _ => false
def idxV (f : Mt) (s t : Sem) : Env → Store → O D := fun env st => (s.val env st).bind fun x st => if isLs x then (t.val env st).bind fun y st => .of (mt f st x [y]) st else .bad
def indexE (s t : Sem) : Sem := .of (idxV .index s t)
def countE (s t : Sem) : Sem := .of (idxV .count s t)
/-- list(range(..)) -/
def lrngE (es : List Sem) : Sem := .of fun env st => (args es env st).bind fun ds st => (rngI ds st).bind fun xs st => .ok (.lst xs) st
/-- try: .., its except clauses by their classes, the name's slot -/
def tryS (f : StS) (i : Nat) (hs : List (Nat × StS)) : StS := fun env st => match f env st with
  | .ex env1 c fs st1 => (match hs.lookup c with
    | some g => if i < env1.length then (g (env1.set i (.xc c fs)) st1).cool i else .bad
    | none => .bad)
  | r => r
/-- e.f, isinstance(e, T), f(e, ..) of an exception in a slot -/
def xatE (Γ : Ctx) (f : Nm) (i : Nat) : Sem := .of fun env st => match env[i]? with
  | some (.xc c [d]) => (match Γ.exs c with
    | some k => if k.field = [f] then .ok d st else .bad
    | none => .bad)
  | _ => .bad
def xisX (k : Xc) (c : Nat) : Ty → Option Bool
  | .exc j => some (decide (j = c) || decide (j = k.own))
  | .value => some (decide (k.base = 0))
  | .lookup => some (decide (k.base = 1))
  | .arith => some (decide (k.base = 2))
  | _ => none
def xisV (Γ : Ctx) (c : Nat) (τ : Ty) : Option Bool := (Γ.exs c).bind fun k => xisX k c τ
def xisE (Γ : Ctx) (i : Nat) (τ : Ty) : Sem := .of fun env st => match env[i]? with
  | some (.xc c _) => .of ((xisV Γ c τ).map .bl) st
  | _ => .bad
def xcallE (call : Fd) (i : Nat) (es : List Sem) : Sem := .of fun env st => match env[i]? with
  | some (.xc c fs) => (args es env st).bind fun ds st => call (.exc c fs :: ds) st
  | _ => .bad
/-- a def that an exception is passed to, first -/
def runH (np ns : Nat) (s : StS) : Fd := fun ds st => match ds with
  | .exc c fs :: ds => if ds.length + 1 = np then (match s (.xc c fs :: (ds.map Sl.v ++ List.replicate (ns - (ds.length + 1)) .em)) st with
    | .rt d st => .ok d st
    | .nx _ st => .ok .non st
    | _ => .bad) else .bad
  | _ => .bad
/-! == of an own class; a new list of the store -/
def eqOV (Γ : Ctx) (c : Nat) (neg : Bool) (x y : D) (st : Store) : O D := match objv st x with
  | some (b, _) => if b = c then (match (Γ.cls c).bind fun k => k.meths.lookup n_eq with
    | some f => if isiV Γ st y (.own c) = some false ∨ (objv st y).map (·.1) = some c then (Γ.call f [x, y] st).hush.bind fun r st => (match r with
        | .bl b => .ok (.bl (b != neg)) st
        | _ => .bad) else .bad
    | none => .bad) else .bad
  | none => .bad
def eqOE (Γ : Ctx) (c : Nat) (neg : Bool) (s t : Sem) : Sem := .of (two s t (eqOV Γ c neg))
def newO (d : D) (st : Store) : O D := match d with
  | .lst xs => newV xs st
  | _ => .bad
def nwE (s : Sem) : Sem := Sem.of fun env st => (s.val env st).bind newO
def runF (np ns : Nat) (s : StS) : Fd := fun ds st => if ds.length = np then (match s (ds.map Sl.v ++ List.replicate (ns - ds.length) .em) st with
    | .rt d st => .ok d st
    | .nx _ st => .ok .non st
    | .ex _ c fs st => .ex c fs st
    | _ => .bad) else .bad
end G
/-! The engine's relations: data and what stands in the abstract heap. -/
namespace G
open PySem PySem.Spec PyProof.Rows
open L2 (V Hp HO upd SqL SqT Rd)

/-- where the classes stand, what the names are called -/
structure Tb where
  K : PySem.W.Frag
  cls : Nat → Addr
  exc : Nat → Addr
  nm : Nm → PySem.Str
  flds : Nat → List Nm
  tabs : List (Addr × PySem.Str)
  /-- the exception that is handled: where, its dict, its class, its attributes -/
  hx : Option (Addr × Option Addr × Nat × List Nm)
/-- a code object's table, at P: what it tells bears the name q -/
def TabG (H : Hp) (ρ : List Addr) (P : Addr) (q : PySem.Str) : Prop := ∃ ps : Array Value, H P = some (.tbl ps) ∧ TriplesOk ps.toList ∧ ∀ (pos : Pos) (cv : Value), codeAmong pos ps.toList = some cv → ∃ c, cv = .ref c ∧ H c = some (LamX.CodeO c q) ∧ c ∉ ρ

/-- a list of another's: the script -/
def StL (K : PySem.W.Frag) (H : Hp) (ρ : List Addr) (a : Addr) (vs : List V) : Prop := ((∃ o, H a = some (.frz o (.lst vs))) ∧ a ∉ ρ) ∨ ∀ H' : Hp, SqL K H' a vs
def StT (K : PySem.W.Frag) (H : Hp) (ρ : List Addr) (a : Addr) (vs : List V) : Prop := (Rd H a (.tup vs) ∧ a ∉ ρ) ∨ ∀ H' : Hp, SqT K H' a vs
theorem StL.sq {K : PySem.W.Frag} {H : Hp} {ρ : List Addr} {a : Addr} {vs : List V} (h : StL K H ρ a vs) : SqL K H a vs := h.elim (fun x => .inl (.inr x.1)) fun x => x H
theorem StT.sq {K : PySem.W.Frag} {H : Hp} {ρ : List Addr} {a : Addr} {vs : List V} (h : StT K H ρ a vs) : SqT K H a vs := h.elim (fun x => .inl x.1) fun x => x H

/-- a dict's key -/
def keyD : L2.Key → D
  | .inl i => .int i
  | .inr x => .str x.cps.toList
mutual
/-- v stands for the data d: nothing in it is changed while neither the places ρ of the store nor those of Ow are -/
inductive RV (T : Tb) (H : Hp) (ρ Ow : List Addr) : V → D → Prop
  | non : RV T H ρ Ow .non .non
  | bl (b : Bool) : RV T H ρ Ow (.bl b) (.bl b)
  | int (i : Int) : RV T H ρ Ow (.int i) (.int i)
  | str (s : List Nat) (h : s.length ≤ LIM) (c : s.all okCode = true) : RV T H ρ Ow (.str ⟨s.toArray⟩) (.str s)
  | tup {a : Addr} {vs : List V} {ds : List D} (q : StT T.K H ρ a vs) (z : vs.length ≤ LIM) (r : RVs T H ρ Ow vs ds) : RV T H ρ Ow (.ref a) (.tup ds)
  | lst {a : Addr} {vs : List V} {ds : List D} (q : H a = some (.lst vs)) (n1 : a ∉ ρ) (n2 : a ∉ Ow) (z : vs.length ≤ LIM) (r : RVs T H ρ Ow vs ds) : RV T H ρ Ow (.ref a) (.lst ds)
  | fl {a : Addr} {vs : List V} {ds : List D} (q : StL T.K H ρ a vs) (z : vs.length ≤ LIM) (r : RVs T H ρ Ow vs ds) : RV T H ρ Ow (.ref a) (.fl ds)
  | loc {a : Addr} {l : Nat} (h : ρ[l + T.tabs.length]? = some a) : RV T H ρ Ow (.ref a) (.loc l)
  | obj {a dx : Addr} {c : Nat} {vs : List V} {ds : List D} (q : H a = some (.ins (T.cls c) dx (((T.flds c).map T.nm).zip vs))) (n1 : a ∉ ρ) (n2 : a ∉ Ow) (z : vs.length = (T.flds c).length) (r : RVs T H ρ Ow vs ds) : RV T H ρ Ow (.ref a) (.obj c ds)
  | dct {a : Addr} {kvs : List (L2.Key × V)} {ks vs : List D} (q : H a = some (.dK kvs)) (n1 : a ∉ ρ) (n2 : a ∉ Ow) (hk : ks = kvs.map fun p => keyD p.1) (r : RVs T H ρ Ow (kvs.map (·.2)) vs) : RV T H ρ Ow (.ref a) (.dct ks vs)
  | cls (c : Nat) : RV T H ρ Ow (.ref (T.cls c)) (.cls c)
inductive RVs (T : Tb) (H : Hp) (ρ Ow : List Addr) : List V → List D → Prop
  | nil : RVs T H ρ Ow [] []
  | cons {v : V} {vs : List V} {d : D} {ds : List D} (r : RV T H ρ Ow v d) (rs : RVs T H ρ Ow vs ds) : RVs T H ρ Ow (v :: vs) (d :: ds)
end
/-- from one heap to a later one: what stands outside the store is kept -/
structure Ext (H : Hp) (ρ : List Addr) (H' : Hp) (ρ' : List Addr) : Prop where
  keep : ∀ a o, H a = some o → a ∉ ρ → H' a = some o ∧ a ∉ ρ'
  pre : ∃ more, ρ' = ρ ++ more
theorem Ext.refl (H : Hp) (ρ : List Addr) : Ext H ρ H ρ := ⟨fun _ _ h n => ⟨h, n⟩, [], by simp⟩
theorem Ext.trans {H H1 H2 : Hp} {ρ ρ1 ρ2 : List Addr} (a : Ext H ρ H1 ρ1) (b : Ext H1 ρ1 H2 ρ2) : Ext H ρ H2 ρ2 := by
  refine ⟨fun c o h n => ?_, ?_⟩
  · obtain ⟨h1, n1⟩ := a.keep c o h n
    exact b.keep c o h1 n1
  · obtain ⟨m1, rfl⟩ := a.pre
    obtain ⟨m2, rfl⟩ := b.pre
    exact ⟨m1 ++ m2, by simp⟩
/-- a new object -/
theorem Ext.new {H : Hp} {ρ : List Addr} {p : Addr} {o : HO} (hp : H p = none) : Ext H ρ (upd H p o) ρ :=
  ⟨fun a u h n => ⟨by rw [L2.upd_ne (L2.ne_of_none h hp)]; exact h, n⟩, [], by simp⟩
theorem Ext.newS {H : Hp} {ρ : List Addr} {p : Addr} {o : HO} (hp : H p = none) : Ext H ρ (upd H p o) (ρ ++ [p]) :=
  ⟨fun a u h n => ⟨by rw [L2.upd_ne (L2.ne_of_none h hp)]; exact h, by
    intro hm
    rcases List.mem_append.mp hm with hm | hm
    · exact n hm
    · rw [List.mem_singleton.mp hm, hp] at h; cases h⟩, [p], rfl⟩
/-- an object of the store is changed -/
theorem Ext.set {H : Hp} {ρ : List Addr} {a : Addr} {o : HO} (ha : a ∈ ρ) : Ext H ρ (upd H a o) ρ :=
  ⟨fun b u h n => ⟨by rw [L2.upd_ne (fun e => n (by rw [e]; exact ha))]; exact h, n⟩, [], by simp⟩

section
variable {T : Tb} {H H' : Hp} {ρ ρ' Ow Ow' : List Addr}
theorem Rd.ext (e : Ext H ρ H' ρ') {a : Addr} {u : HO} (q : Rd H a u) (n : a ∉ ρ) : Rd H' a u ∧ a ∉ ρ' := by
  rcases q with q | ⟨o, q⟩
  · exact ⟨.inl (e.keep _ _ q n).1, (e.keep _ _ q n).2⟩
  · exact ⟨.inr ⟨o, (e.keep _ _ q n).1⟩, (e.keep _ _ q n).2⟩
theorem StL.ext {K : PySem.W.Frag} (e : Ext H ρ H' ρ') {a : Addr} {vs : List V} (q : StL K H ρ a vs) : StL K H' ρ' a vs := by
  rcases q with ⟨⟨o, q⟩, n⟩ | q
  · obtain ⟨q', n'⟩ := e.keep _ _ q n
    exact .inl ⟨⟨o, q'⟩, n'⟩
  · exact .inr q
theorem StT.ext {K : PySem.W.Frag} (e : Ext H ρ H' ρ') {a : Addr} {vs : List V} (q : StT K H ρ a vs) : StT K H' ρ' a vs := by
  rcases q with ⟨q, n⟩ | q
  · exact .inl (Rd.ext e q n)
  · exact .inr q
mutual
theorem RV.ext (e : Ext H ρ H' ρ') : ∀ {d : D} {v : V}, RV T H ρ Ow v d → RV T H' ρ' Ow v d
  | _, _, .non => .non
  | _, _, .bl b => .bl b
  | _, _, .int i => .int i
  | _, _, .str s h c => .str s h c
  | _, _, .tup q z r => .tup (q.ext e) z (RVs.ext e r)
  | _, _, .lst q n1 n2 z r => .lst (e.keep _ _ q n1).1 (e.keep _ _ q n1).2 n2 z (RVs.ext e r)
  | _, _, .fl q z r => .fl (q.ext e) z (RVs.ext e r)
  | _, _, .loc h => .loc (by
      obtain ⟨m, rfl⟩ := e.pre
      rw [List.getElem?_append_left (List.getElem?_eq_some_iff.mp h).1]; exact h)
  | _, _, .obj q n1 n2 z r => .obj (e.keep _ _ q n1).1 (e.keep _ _ q n1).2 n2 z (RVs.ext e r)
  | _, _, .dct q n1 n2 hk r => .dct (e.keep _ _ q n1).1 (e.keep _ _ q n1).2 n2 hk (RVs.ext e r)
  | _, _, .cls c => .cls c
theorem RVs.ext (e : Ext H ρ H' ρ') : ∀ {ds : List D} {vs : List V}, RVs T H ρ Ow vs ds → RVs T H' ρ' Ow vs ds
  | _, _, .nil => .nil
  | _, _, .cons r rs => .cons (RV.ext e r) (RVs.ext e rs)
end
mutual
/-- fewer, or other, places of slots: none of them is in it -/
theorem RV.ow (h : ∀ a, H a ≠ none → a ∉ ρ → a ∉ Ow → a ∉ Ow') : ∀ {d : D} {v : V}, RV T H ρ Ow v d → RV T H ρ Ow' v d
  | _, _, .non => .non
  | _, _, .bl b => .bl b
  | _, _, .int i => .int i
  | _, _, .str s h c => .str s h c
  | _, _, .tup q z r => .tup q z (RVs.ow h r)
  | _, _, .lst q n1 n2 z r => .lst q n1 (h _ (by rw [q]; simp) n1 n2) z (RVs.ow h r)
  | _, _, .fl q z r => .fl q z (RVs.ow h r)
  | _, _, .loc q => .loc q
  | _, _, .obj q n1 n2 z r => .obj q n1 (h _ (by rw [q]; simp) n1 n2) z (RVs.ow h r)
  | _, _, .dct q n1 n2 hk r => .dct q n1 (h _ (by rw [q]; simp) n1 n2) hk (RVs.ow h r)
  | _, _, .cls c => .cls c
theorem RVs.ow (h : ∀ a, H a ≠ none → a ∉ ρ → a ∉ Ow → a ∉ Ow') : ∀ {ds : List D} {vs : List V}, RVs T H ρ Ow vs ds → RVs T H ρ Ow' vs ds
  | _, _, .nil => .nil
  | _, _, .cons r rs => .cons (RV.ow h r) (RVs.ow h rs)
end
theorem RV.weak {d : D} {v : V} (r : RV T H ρ Ow v d) : RV T H ρ [] v d := r.ow fun _ _ _ _ h => by cases h
theorem RVs.weak {d : List D} {v : List V} (r : RVs T H ρ Ow v d) : RVs T H ρ [] v d := r.ow fun _ _ _ _ h => by cases h
/-- a place that is new is in nothing -/
theorem RV.new {d : D} {v : V} {p : Addr} (hp : H p = none) (r : RV T H ρ Ow v d) : RV T H ρ (p :: Ow) v d := r.ow fun a h _ n hm => by
  rcases List.mem_cons.mp hm with e | hm
  · rw [e] at h; exact h hp
  · exact n hm
theorem RVs.new {d : List D} {v : List V} {p : Addr} (hp : H p = none) (r : RVs T H ρ Ow v d) : RVs T H ρ (p :: Ow) v d := r.ow fun a h _ n hm => by
  rcases List.mem_cons.mp hm with e | hm
  · rw [e] at h; exact h hp
  · exact n hm
theorem RVs.length : ∀ {ds : List D} {vs : List V}, RVs T H ρ Ow vs ds → vs.length = ds.length
  | _, _, .nil => rfl
  | _, _, .cons _ rs => by simp [RVs.length rs]
theorem RVs.get : ∀ {ds : List D} {vs : List V} {i : Nat} {d : D}, RVs T H ρ Ow vs ds → ds[i]? = some d → ∃ v, vs[i]? = some v ∧ RV T H ρ Ow v d
  | _, _, 0, _, .cons r _, e => by simp at e; subst e; exact ⟨_, rfl, r⟩
  | _, _, i + 1, _, .cons _ rs, e => by
    obtain ⟨v, h, r⟩ := RVs.get (i := i) rs (by simpa using e)
    exact ⟨v, by simpa using h, r⟩
theorem RVs.append : ∀ {ds es : List D} {vs us : List V}, RVs T H ρ Ow vs ds → RVs T H ρ Ow us es → RVs T H ρ Ow (vs ++ us) (ds ++ es)
  | _, _, _, _, .nil, s => s
  | _, _, _, _, .cons r rs, s => .cons r (RVs.append rs s)
theorem RVs.set {v : V} {d : D} (r : RV T H ρ Ow v d) : ∀ {ds : List D} {vs : List V} (i : Nat), RVs T H ρ Ow vs ds → RVs T H ρ Ow (vs.set i v) (ds.set i d)
  | _, _, _, .nil => .nil
  | _, _, 0, .cons _ rs => .cons r rs
  | _, _, i + 1, .cons q rs => .cons q (RVs.set r i rs)
theorem RVs.take : ∀ {ds : List D} {vs : List V} (i : Nat), RVs T H ρ Ow vs ds → RVs T H ρ Ow (vs.take i) (ds.take i)
  | _, _, 0, _ => by simp only [List.take_zero]; exact .nil
  | _, _, _ + 1, .nil => .nil
  | _, _, i + 1, .cons q rs => .cons q (RVs.take i rs)
theorem RVs.drop : ∀ {ds : List D} {vs : List V} (i : Nat), RVs T H ρ Ow vs ds → RVs T H ρ Ow (vs.drop i) (ds.drop i)
  | _, _, 0, r => r
  | _, _, _ + 1, .nil => .nil
  | _, _, i + 1, .cons _ rs => RVs.drop i rs
theorem RVs.reverse {ds : List D} {vs : List V} (h : RVs T H ρ Ow vs ds) : RVs T H ρ Ow vs.reverse ds.reverse := by
  induction ds generalizing vs with
  | nil => cases h; exact .nil
  | cons d ds ih =>
    cases h with
    | cons r rs =>
      rw [List.reverse_cons, List.reverse_cons]
      exact (ih rs).append (.cons r .nil)
end

/-- from one heap to a later one, where slots hold lists of their own -/
structure Keeps (H : Hp) (ρ Ow : List Addr) (H' : Hp) (ρ' Ow' : List Addr) : Prop where
  keep : ∀ a o, H a = some o → a ∉ ρ → a ∉ Ow → H' a = some o ∧ a ∉ ρ' ∧ a ∉ Ow'
  pre : ∃ more, ρ' = ρ ++ more
section
variable {T : Tb} {H H' H1 H2 : Hp} {ρ ρ' ρ1 ρ2 Ow Ow' Ow1 Ow2 : List Addr}
theorem Keeps.refl (H : Hp) (ρ Ow : List Addr) : Keeps H ρ Ow H ρ Ow := ⟨fun _ _ h n m => ⟨h, n, m⟩, [], by simp⟩
theorem Keeps.trans (a : Keeps H ρ Ow H1 ρ1 Ow1) (b : Keeps H1 ρ1 Ow1 H2 ρ2 Ow2) : Keeps H ρ Ow H2 ρ2 Ow2 := by
  refine ⟨fun c o h n m => ?_, ?_⟩
  · obtain ⟨h1, n1, m1⟩ := a.keep c o h n m
    exact b.keep c o h1 n1 m1
  · obtain ⟨m1, rfl⟩ := a.pre
    obtain ⟨m2, rfl⟩ := b.pre
    exact ⟨m1 ++ m2, by simp⟩
theorem Ext.keeps (e : Ext H ρ H' ρ') (Ow : List Addr) : Keeps H ρ Ow H' ρ' Ow := ⟨fun a o h n m => ⟨(e.keep a o h n).1, (e.keep a o h n).2, m⟩, e.pre⟩
theorem Rd.keeps (e : Keeps H ρ Ow H' ρ' Ow') {a : Addr} {u : HO} (q : Rd H a u) (n : a ∉ ρ) (m : a ∉ Ow) : Rd H' a u ∧ a ∉ ρ' ∧ a ∉ Ow' := by
  rcases q with q | ⟨o, q⟩
  · exact ⟨.inl (e.keep _ _ q n m).1, (e.keep _ _ q n m).2⟩
  · exact ⟨.inr ⟨o, (e.keep _ _ q n m).1⟩, (e.keep _ _ q n m).2⟩
theorem Rd.notList (hl : ∀ a ∈ Ow, ∃ vs, H a = some (.lst vs)) {a : Addr} {vs : List V} (q : Rd H a (.tup vs)) : a ∉ Ow := fun h => by
  obtain ⟨us, z⟩ := hl a h
  rcases q with q | ⟨o, q⟩ <;> rw [z] at q <;> cases q
mutual
theorem RV.keeps (e : Keeps H ρ Ow H' ρ' Ow') (hl : ∀ a ∈ Ow, ∃ vs, H a = some (.lst vs)) : ∀ {d : D} {v : V}, RV T H ρ Ow v d → RV T H' ρ' Ow' v d
  | _, _, .non => .non
  | _, _, .bl b => .bl b
  | _, _, .int i => .int i
  | _, _, .str s h c => .str s h c
  | _, _, .tup q z r => .tup (by
      rcases q with ⟨q, n⟩ | q
      · obtain ⟨q1, q2, _⟩ := Rd.keeps e q n (Rd.notList hl q)
        exact .inl ⟨q1, q2⟩
      · exact .inr q) z (RVs.keeps e hl r)
  | _, _, .lst q n1 n2 z r => .lst (e.keep _ _ q n1 n2).1 (e.keep _ _ q n1 n2).2.1 (e.keep _ _ q n1 n2).2.2 z (RVs.keeps e hl r)
  | _, _, .fl q z r => .fl (by
      rcases q with ⟨⟨o, q⟩, n⟩ | q
      · have m : _ ∉ Ow := fun hm => by
          obtain ⟨us, z⟩ := hl _ hm
          rw [q] at z; cases z
        exact .inl ⟨⟨o, (e.keep _ _ q n m).1⟩, (e.keep _ _ q n m).2.1⟩
      · exact .inr q) z (RVs.keeps e hl r)
  | _, _, .loc h => .loc (by
      obtain ⟨m, rfl⟩ := e.pre
      rw [List.getElem?_append_left (List.getElem?_eq_some_iff.mp h).1]; exact h)
  | _, _, .obj q n1 n2 z r => .obj (e.keep _ _ q n1 n2).1 (e.keep _ _ q n1 n2).2.1 (e.keep _ _ q n1 n2).2.2 z (RVs.keeps e hl r)
  | _, _, .dct q n1 n2 hk r => .dct (e.keep _ _ q n1 n2).1 (e.keep _ _ q n1 n2).2.1 (e.keep _ _ q n1 n2).2.2 hk (RVs.keeps e hl r)
  | _, _, .cls c => .cls c
theorem RVs.keeps (e : Keeps H ρ Ow H' ρ' Ow') (hl : ∀ a ∈ Ow, ∃ vs, H a = some (.lst vs)) : ∀ {ds : List D} {vs : List V}, RVs T H ρ Ow vs ds → RVs T H' ρ' Ow' vs ds
  | _, _, .nil => .nil
  | _, _, .cons r rs => .cons (RV.keeps e hl r) (RVs.keeps e hl rs)
end
end
/-- an object of the store, l-th, stands at a -/
def ObR (T : Tb) (H : Hp) (ρ Ow : List Addr) (l : Nat) (a : Addr) : Obj → Prop
  | .lst ds => ltLocs l ds = true ∧ ∃ vs, H a = some (.lst vs) ∧ vs.length ≤ LIM ∧ RVs T H ρ Ow vs ds
  | .ins c fs => ltLocs l (fs.map (·.2)) = true ∧ ∃ dx vs, H a = some (.ins (T.cls c) dx ((fs.map fun p => T.nm p.1).zip vs)) ∧ vs.length = fs.length ∧ fs.length ≤ 100 ∧ RVs T H ρ Ow vs (fs.map (·.2))
structure StR (T : Tb) (H : Hp) (ρ Ow : List Addr) (st : Store) : Prop where
  len : ρ.length = st.length + T.tabs.length
  nd : ρ.Nodup
  apart : ∀ a ∈ ρ, a ∉ Ow
  lists : ∀ a ∈ Ow, ∃ vs, H a = some (.lst vs)
  at_ : ∀ (l : Nat) (a : Addr) (o : Obj), ρ[l + T.tabs.length]? = some a → st[l]? = some o → ObR T H ρ Ow l a o
  tab : ∀ (i : Nat) (p : Addr × PySem.Str), T.tabs[i]? = some p → ρ[i]? = some p.1 ∧ TabG H ρ p.1 p.2
/-- what an exception keeps -/
def XcR (T : Tb) (H : Hp) (ρ Ow : List Addr) (dx : Option Addr) (fl : List Nm) (fs : List D) : Prop := match fl, fs, dx with
  | [], [], none => True
  | [f], [d], some x => ∃ v, H x = some (.xd [(T.nm f, v)]) ∧ x ∉ ρ ∧ x ∉ Ow ∧ RV T H ρ Ow v d
  | _, _, _ => False
/-- a slot -/
def SlR (T : Tb) (H : Hp) (ρ Ow : List Addr) : Option (Option V) → Sl → Prop
  | _, .em => True
  | some (some v), .v d => RV T H ρ Ow v d
  | some (some (.ref a)), .own ds => a ∈ Ow ∧ ∃ vs, H a = some (.lst vs) ∧ vs.length ≤ LIM ∧ RVs T H ρ Ow vs ds
  | some (some (.ref a)), .xc c fs => ∃ dx fl, T.hx = some (a, dx, c, fl) ∧ XcR T H ρ Ow dx fl fs
  | _, _ => False
section
variable {T : Tb} {H H' : Hp} {ρ ρ' Ow Ow' : List Addr} {dx : Option Addr} {fl : List Nm} {fs : List D} {z : Option (Addr × Option Addr × Nat × List Nm)}
theorem XcR.imp {T' : Tb} (hn : T'.nm = T.nm) (h : ∀ x u, H x = some u → (∀ vs, u ≠ .lst vs) → x ∉ ρ → x ∉ Ow → H' x = some u ∧ x ∉ ρ' ∧ x ∉ Ow') (hr : ∀ v d, RV T H ρ Ow v d → RV T' H' ρ' Ow' v d) (q : XcR T H ρ Ow dx fl fs) : XcR T' H' ρ' Ow' dx fl fs := by
  unfold XcR at q ⊢
  split at q
  · trivial
  · obtain ⟨v, h1, h2, h3, r⟩ := q
    obtain ⟨g1, g2, g3⟩ := h _ _ h1 (fun vs e => by cases e) h2 h3
    exact ⟨v, by rw [hn]; exact g1, g2, g3, hr _ _ r⟩
  · exact q.elim
theorem XcR.ext (e : Ext H ρ H' ρ') (q : XcR T H ρ Ow dx fl fs) : XcR T H' ρ' Ow dx fl fs := q.imp rfl (fun x u h _ n1 n2 => ⟨(e.keep _ _ h n1).1, (e.keep _ _ h n1).2, n2⟩) fun _ _ r => r.ext e
theorem XcR.ow (h : ∀ a, H a ≠ none → a ∉ ρ → a ∉ Ow → a ∉ Ow') (q : XcR T H ρ Ow dx fl fs) : XcR T H ρ Ow' dx fl fs := q.imp rfl (fun x u e _ n1 n2 => ⟨e, n1, h _ (by rw [e]; simp) n1 n2⟩) fun _ _ r => r.ow h
theorem XcR.keeps (e : Keeps H ρ Ow H' ρ' Ow') (hl : ∀ a ∈ Ow, ∃ vs, H a = some (.lst vs)) (q : XcR T H ρ Ow dx fl fs) : XcR T H' ρ' Ow' dx fl fs := q.imp rfl (fun x u h _ n1 n2 => e.keep _ _ h n1 n2) fun _ _ r => r.keeps e hl
mutual
/-- another exception is handled -/
theorem RV.hx : ∀ {d : D} {v : V}, RV T H ρ Ow v d → RV { T with hx := z } H ρ Ow v d
  | _, _, .non => .non
  | _, _, .bl b => .bl b
  | _, _, .int i => .int i
  | _, _, .str s h c => .str s h c
  | _, _, .tup q z r => .tup q z (RVs.hx r)
  | _, _, .lst q n1 n2 z r => .lst q n1 n2 z (RVs.hx r)
  | _, _, .fl q z r => .fl q z (RVs.hx r)
  | _, _, .loc h => .loc (T := { T with hx := _ }) h
  | _, _, .obj q n1 n2 z r => .obj (T := { T with hx := _ }) q n1 n2 z (RVs.hx r)
  | _, _, .dct q n1 n2 hk r => .dct q n1 n2 hk (RVs.hx r)
  | _, _, .cls c => .cls (T := { T with hx := _ }) c
theorem RVs.hx : ∀ {ds : List D} {vs : List V}, RVs T H ρ Ow vs ds → RVs { T with hx := z } H ρ Ow vs ds
  | _, _, .nil => .nil
  | _, _, .cons r rs => .cons (RV.hx r) (RVs.hx rs)
end
theorem RV.unhx {d : D} {v : V} (r : RV { T with hx := z } H ρ Ow v d) : RV T H ρ Ow v d := RV.hx (T := { T with hx := z }) (z := T.hx) r
theorem RVs.unhx {d : List D} {v : List V} (r : RVs { T with hx := z } H ρ Ow v d) : RVs T H ρ Ow v d := RVs.hx (T := { T with hx := z }) (z := T.hx) r
theorem XcR.hx (q : XcR T H ρ Ow dx fl fs) : XcR { T with hx := z } H ρ Ow dx fl fs := XcR.imp (T := T) (T' := { T with hx := z }) rfl (fun x u h _ n1 n2 => ⟨h, n1, n2⟩) (fun _ _ r => r.hx) q
theorem StR.hx {st : Store} (s : StR T H ρ Ow st) : StR { T with hx := z } H ρ Ow st :=
  ⟨s.len, s.nd, s.apart, s.lists, fun l a o h1 h2 => by
    have q := s.at_ l a o h1 h2
    cases o with
    | lst ds =>
      obtain ⟨p, vs, h, z, r⟩ := q
      exact ⟨p, vs, h, z, r.hx⟩
    | ins c fs =>
      obtain ⟨p, dx, vs, h, z, z2, r⟩ := q
      exact ⟨p, dx, vs, h, z, z2, r.hx⟩, s.tab⟩
theorem StR.unhx {st : Store} (s : StR { T with hx := z } H ρ Ow st) : StR T H ρ Ow st := StR.hx (T := { T with hx := z }) (z := T.hx) s
end
structure EnR (T : Tb) (H : Hp) (ρ Ow : List Addr) (σ : L2.St) (env : Env) : Prop where
  len : env.length = σ.length
  at_ : ∀ (i : Nat) (s : Sl), env[i]? = some s → SlR T H ρ Ow σ[i]? s
  apart : ∀ (i j : Nat) (xs ys : List D) (a : Addr), env[i]? = some (.own xs) → env[j]? = some (.own ys) → σ[i]? = some (some (.ref a)) → σ[j]? = some (some (.ref a)) → i = j
end G
/-! The engine: what is wanted behind an outcome; the judgement of an expression. -/
namespace G
open PySem PySem.Spec PyProof.Rows
open L2 (V Hp HO upd SqL SqT Rd VK TE TT TA TI WX XK Cx PE PT PA PI)

section
variable {T : Tb} {H H' : Hp} {ρ ρ' Ow Ow' : List Addr}
theorem ObR.ext (e : Ext H ρ H' ρ') {l : Nat} {a : Addr} {o : Obj} (k : H' a = H a) (r : ObR T H ρ Ow l a o) : ObR T H' ρ' Ow l a o := by
  cases o with
  | lst ds =>
    obtain ⟨p, vs, h, z, r⟩ := r
    exact ⟨p, vs, by rw [k]; exact h, z, r.ext e⟩
  | ins c fs =>
    obtain ⟨p, dx, vs, h, z, z2, r⟩ := r
    exact ⟨p, dx, vs, by rw [k]; exact h, z, z2, r.ext e⟩
theorem TabG.ext {P : Addr} {q : PySem.Str} (e : Ext H ρ H' ρ') (k : H' P = H P) (t : TabG H ρ P q) : TabG H' ρ' P q := by
  obtain ⟨ps, h1, h2, h3⟩ := t
  refine ⟨ps, by rw [k]; exact h1, h2, fun pos cv h => ?_⟩
  obtain ⟨c, e1, e2, e3⟩ := h3 pos cv h
  exact ⟨c, e1, (e.keep c _ e2 e3).1, (e.keep c _ e2 e3).2⟩
theorem codeO_list {c : Addr} {q : PySem.Str} {vs : List V} : some (LamX.CodeO c q) ≠ some (HO.lst vs) := fun z => by
  unfold LamX.CodeO at z
  cases z
theorem TabG.keeps {P : Addr} {q : PySem.Str} (e : Keeps H ρ Ow H' ρ' Ow') (hl : ∀ a ∈ Ow, ∃ vs, H a = some (.lst vs)) (k : H' P = H P) (t : TabG H ρ P q) : TabG H' ρ' P q := by
  obtain ⟨ps, h1, h2, h3⟩ := t
  refine ⟨ps, by rw [k]; exact h1, h2, fun pos cv h => ?_⟩
  obtain ⟨c, e1, e2, e3⟩ := h3 pos cv h
  have n : c ∉ Ow := fun hm => by
    obtain ⟨vs, z⟩ := hl c hm
    rw [e2] at z
    exact codeO_list z
  exact ⟨c, e1, (e.keep c _ e2 e3 n).1, (e.keep c _ e2 e3 n).2.1⟩
theorem TabG.there {P : Addr} {q : PySem.Str} (t : TabG H ρ P q) : H P ≠ none := by
  obtain ⟨ps, h1, _⟩ := t
  rw [h1]; simp
theorem TabG.notList {P : Addr} {q : PySem.Str} (t : TabG H ρ P q) {vs : List V} : H P ≠ some (.lst vs) := by
  obtain ⟨ps, h1, _⟩ := t
  rw [h1]; exact fun z => by cases z
theorem TabG.notIns {P : Addr} {q : PySem.Str} (t : TabG H ρ P q) {c dx : Addr} {fs : List (PySem.Str × V)} : H P ≠ some (.ins c dx fs) := by
  obtain ⟨ps, h1, _⟩ := t
  rw [h1]; exact fun z => by cases z
/-- a new object beside the store -/
theorem StR.new {st : Store} {p : Addr} {o : HO} (hp : H p = none) (r : StR T H ρ Ow st) : StR T (upd H p o) ρ Ow st :=
  ⟨r.len, r.nd, r.apart, fun a ha => by
    obtain ⟨vs, q⟩ := r.lists a ha
    exact ⟨vs, by rw [L2.upd_ne (L2.ne_of_none q hp)]; exact q⟩, fun l a ob h1 h2 => (r.at_ l a ob h1 h2).ext (Ext.new hp) (by
    have q := r.at_ l a ob h1 h2
    have hn : H a ≠ none := by
      cases ob with
      | lst ds => obtain ⟨_, vs, h, _⟩ := q; rw [h]; simp
      | ins c fs => obtain ⟨_, dx, vs, h, _⟩ := q; rw [h]; simp
    exact L2.upd_ne (fun e => hn (by rw [e]; exact hp))), fun i q h => by
    obtain ⟨h1, h2⟩ := r.tab i q h
    exact ⟨h1, h2.ext (Ext.new hp) (L2.upd_ne fun e => h2.there (by rw [e]; exact hp))⟩⟩
theorem StR.there {st : Store} (r : StR T H ρ Ow st) {l : Nat} {a : Addr} (h : ρ[l]? = some a) : ∃ o, H a = some o := by
  have hl0 := (List.getElem?_eq_some_iff.mp h).1
  rw [r.len] at hl0
  by_cases hk : l < T.tabs.length
  · obtain ⟨h1, ps, h2, _⟩ := r.tab l _ (List.getElem?_eq_getElem hk)
    rw [h] at h1
    cases h1
    exact ⟨_, h2⟩
  obtain ⟨l, rfl⟩ : ∃ m, l = m + T.tabs.length := ⟨l - T.tabs.length, by omega⟩
  have hl : l < st.length := by omega
  have q := r.at_ l a _ h (List.getElem?_eq_getElem hl)
  cases e : st[l] with
  | lst ds => rw [e] at q; obtain ⟨_, vs, h, _⟩ := q; exact ⟨_, h⟩
  | ins c fs => rw [e] at q; obtain ⟨_, dx, vs, h, _⟩ := q; exact ⟨_, h⟩
theorem StR.mem {st : Store} (r : StR T H ρ Ow st) {a : Addr} (h : a ∈ ρ) : ∃ o, H a = some o := by
  obtain ⟨l, hl⟩ := List.getElem?_of_mem h
  exact r.there hl
/-- places of slots that are none of the store's -/
theorem StR.ow {st : Store} (r : StR T H ρ Ow st) (h : ∀ a, H a ≠ none → a ∉ ρ → a ∉ Ow → a ∉ Ow') (h2 : ∀ a ∈ ρ, a ∉ Ow') (h3 : ∀ a ∈ Ow', ∃ vs, H a = some (.lst vs)) : StR T H ρ Ow' st :=
  ⟨r.len, r.nd, h2, h3, fun l a ob h1 q => by
    have z := r.at_ l a ob h1 q
    cases ob with
    | lst ds => obtain ⟨p, vs, h', z, r⟩ := z; exact ⟨p, vs, h', z, r.ow h⟩
    | ins c fs => obtain ⟨p, dx, vs, h', z, z2, r⟩ := z; exact ⟨p, dx, vs, h', z, z2, r.ow h⟩, r.tab⟩
theorem ObR.new {l : Nat} {a p : Addr} {o : Obj} (hp : H p = none) (r : ObR T H ρ Ow l a o) : ObR T H ρ (p :: Ow) l a o := by
  cases o with
  | lst ds =>
    obtain ⟨q, vs, h, z, r⟩ := r
    exact ⟨q, vs, h, z, r.new hp⟩
  | ins c fs =>
    obtain ⟨q, dx, vs, h, z, z2, r⟩ := r
    exact ⟨q, dx, vs, h, z, z2, r.new hp⟩
theorem ObR.there {l : Nat} {a : Addr} {o : Obj} (r : ObR T H ρ Ow l a o) : H a ≠ none := by
  cases o with
  | lst ds => obtain ⟨_, vs, h, _⟩ := r; rw [h]; simp
  | ins c fs => obtain ⟨_, dx, vs, h, _⟩ := r; rw [h]; simp
/-- a new list that a slot will hold -/
theorem StR.newOw {st : Store} {p : Addr} {vs : List V} (hp : H p = none) (r : StR T H ρ Ow st) : StR T (upd H p (.lst vs)) ρ (p :: Ow) st := by
  refine ⟨r.len, r.nd, fun a ha hm => ?_, fun a hm => ?_, fun l a ob h1 h2 => ?_, (r.new hp).tab⟩
  · rcases List.mem_cons.mp hm with e | hm
    · obtain ⟨o, q⟩ := r.mem ha
      rw [e, hp] at q; cases q
    · exact r.apart a ha hm
  · rcases List.mem_cons.mp hm with e | hm
    · exact ⟨vs, by rw [e, L2.upd_same]⟩
    · exact (r.new hp).lists a hm
  · have q := r.at_ l a ob h1 h2
    exact (q.new hp).ext (Ext.new hp) (L2.upd_ne fun e => q.there (by rw [e]; exact hp))
theorem EnR.ext {σ : L2.St} {env : Env} (e : Ext H ρ H' ρ') (hd : ∀ a ∈ Ow, a ∉ ρ) (r : EnR T H ρ Ow σ env) : EnR T H' ρ' Ow σ env := by
  refine ⟨r.len, fun i s h => ?_, r.apart⟩
  have q := r.at_ i s h
  cases s with
  | em => cases σ[i]? with
    | none => trivial
    | some o => cases o <;> trivial
  | v d =>
    cases hs : σ[i]? with
    | none => rw [hs] at q; exact q.elim
    | some o =>
      rw [hs] at q
      cases o with
      | none => exact q.elim
      | some v =>
        have q' : RV T H ρ Ow v d := q
        exact q'.ext e
  | own ds =>
    cases hs : σ[i]? with
    | none => rw [hs] at q; exact q.elim
    | some o =>
      rw [hs] at q
      cases o with
      | none => exact q.elim
      | some v =>
        cases v with
        | ref a =>
          obtain ⟨m, vs, h1, z, rs⟩ := (q : a ∈ Ow ∧ ∃ vs, H a = some (.lst vs) ∧ vs.length ≤ LIM ∧ RVs T H ρ Ow vs ds)
          exact ⟨m, vs, (e.keep _ _ h1 (hd a m)).1, z, rs.ext e⟩
        | _ => exact q.elim
  | xc c fs =>
    cases hs : σ[i]? with
    | none => rw [hs] at q; exact q.elim
    | some o =>
      rw [hs] at q
      cases o with
      | none => exact q.elim
      | some v =>
        cases v with
        | ref a =>
          obtain ⟨dx, fl, h1, h2⟩ := (q : ∃ dx fl, T.hx = some (a, dx, c, fl) ∧ XcR T H ρ Ow dx fl fs)
          exact ⟨dx, fl, h1, h2.ext e⟩
        | _ => exact q.elim
theorem StR.disj {st : Store} (r : StR T H ρ Ow st) : ∀ a ∈ Ow, a ∉ ρ := fun a h1 h2 => r.apart a h2 h1
theorem EnR.get {σ : L2.St} {env : Env} (r : EnR T H ρ Ow σ env) {i : Nat} {d : D} (h : env.get i = some d) : ∃ v, σ[i]? = some (some v) ∧ RV T H ρ Ow v d := by
  unfold Env.get at h
  cases e : env[i]? with
  | none => rw [e] at h; cases h
  | some s =>
    rw [e] at h
    cases s with
    | v d' =>
      cases h
      have q := r.at_ i _ e
      cases hs : σ[i]? with
      | none => rw [hs] at q; exact q.elim
      | some o =>
        rw [hs] at q
        cases o with
        | none => exact q.elim
        | some v => exact ⟨v, rfl, q⟩
    | em => cases h
    | own xs => cases h
    | xc c fs => cases h
theorem EnR.xc {σ : L2.St} {env : Env} (r : EnR T H ρ Ow σ env) {i : Nat} {c : Nat} {fs : List D} (e : env[i]? = some (.xc c fs)) : ∃ a dx fl, σ[i]? = some (some (.ref a)) ∧ T.hx = some (a, dx, c, fl) ∧ XcR T H ρ Ow dx fl fs := by
  have q := r.at_ i _ e
  cases hs : σ[i]? with
  | none => rw [hs] at q; exact q.elim
  | some o =>
    rw [hs] at q
    cases o with
    | none => exact q.elim
    | some v =>
      cases v with
      | ref a =>
        obtain ⟨dx, fl, h1, h2⟩ := (q : ∃ dx fl, T.hx = some (a, dx, c, fl) ∧ XcR T H ρ Ow dx fl fs)
        exact ⟨a, dx, fl, rfl, h1, h2⟩
      | _ => exact q.elim
theorem EnR.own {σ : L2.St} {env : Env} (r : EnR T H ρ Ow σ env) {i : Nat} {xs : List D} (e : env[i]? = some (.own xs)) : ∃ a vs, σ[i]? = some (some (.ref a)) ∧ a ∈ Ow ∧ H a = some (.lst vs) ∧ vs.length ≤ LIM ∧ RVs T H ρ Ow vs xs := by
  have q := r.at_ i _ e
  cases hs : σ[i]? with
  | none => rw [hs] at q; exact q.elim
  | some o =>
    rw [hs] at q
    cases o with
    | none => exact q.elim
    | some v =>
      cases v with
      | ref a =>
        obtain ⟨m, vs, h1, z, rs⟩ := (q : a ∈ Ow ∧ ∃ vs, H a = some (.lst vs) ∧ vs.length ≤ LIM ∧ RVs T H ρ Ow vs xs)
        exact ⟨a, vs, rfl, m, h1, z, rs⟩
      | _ => exact q.elim
/-- a value in use, not kept: it may be a slot's own list -/
def RW (T : Tb) (H : Hp) (ρ Ow : List Addr) (v : V) (d : D) : Prop := RV T H ρ Ow v d ∨ ∃ a vs ds, v = .ref a ∧ d = .lst ds ∧ H a = some (.lst vs) ∧ a ∉ ρ ∧ vs.length ≤ LIM ∧ RVs T H ρ Ow vs ds
def RX (str : Bool) (T : Tb) (H : Hp) (ρ Ow : List Addr) (v : V) (d : D) : Prop := match str with
  | true => RV T H ρ Ow v d
  | false => RW T H ρ Ow v d
theorem RX.w {str : Bool} {v : V} {d : D} (r : RX str T H ρ Ow v d) : RW T H ρ Ow v d := by
  cases str with
  | true => exact .inl r
  | false => exact r
theorem RV.x {str : Bool} {v : V} {d : D} (r : RV T H ρ Ow v d) : RX str T H ρ Ow v d := by
  cases str with
  | true => exact r
  | false => exact .inl r
theorem RW.ext {v : V} {d : D} (e : Ext H ρ H' ρ') (r : RW T H ρ Ow v d) : RW T H' ρ' Ow v d := by
  rcases r with r | ⟨a, vs, ds, h1, h2, h3, h4, h5, h6⟩
  · exact .inl (r.ext e)
  · exact .inr ⟨a, vs, ds, h1, h2, (e.keep _ _ h3 h4).1, (e.keep _ _ h3 h4).2, h5, h6.ext e⟩
theorem RX.ext {str : Bool} {v : V} {d : D} (e : Ext H ρ H' ρ') (r : RX str T H ρ Ow v d) : RX str T H' ρ' Ow v d := by
  cases str with
  | true => exact RV.ext e r
  | false => exact RW.ext e r
theorem EnR.pk {σ : L2.St} {env : Env} {st : Store} (r : EnR T H ρ Ow σ env) (s : StR T H ρ Ow st) {i : Nat} {d : D} (h : env.pk i = some d) : ∃ v, σ[i]? = some (some v) ∧ RW T H ρ Ow v d := by
  unfold Env.pk at h
  cases e : env[i]? with
  | none => rw [e] at h; cases h
  | some sl =>
    rw [e] at h
    cases sl with
    | v d' =>
      cases h
      obtain ⟨v, h1, h2⟩ := r.get (i := i) (d := d) (by unfold Env.get; rw [e])
      exact ⟨v, h1, .inl h2⟩
    | em => cases h
    | xc c fs => cases h
    | own xs =>
      cases h
      obtain ⟨a, vs, h1, m, h2, z, rs⟩ := r.own e
      exact ⟨.ref a, h1, .inr ⟨a, vs, xs, rfl, rfl, h2, s.disj a m, z, rs⟩⟩
end

/-! ### exceptions -/
/-- the exception's class and dict -/
def ExR (T : Tb) (xf : Nat → List Nm) (H : Hp) (ρ Ow : List Addr) (cls : Value) (dx : Option Addr) (c : Nat) (fs : List D) : Prop :=
  cls = .ref (T.exc c) ∧ match xf c, fs, dx with
    | [], [], none => True
    | [f], [d], some x => ∃ v, H x = some (.xd [(T.nm f, v)]) ∧ x ∉ ρ ∧ x ∉ Ow ∧ RV T H ρ Ow v d
    | _, _, _ => False

/-! ### outcomes -/
structure Wo where
  T : Tb
  xf : Nat → List Nm
  W : WX
  σ : L2.St
def Post {α : Type} (w : Wo) (H : Hp) (ρ Ow : List Addr) (Q : α → Store → Hp → List Addr → Prop) : O α → Prop
  | .ok a st => ∀ H' ρ', Ext H ρ H' ρ' → StR w.T H' ρ' Ow st → Q a st H' ρ'
  | .ex c fs st => ∀ cls dx H' ρ', Ext H ρ H' ρ' → StR w.T H' ρ' Ow st → ExR w.T w.xf H' ρ' Ow cls dx c fs → w.W cls dx w.σ H'
  | .bad => False
section
variable {w : Wo} {H H1 : Hp} {ρ ρ1 Ow : List Addr} {α β : Type}
theorem Post.later {Q : α → Store → Hp → List Addr → Prop} {o : O α} (e : Ext H ρ H1 ρ1) (h : Post w H ρ Ow Q o) : Post w H1 ρ1 Ow Q o := by
  cases o with
  | ok a st => exact fun H' ρ' e' s => h H' ρ' (e.trans e') s
  | ex c fs st => exact fun cls dx H' ρ' e' s => h cls dx H' ρ' (e.trans e') s
  | bad => exact h
theorem Post.bind {Q : β → Store → Hp → List Addr → Prop} {x : O α} {f : α → Store → O β} (h : Post w H ρ Ow Q (x.bind f)) :
    Post w H ρ Ow (fun a st H1 ρ1 => Post w H1 ρ1 Ow Q (f a st)) x := by
  cases x with
  | ok a st => exact fun H' ρ' e s => Post.later e h
  | ex c fs st => exact h
  | bad => exact h
theorem Post.eqn {Q : α → Store → Hp → List Addr → Prop} {o : O α} (h : Post w H ρ Ow Q o) : Post w H ρ Ow (fun a st H' ρ' => o = .ok a st ∧ Q a st H' ρ') o := by
  cases o with
  | ok a st => exact fun H' ρ' e s => ⟨rfl, h H' ρ' e s⟩
  | ex c fs st => exact h
  | bad => exact h
theorem Post.mono {Q Q' : α → Store → Hp → List Addr → Prop} {o : O α} (h : Post w H ρ Ow Q o) (i : ∀ a st H' ρ', Ext H ρ H' ρ' → StR w.T H' ρ' Ow st → Q a st H' ρ' → Q' a st H' ρ') : Post w H ρ Ow Q' o := by
  cases o with
  | ok a st => exact fun H' ρ' e s => i _ _ _ _ e s (h H' ρ' e s)
  | ex c fs st => exact h
  | bad => exact h
/-- an answer of plain data: nothing happened -/
theorem Post.of {Q : α → Store → Hp → List Addr → Prop} {x : Option α} {st : Store} (s : StR w.T H ρ Ow st) (h : Post w H ρ Ow Q (O.of x st)) : ∃ a, x = some a ∧ Q a st H ρ := by
  cases x with
  | none => exact h.elim
  | some a => exact ⟨a, rfl, h H ρ (Ext.refl _ _) s⟩
theorem Post.ok {Q : α → Store → Hp → List Addr → Prop} {a : α} {st : Store} (s : StR w.T H ρ Ow st) (h : Post w H ρ Ow Q (O.ok a st)) : Q a st H ρ := h H ρ (Ext.refl _ _) s
end

/-! ### the judgement -/
/-- what the readings start from -/
def At {α : Type} (T : Tb) (xf : Nat → List Nm) (W : WX) (f : Env → Store → O α) (Q : α → List Addr → List Addr → Hp → Prop) : L2.St → Hp → Prop := fun σ H =>
  ∃ env st ρ Ow, EnR T H ρ Ow σ env ∧ StR T H ρ Ow st ∧ Post ⟨T, xf, W, σ⟩ H ρ Ow (fun a _ H' ρ' => Q a ρ' Ow H') (f env st)
def tVal (T : Tb) (xf : Nat → List Nm) (W : WX) (str : Bool) (f : Env → Store → O D) : TE := fun σ H Q => At T xf W f (fun d ρ Ow H' => ∀ v, RX str T H' ρ Ow v d → Q v H') σ H
def tTst (T : Tb) (xf : Nat → List Nm) (W : WX) (f : Env → Store → O Bool) : TT := fun σ H Q => At T xf W f (fun b _ _ H' => Q b H') σ H
def tArg (T : Tb) (xf : Nat → List Nm) (W : WX) (f : Env → Store → O (List D)) : TA := fun σ H Q => At T xf W f (fun ds ρ Ow H' => ∀ vs, RVs T H' ρ Ow vs ds → Q vs H') σ H
/-- from a walk's start to a turn -/
def Per (str : Bool) (H : Hp) (ρ Ow : List Addr) (H' : Hp) (ρ' Ow' : List Addr) : Prop := match str with
  | true => Keeps H ρ Ow H' ρ' Ow'
  | false => Ext H ρ H' ρ' ∧ ∀ a, H a ≠ none → a ∉ Ow → a ∉ Ow'
theorem Ext.per {H H' : Hp} {ρ ρ' : List Addr} (e : Ext H ρ H' ρ') (str : Bool) (Ow : List Addr) : Per str H ρ Ow H' ρ' Ow := by
  cases str with
  | true => exact e.keeps Ow
  | false => exact ⟨e, fun _ _ h => h⟩
/-- nothing, or a new tuple -/
def New (H H' : Hp) : Prop := H' = H ∨ ∃ p xs, H p = none ∧ H' = upd H p (.tup xs)
theorem New.ext {H H' : Hp} (n : New H H') (ρ : List Addr) : Ext H ρ H' ρ := by
  rcases n with rfl | ⟨p, xs, hp, rfl⟩
  · exact Ext.refl _ _
  · exact Ext.new hp
theorem New.st {T : Tb} {H H' : Hp} {ρ Ow : List Addr} {st : Store} (n : New H H') (s : StR T H ρ Ow st) : StR T H' ρ Ow st := by
  rcases n with rfl | ⟨p, xs, hp, rfl⟩
  · exact s
  · exact s.new hp
/-- what an iteration gives: the items, made when they are met -/
structure Walk (str : Bool) (T : Tb) (J : L2.It) (H0 : Hp) (ρ0 Ow0 : List Addr) (ds : List D) : Prop where
  step : ∀ (i : Nat) (d : D) (H : Hp) (ρ Ow : List Addr) (st : Store), ds[i]? = some d → Per str H0 ρ0 Ow0 H ρ Ow → StR T H ρ Ow st → J.go i H ∧ ∀ x H', J.yld i H x H' → New H H' ∧ RV T H' ρ Ow x d
  stop : ∀ (H : Hp) (ρ Ow : List Addr), Per str H0 ρ0 Ow0 H ρ Ow → J.stop ds.length H
def tIt (T : Tb) (xf : Nat → List Nm) (W : WX) (str : Bool) (f : Env → Store → O (List D)) : TI := fun σ H R => At T xf W f (fun ds ρ Ow H' => ∀ J, Walk str T J H' ρ Ow ds → R J H') σ H
end G
/-! The engine's rules for expressions, over the hand layer's. -/
namespace G
open PySem PySem.Spec PyProof.Rows
open L2 (V Hp HO upd SqL SqT Rd VK TE TT TA TI WX XK Cx PE PT PA PI Inv OpR CallR RelV Vals)

/-- a weaker reading -/
theorem PE.imp {X : Cx} {e : Expr} {t t' : TE} (h : PE X e t) (i : ∀ σ H Q, t' σ H Q → t σ H Q) : PE X e t' := ⟨fun pins s σ H Q I q => h.run pins s σ H Q I (i σ H Q q)⟩
theorem PT.imp {X : Cx} {e : Expr} {t t' : TT} (h : PT X e t) (i : ∀ σ H Q, t' σ H Q → t σ H Q) : PT X e t' := ⟨fun pins s σ H Q I q => h.run pins s σ H Q I (i σ H Q q)⟩
theorem PA.imp {X : Cx} {e : List Expr} {t t' : TA} (h : PA X e t) (i : ∀ σ H Q, t' σ H Q → t σ H Q) : PA X e t' := ⟨fun pos pins s σ H Q I q => h.run pos pins s σ H Q I (i σ H Q q)⟩
theorem PI.imp {X : Cx} {tg e : Expr} {t t' : TI} (h : PI X tg e t) (i : ∀ σ H Q, t' σ H Q → t σ H Q) : PI X tg e t' := ⟨fun pins s σ H Q I q => h.run pins s σ H Q I (i σ H Q q)⟩

/-- the context of a body's expressions -/
structure CxG (X : Cx) (T : Tb) (N : List PySem.Str) (sc : Scope) (n : Nat) : Prop where
  eK : X.K = T.K
  eN : X.N = N
  nd : N.Nodup
  eS : X.env.scope = sc
  rm : L2H.RoomH n X.A
  guards : X.A.guards = some []
/-- outside of except suites -/
structure CxC (X : Cx) (T : Tb) (N : List PySem.Str) (sc : Scope) (n : Nat) : Prop extends CxG X T N sc n where
  calm : X.calm = true
  room : L2.Room n X.A
  hx0 : T.hx = none

structure JE (X : Cx) (T : Tb) (xf : Nat → List Nm) (W : WX) (e : Expr) (s : Sem) (str : Bool) : Prop where
  val : PE X e (tVal T xf W str s.val)
  test : PT X e (tTst T xf W s.test)
  items : ∀ tg, PI X tg e (tIt T xf W str s.items)

section
variable {X : Cx} {T : Tb} {xf : Nat → List Nm} {W : WX} {N : List PySem.Str} {sc : Scope} {n : Nat}

theorem lim_line : LIM = sizeLine := by rw [sizeLine_eq, LIM]

theorem RW.ow {H : Hp} {ρ Ow Ow' : List Addr} {v : V} {d : D} (h : ∀ a, H a ≠ none → a ∉ ρ → a ∉ Ow → a ∉ Ow') (r : RW T H ρ Ow v d) : RW T H ρ Ow' v d := by
  rcases r with r | ⟨a, vs, ds, h1, h2, h3, h4, h5, h6⟩
  · exact .inl (r.ow h)
  · exact .inr ⟨a, vs, ds, h1, h2, h3, h4, h5, h6.ow h⟩
/-! ### truth, walks -/
theorem truth_ok {H : Hp} {ρ Ow : List Addr} {st : Store} {v : V} {d : D} {b : Bool} (s : StR T H ρ Ow st) (r : RW T H ρ Ow v d) (h : truth st d = some b) : L2.TruV T.K v H b := by
  rcases r with r | ⟨a, vs, ds, rfl, rfl, h1, h2, z, rs⟩
  · cases r with
    | non => cases h; rfl
    | bl k => cases h; rfl
    | int i => cases h; rfl
    | str x hx hc =>
      cases h
      refine ⟨by rw [← lim_line]; simpa [Str.length] using hx, ?_⟩
      cases x <;> simp [Str.length] <;> omega
    | tup q z rs =>
      cases h
      refine .inr (.inl ⟨_, q.sq, ?_⟩)
      cases rs <;> rfl
    | lst q n1 n2 z rs =>
      cases h
      refine .inl ⟨_, .inl (.inl q), ?_⟩
      cases rs <;> rfl
    | fl q z rs =>
      cases h
      refine .inl ⟨_, q.sq, ?_⟩
      cases rs <;> rfl
    | loc q =>
      rename_i a l
      unfold truth seqv at h
      cases e : st[l]? with
      | none => simp [e] at h
      | some o =>
        cases o with
        | ins c fs => simp [e] at h
        | lst ds =>
          have hb : b = !ds.isEmpty := by
            simp [e] at h
            cases b <;> simp_all
          subst hb
          obtain ⟨_, vs, h1, z, rs⟩ := s.at_ l a _ q e
          refine .inl ⟨vs, .inl (.inl h1), ?_⟩
          cases rs <;> rfl
    | obj q n1 n2 z rs => cases h
    | cls c => cases h
    | dct q n1 n2 hk r => cases h
  · cases h
    refine .inl ⟨_, .inl (.inl h1), ?_⟩
    cases rs <;> rfl

theorem test_of {e : Expr} {f : Env → Store → O D} {str : Bool} (C : CxG X T N sc n) (he : ∀ whole, isTrue e X.env whole = (do let v ← whole; standAt e.pos; holding [v] (truthy v))) (h : PE X e (tVal T xf W str f)) :
    PT X e (tTst T xf W (Sem.of f).test) := by
  refine PT.imp (L2.pt_truth h he) fun σ H Q q => ?_
  obtain ⟨env, st, ρ, Ow, en, sr, p⟩ := q
  refine ⟨env, st, ρ, Ow, en, sr, (Post.bind p).mono fun d st1 H1 ρ1 e1 s1 q v r => ?_⟩
  obtain ⟨b, e2, q⟩ := Post.of s1 q
  exact ⟨b, by rw [C.eK]; exact truth_ok s1 r.w e2, q⟩

/-- a list, a tuple -/
theorem walk_lst {str : Bool} {H : Hp} {ρ Ow : List Addr} {st : Store} {a : Addr} {ds : List D} (s : StR T H ρ Ow st) (r : RX str T H ρ Ow (.ref a) (.lst ds)) : Walk str T (L2.Itl T.K a) H ρ Ow ds := by
  have key : ∀ H' ρ' Ow', Per str H ρ Ow H' ρ' Ow' → ∃ vs, SqL T.K H' a vs ∧ RVs T H' ρ' Ow' vs ds := fun H' ρ' Ow' p => by
    cases str with
    | true =>
      have r' : RV T H ρ Ow (.ref a) (.lst ds) := r
      have r2 := r'.keeps p s.lists
      cases r2 with
      | lst q n1 n2 z rs => exact ⟨_, .inl (.inl q), rs⟩
    | false =>
      obtain ⟨e, ho⟩ := p
      rcases RW.ext e (RW.ow (fun a h _ n => ho a h n) r) with r2 | ⟨b, vs, es, e1, e2, h1, h2, z, rs⟩
      · cases r2 with
        | lst q n1 n2 z rs => exact ⟨_, .inl (.inl q), rs⟩
      · cases e1; cases e2
        exact ⟨vs, .inl (.inl h1), rs⟩
  refine ⟨fun i d H' ρ' Ow' st' hd p s' => ?_, fun H' ρ' Ow' p => ?_⟩
  · obtain ⟨vs, q, rs⟩ := key H' ρ' Ow' p
    obtain ⟨v, hv, rv⟩ := rs.get hd
    refine ⟨⟨vs, v, q, hv⟩, fun x H2 y => ?_⟩
    obtain ⟨rfl, y⟩ := y
    have e := y vs q
    rw [hv] at e; cases e
    exact ⟨.inl rfl, rv⟩
  · obtain ⟨vs, q, rs⟩ := key H' ρ' Ow' p
    exact ⟨vs, q, Nat.le_of_eq rs.length⟩
theorem walk_tup {str : Bool} {H : Hp} {ρ Ow : List Addr} {st : Store} {a : Addr} {ds : List D} (s : StR T H ρ Ow st) (r : RX str T H ρ Ow (.ref a) (.tup ds)) : Walk str T (L2.Itt T.K a) H ρ Ow ds := by
  have key : ∀ H' ρ' Ow', Per str H ρ Ow H' ρ' Ow' → ∃ vs, SqT T.K H' a vs ∧ RVs T H' ρ' Ow' vs ds := fun H' ρ' Ow' p => by
    cases str with
    | true =>
      have r' : RV T H ρ Ow (.ref a) (.tup ds) := r
      have r2 := r'.keeps p s.lists
      cases r2 with
      | tup q z rs => exact ⟨_, q.sq, rs⟩
    | false =>
      obtain ⟨e, ho⟩ := p
      rcases RW.ext e (RW.ow (fun a h _ n => ho a h n) r) with r2 | ⟨b, vs, es, e1, e2, h1, h2, z, rs⟩
      · cases r2 with
        | tup q z rs => exact ⟨_, q.sq, rs⟩
      · cases e2
  refine ⟨fun i d H' ρ' Ow' st' hd p s' => ?_, fun H' ρ' Ow' p => ?_⟩
  · obtain ⟨vs, q, rs⟩ := key H' ρ' Ow' p
    obtain ⟨v, hv, rv⟩ := rs.get hd
    refine ⟨⟨vs, v, q, hv⟩, fun x H2 y => ?_⟩
    obtain ⟨rfl, y⟩ := y
    have e := y vs q
    rw [hv] at e; cases e
    exact ⟨.inl rfl, rv⟩
  · obtain ⟨vs, q, rs⟩ := key H' ρ' Ow' p
    exact ⟨vs, q, Nat.le_of_eq rs.length⟩
/-- an expression whose value is walked -/
def iSeq (K : PySem.W.Frag) (tl : TE) : TI := fun σ H R => tl σ H fun x H1 => (∃ a, x = .ref a ∧ (((∃ xs, SqL K H1 a xs) ∧ R (L2.Itl K a) H1) ∨ ((∃ xs, SqT K H1 a xs) ∧ R (L2.Itt K a) H1))) ∨ ∃ y, x = .str y ∧ R (L2.Its y) H1
theorem pi_seq {tg l : Expr} {tl : TE} (hl : PE X l tl) : PI X tg l (iSeq X.K tl) := by
  refine ⟨fun pins s σ H R I h => ?_⟩
  refine L2.thn (hl.run pins s σ H _ I h) fun v s1 ⟨x, H1, I1, r1, q⟩ => ?_
  rcases q with ⟨a, e, q⟩ | ⟨x, ex, q⟩
  rotate_left
  · subst ex
    obtain ⟨t, rfl⟩ := r1
    cases ha : x.cps.all (· < 128)
    · exact wpAny_pyIter_wide ha (L2.pi_one (tk := s1.toks) I1 _ (L2.turn_str _ x t "str_iterator" (.inr rfl)) ⟨_, Heap.get?_push_size _ rfl, rfl, rfl⟩ q)
    · exact wpAny_pyIter_ascii ha (L2.pi_one (tk := s1.toks) I1 _ (L2.turn_str _ x t "str_ascii_iterator" (.inl rfl)) ⟨_, Heap.get?_push_size _ rfl, rfl, rfl⟩ q)
  subst e
  cases r1
  have fp : ∀ b ∈ [s1.heap.objs.size], L2.FpOk X pins H1 b := fun b hb => by
    rw [List.mem_singleton.mp hb]
    exact I1.fpOk (Nat.le_refl _) (I1.hok.fresh (Nat.le_refl _))
  rcases q with ⟨⟨xs, hq⟩, q⟩ | ⟨⟨xs, hq⟩, q⟩
  · obtain ⟨its, rv, p, hz⟩ := I1.list hq
    exact wpAny_pyIter_list p.isList ⟨_, [s1.heap.objs.size], _, _, H1, rfl, I1.kept (t' := s1.toks) fun b o e => Heap.get?_push_of_some _ e, L2.turn_list a _, ⟨_, Heap.get?_push_size _ rfl, rfl, rfl⟩, fp, q⟩
  · obtain ⟨its, rv, p, hz⟩ := I1.tuple hq
    exact wpAny_pyIter_tuple (show s1.heap.IsTuple a its.toArray from p) ⟨_, [s1.heap.objs.size], _, _, H1, rfl, I1.kept (t' := s1.toks) fun b o e => Heap.get?_push_of_some _ e, L2.turn_tuple a _, ⟨_, Heap.get?_push_size _ rfl, rfl, rfl⟩, fp, q⟩

/-- a text's signs -/
theorem walk_str {str : Bool} {H : Hp} {ρ Ow : List Addr} {xs : List Nat} (hz : xs.length ≤ LIM) (hc : xs.all okCode = true) : Walk str T (L2.Its ⟨xs.toArray⟩) H ρ Ow (xs.map fun c => .str [c]) := by
  refine ⟨fun i d H1 ρ1 Ow1 st hd _ _ => ?_, fun H1 ρ1 Ow1 _ => ?_⟩
  · rw [List.getElem?_map, Option.map_eq_some_iff] at hd
    obtain ⟨c, h1, rfl⟩ := hd
    have hi : i < xs.length := (List.getElem?_eq_some_iff.mp h1).1
    refine ⟨by show i < xs.toArray.size; simpa using hi, fun x H' ⟨e, c', hc', ex⟩ => ?_⟩
    subst e
    have e2 : c' = c := by
      have : xs.toArray[i]? = some c' := hc'
      rw [List.getElem?_toArray, h1] at this
      exact (Option.some.inj this).symm
    subst e2
    subst ex
    have ho : okCode c' = true := List.all_eq_true.mp hc c' (List.mem_of_getElem? h1)
    have h1 : 1 ≤ LIM := by rw [lim_line]; decide
    exact ⟨.inl rfl, .str [c'] h1 (by simp [ho])⟩
  · show xs.toArray.size ≤ (xs.map _).length
    simp
theorem items_of {tg e : Expr} {f : Env → Store → O D} {str : Bool} (C : CxG X T N sc n) (h : PE X e (tVal T xf W str f)) : PI X tg e (tIt T xf W str (Sem.of f).items) := by
  refine PI.imp (pi_seq h) fun σ H R q => ?_
  obtain ⟨env, st, ρ, Ow, en, sr, p⟩ := q
  refine ⟨env, st, ρ, Ow, en, sr, (Post.bind p).mono fun d st1 H1 ρ1 e1 s1 q0 v r => ?_⟩
  obtain ⟨ds, e2, q⟩ := Post.of s1 q0
  clear q0
  rw [C.eK]
  have w := r
  cases d with
  | lst xs =>
    cases e2
    rcases r.w with r2 | ⟨a, vs, es, rfl, e2, h1, h2, z, rs⟩
    · cases r2 with
      | lst q2 n1 n2 z rs => exact .inl ⟨_, rfl, .inl ⟨⟨_, .inl (.inl q2)⟩, q _ (walk_lst s1 w)⟩⟩
    · cases e2
      exact .inl ⟨_, rfl, .inl ⟨⟨_, .inl (.inl h1)⟩, q _ (walk_lst s1 w)⟩⟩
  | tup xs =>
    cases e2
    rcases r.w with r2 | ⟨a, vs, es, rfl, e2, h1, h2, z, rs⟩
    · cases r2 with
      | tup q2 z rs => exact .inl ⟨_, rfl, .inr ⟨⟨_, q2.sq⟩, q _ (walk_tup s1 w)⟩⟩
    · cases e2
  | str xs =>
    cases e2
    rcases r.w with r2 | ⟨a, vs, es, rfl, e2, h1, h2, z, rs⟩
    · cases r2 with
      | str _ hz hc => exact .inr ⟨_, rfl, q _ (walk_str hz hc)⟩
    · cases e2
  | _ => cases e2
/-- most expressions: the value's rule is enough -/
theorem JE.of {e : Expr} {f : Env → Store → O D} {str : Bool} (C : CxG X T N sc n) (h : PE X e (tVal T xf W str f)) (he : ∀ whole, isTrue e X.env whole = (do let v ← whole; standAt e.pos; holding [v] (truthy v)) := by intro _; rfl) :
    JE X T xf W e (Sem.of f) str := ⟨h, test_of C he h, fun _ => items_of C h⟩
/-- what no value is asked of -/
theorem tVal_bad {str : Bool} {t : TE} : ∀ σ H Q, tVal T xf W str (fun _ _ => .bad) σ H Q → t σ H Q := fun σ H Q ⟨_, _, _, _, _, _, p⟩ => p.elim

/-! ### names, constants -/
theorem je_v {i : Nat} {x : PySem.Str} {pos : Pos} (C : CxG X T N sc n) (h1 : N[i]? = some x) (h2 : L2.Vis sc x) (h3 : (x == ("__debug__" : PySem.Str)) = false) (h4 : (x == ("__classdict__" : PySem.Str)) = false) :
    JE X T xf W (.Name x pos) (Sem.of fun env st => .of (env.get i) st) true := by
  refine .of C (PE.imp (L2.pe_var (i := i) (by rw [C.eN]; exact h1) (by rw [C.eS]; exact h2) h3 h4) fun σ H Q q => ?_)
  obtain ⟨env, st, ρ, Ow, en, sr, p⟩ := q
  obtain ⟨d, e, q⟩ := Post.of sr p
  obtain ⟨v, hv, r⟩ := en.get e
  exact ⟨v, hv, q v r⟩
theorem je_pk {i : Nat} {x : PySem.Str} {pos : Pos} (C : CxG X T N sc n) (h1 : N[i]? = some x) (h2 : L2.Vis sc x) (h3 : (x == ("__debug__" : PySem.Str)) = false) (h4 : (x == ("__classdict__" : PySem.Str)) = false) :
    JE X T xf W (.Name x pos) (Sem.of fun env st => .of (env.pk i) st) false := by
  refine .of C (PE.imp (L2.pe_var (i := i) (by rw [C.eN]; exact h1) (by rw [C.eS]; exact h2) h3 h4) fun σ H Q q => ?_)
  obtain ⟨env, st, ρ, Ow, en, sr, p⟩ := q
  obtain ⟨d, e, q⟩ := Post.of sr p
  obtain ⟨v, hv, r⟩ := en.pk sr e
  exact ⟨v, hv, q v r⟩
/-- a constant of the text -/
def conD : Const → Option D
  | .none => some .non
  | .bool b => some (.bl b)
  | .int i => some (.int i)
  | .str s => if s.cps.toList.length ≤ LIM ∧ s.cps.toList.all okCode = true then some (.str s.cps.toList) else none
  | _ => none
theorem je_k {c : Const} {d : D} {j : Nat} {pos : Pos} (C : CxG X T N sc n) (h : conD c = some d) : JE X T xf W (.Constant c j pos) (Sem.of fun _ st => .ok d st) true := by
  have key : ∀ {v : V} {p : Pos}, PE X (.Constant c j p) (L2.tC v) → (∀ H ρ Ow, RV T H ρ Ow v d) → PE X (.Constant c j p) (tVal T xf W true fun _ st => .ok d st) := fun hp r => PE.imp hp fun σ H Q q => by
    obtain ⟨env, st, ρ, Ow, en, sr, p⟩ := q
    exact Post.ok sr p _ (r _ _ _)
  cases c with
  | none => cases h; exact .of C (key L2.pe_non fun _ _ _ => .non)
  | bool b => cases h; exact .of C (key L2.pe_bl fun _ _ _ => .bl b)
  | int i => cases h; exact .of C (key L2.pe_int fun _ _ _ => .int i)
  | str s =>
    have h' : (if s.cps.toList.length ≤ LIM ∧ s.cps.toList.all okCode = true then some (D.str s.cps.toList) else none) = some d := h
    split at h'
    · rename_i hl
      cases h'
      refine .of C (key L2.pe_str fun H ρ Ow => ?_)
      have := RV.str (T := T) (H := H) (ρ := ρ) (Ow := Ow) s.cps.toList hl.1 hl.2
      simpa using this
    · cases h'
  | _ => cases h
end
end G
/-! The engine's rules for operators on values. -/
namespace G
open PySem PySem.Spec PyProof.Rows
open L2 (V Hp HO upd SqL SqT Rd VK TE TT TA TI WX XK Cx PE PT PA PI Inv OpR CallR RelV Vals R2)

/-- nothing, or a new object -/
def New1 (H H' : Hp) : Prop := H' = H ∨ ∃ p o, H p = none ∧ H' = upd H p o
theorem New1.refl (H : Hp) : New1 H H := .inl rfl
theorem New1.ext {H H' : Hp} (n : New1 H H') (ρ : List Addr) : Ext H ρ H' ρ := by
  rcases n with rfl | ⟨p, xs, hp, rfl⟩
  · exact Ext.refl _ _
  · exact Ext.new hp
theorem New1.st {T : Tb} {H H' : Hp} {ρ Ow : List Addr} {st : Store} (n : New1 H H') (s : StR T H ρ Ow st) : StR T H' ρ Ow st := by
  rcases n with rfl | ⟨p, xs, hp, rfl⟩
  · exact s
  · exact s.new hp
section
variable {T : Tb} {H H' : Hp} {ρ ρ' Ow Ow' : List Addr} {st : Store}
/-- a value as an operator takes it -/
def RU (T : Tb) (H : Hp) (ρ Ow : List Addr) (v : V) (d : D) : Prop := RV T H ρ Ow v d ∨ ∃ a vs ds, v = .ref a ∧ d = .lst ds ∧ H a = some (.lst vs) ∧ vs.length ≤ LIM ∧ RVs T H ρ Ow vs ds
theorem RW.u {v : V} {d : D} (r : RW T H ρ Ow v d) : RU T H ρ Ow v d := by
  rcases r with r | ⟨a, vs, ds, h1, h2, h3, h4, h5, h6⟩
  · exact .inl r
  · exact .inr ⟨a, vs, ds, h1, h2, h3, h5, h6⟩
theorem view_lst {l : Nat} {ds : List D} (e : st[l]? = some (.lst ds)) : G.view st (.loc l) = .lst ds := by unfold G.view; simp [e]
theorem view_no {l : Nat} (e : ∀ ds, st[l]? ≠ some (.lst ds)) : G.view st (.loc l) = .loc l := by
  unfold G.view
  cases q : st[l]? with
  | none => simp [q]
  | some o =>
    cases o with
    | ins c fs => simp [q]
    | lst ds => exact absurd q (e ds)
theorem RW.view {v : V} {d : D} (s : StR T H ρ Ow st) (r : RW T H ρ Ow v d) : RU T H ρ Ow v (G.view st d) := by
  cases d with
  | loc l =>
    rcases r with r | ⟨_, _, _, _, h, _⟩
    · cases r with
      | loc q =>
        cases e : st[l]? with
        | none => rw [view_no (fun ds h => by rw [e] at h; cases h)]; exact .inl (.loc q)
        | some o =>
          cases o with
          | ins c fs => rw [view_no (fun ds h => by rw [e] at h; cases h)]; exact .inl (.loc q)
          | lst ds =>
            obtain ⟨_, vs, h1, z, rs⟩ := s.at_ l _ _ q e
            rw [view_lst e]
            exact .inr ⟨_, vs, ds, rfl, rfl, h1, z, rs⟩
    · cases h
  | _ => exact r.u
theorem RU.lst {v : V} {ds : List D} (r : RU T H ρ Ow v (.lst ds)) : ∃ a vs, v = .ref a ∧ H a = some (.lst vs) ∧ vs.length ≤ LIM ∧ RVs T H ρ Ow vs ds := by
  rcases r with r | ⟨a, vs, es, h1, h2, h3, h4, h5⟩
  · cases r with
    | lst q n1 n2 z rs => exact ⟨_, _, rfl, q, z, rs⟩
  · cases h2
    exact ⟨a, vs, h1, h3, h4, h5⟩
theorem RU.tup {v : V} {ds : List D} (r : RU T H ρ Ow v (.tup ds)) : ∃ a vs, v = .ref a ∧ StT T.K H ρ a vs ∧ vs.length ≤ LIM ∧ RVs T H ρ Ow vs ds := by
  rcases r with r | ⟨a, vs, es, h1, h2, h3, h4, h5⟩
  · cases r with
    | tup q z rs => exact ⟨_, _, rfl, q, z, rs⟩
  · cases h2
theorem RU.int {v : V} {i : Int} (r : RU T H ρ Ow v (.int i)) : v = .int i := by
  rcases r with r | ⟨a, vs, es, h1, h2, h3, h4, h5⟩
  · cases r; rfl
  · cases h2
theorem RU.bl {v : V} {i : Bool} (r : RU T H ρ Ow v (.bl i)) : v = .bl i := by
  rcases r with r | ⟨a, vs, es, h1, h2, h3, h4, h5⟩
  · cases r; rfl
  · cases h2
theorem RU.str {v : V} {x : List Nat} (r : RU T H ρ Ow v (.str x)) : v = .str ⟨x.toArray⟩ ∧ x.length ≤ LIM ∧ x.all okCode = true := by
  rcases r with r | ⟨a, vs, es, h1, h2, h3, h4, h5⟩
  · cases r with
    | str x h c => exact ⟨rfl, h, c⟩
  · cases h2
theorem RU.non {v : V} (r : RU T H ρ Ow v .non) : v = .non := by
  rcases r with r | ⟨a, vs, es, h1, h2, h3, h4, h5⟩
  · cases r; rfl
  · cases h2
/-- a sequence's items -/
theorem RW.seq {v : V} {d : D} {ds : List D} (s : StR T H ρ Ow st) (r : RW T H ρ Ow v d) (e : seqv st d = some ds) : ∃ a vs, v = .ref a ∧ (SqL T.K H a vs ∨ SqT T.K H a vs) ∧ vs.length ≤ LIM ∧ RVs T H ρ Ow vs ds := by
  cases d with
  | tup xs =>
    cases e
    obtain ⟨a, vs, h1, h2, h3, h4⟩ := r.u.tup
    exact ⟨a, vs, h1, .inr h2.sq, h3, h4⟩
  | lst xs =>
    cases e
    obtain ⟨a, vs, h1, h2, h3, h4⟩ := r.u.lst
    exact ⟨a, vs, h1, .inl (.inl (.inl h2)), h3, h4⟩
  | fl xs =>
    cases e
    rcases r with r | ⟨_, _, _, _, h, _⟩
    · cases r with
      | fl q z rs => exact ⟨_, _, rfl, .inl q.sq, z, rs⟩
    · cases h
  | loc l =>
    have w := r.view s
    unfold seqv at e
    cases e2 : st[l]? with
    | none => simp [e2] at e
    | some o =>
      cases o with
      | ins c fs => simp [e2] at e
      | lst xs =>
        simp [e2] at e
        subst e
        have : G.view st (.loc l) = .lst xs := by unfold G.view; simp [e2]
        rw [this] at w
        obtain ⟨a, vs, h1, h2, h3, h4⟩ := w.lst
        exact ⟨a, vs, h1, .inl (.inl (.inl h2)), h3, h4⟩
  | _ => cases e
theorem RVs.rep {vs : List V} {ds : List D} (r : RVs T H ρ Ow vs ds) : ∀ n : Nat, RVs T H ρ Ow (List.replicate n vs).flatten (List.replicate n ds).flatten
  | 0 => .nil
  | n + 1 => by
    rw [List.replicate_succ, List.replicate_succ, List.flatten_cons, List.flatten_cons]
    exact r.append (RVs.rep r n)
/-- a new list, a new tuple -/
theorem rv_lst {p : Addr} {vs : List V} {ds : List D} (hp : H p = none) (hr : p ∉ ρ) (ho : p ∉ Ow) (z : vs.length ≤ LIM) (r : RVs T H ρ Ow vs ds) : RV T (upd H p (.lst vs)) ρ Ow (.ref p) (.lst ds) :=
  .lst L2.upd_same hr ho z (r.ext (Ext.new hp))
theorem rv_tup {p : Addr} {vs : List V} {ds : List D} (hp : H p = none) (hr : p ∉ ρ) (z : vs.length ≤ LIM) (r : RVs T H ρ Ow vs ds) : RV T (upd H p (.tup vs)) ρ Ow (.ref p) (.tup ds) :=
  .tup (.inl ⟨.inl L2.upd_same, hr⟩) z (r.ext (Ext.new hp))
theorem StR.fresh (s : StR T H ρ Ow st) {p : Addr} (hp : H p = none) : p ∉ ρ ∧ p ∉ Ow := by
  refine ⟨fun h => ?_, fun h => ?_⟩
  · obtain ⟨o, q⟩ := s.mem h
    rw [hp] at q; cases q
  · obtain ⟨vs, q⟩ := s.lists _ h
    rw [hp] at q; cases q
end

/-- an operator by its meaning on data -/
def rSem (T : Tb) (f : Store → D → D → Option D) : R2 := fun x y H Q => ∃ st ρ Ow dx dy dz, StR T H ρ Ow st ∧ RW T H ρ Ow x dx ∧ RW T H ρ Ow y dy ∧ f st dx dy = some dz ∧ ∀ v H', New1 H H' → RV T H' ρ Ow v dz → Q v H'
section
variable {X : Cx} {T : Tb}
theorem okMul_w {i j : Int} (h : okMul i j = true) : L2.CMulX i j := by
  unfold okMul BIG at h
  rw [Bool.and_eq_true, decide_eq_true_eq, decide_eq_true_eq] at h
  exact L2.mulx_ok (a := 4000) (b := 4000) h.1 h.2 (by clear h; decide)
theorem okDiv_w {i j : Int} (h : okDiv j = true) : L2.CDivW i j := by
  unfold okDiv DIV at h
  rw [Bool.and_eq_true, decide_eq_true_eq, decide_eq_true_eq] at h
  obtain ⟨h1, h2⟩ := h
  refine L2.wide_div (i := i) (b := 4000) h1 h2 ?_ ?_
  · exact Nat.succ_pos _
  · exact Nat.le_of_ble_eq_true (Eq.refl true)
theorem or_add (hK : X.K = T.K) : OpR X (binaryOp .Add) (rSem T (op2 .add)) := by
  intro pins s σ H x y v u Q I rx ry h
  obtain ⟨st, ρ, Ow, dx, dy, dz, sr, wx, wy, e, k⟩ := h
  have ux := wx.view sr
  have uy := wy.view sr
  simp only [op2] at e
  generalize G.view st dx = ex at ux e
  generalize G.view st dy = ey at uy e
  split at e
  · cases e
    have e1 := ux.int
    have e2 := uy.int
    subst e1 e2
    exact L2.op_add pins s σ H _ _ v u Q I rx ry ⟨_, _, rfl, rfl, k _ _ (.inl rfl) (.int _)⟩
  · split at e
    · rename_i hl
      cases e
      obtain ⟨e1, z1, c1⟩ := ux.str
      obtain ⟨e2, z2, c2⟩ := uy.str
      subst e1 e2
      refine L2.op_add_str pins s σ H _ _ v u Q I rx ry ⟨_, _, rfl, rfl, by rw [← lim_line]; simpa [Str.length] using hl, k _ _ (.inl rfl) ?_⟩
      have r : RV T H ρ Ow (.str ⟨(_ ++ _ : List Nat).toArray⟩) _ := .str _ (by rw [List.length_append]; exact hl) (by rw [List.all_append, c1, c2]; rfl)
      rw [← List.append_toArray] at r
      exact r
    · cases e
  · split at e
    · rename_i hl
      cases e
      obtain ⟨a, vs, rfl, q1, z1, r1⟩ := ux.tup
      obtain ⟨b, us, rfl, q2, z2, r2⟩ := uy.tup
      have hz : vs.length + us.length ≤ LIM := by rw [r1.length, r2.length]; exact hl
      refine L2.op_catA pins s σ H _ _ v u Q I rx ry ⟨a, b, vs, us, rfl, rfl, by rw [hK]; exact q1.sq, by rw [hK]; exact q2.sq, by rw [← lim_line]; exact hz, fun h0 => ?_, fun _ h0 => ?_, fun _ _ p hp => ?_⟩
      · subst h0
        cases r1
        exact k _ _ (.inl rfl) (.tup q2 z2 r2)
      · subst h0
        cases r2
        refine k _ _ (.inl rfl) ?_
        rw [List.append_nil]
        exact .tup q1 z1 r1
      · exact k _ _ (.inr ⟨p, _, hp, rfl⟩) (rv_tup hp (sr.fresh hp).1 (by rw [List.length_append]; exact hz) (r1.append r2))
    · cases e
  · split at e
    · rename_i hl
      cases e
      obtain ⟨a, vs, rfl, q1, z1, r1⟩ := ux.lst
      obtain ⟨b, us, rfl, q2, z2, r2⟩ := uy.lst
      have hz : vs.length + us.length ≤ LIM := by rw [r1.length, r2.length]; exact hl
      refine L2.op_cat pins s σ H _ _ v u Q I rx ry ⟨a, b, vs, us, rfl, rfl, q1, q2, by rw [← lim_line]; exact hz, fun p hp => ?_⟩
      exact k _ _ (.inr ⟨p, _, hp, rfl⟩) (rv_lst hp (sr.fresh hp).1 (sr.fresh hp).2 (by rw [List.length_append]; exact hz) (r1.append r2))
    · cases e
  · cases e
theorem two_ints {P : Int → Int → D → Prop} {f : Int → Int → Option D} {dx dy dz : D} (e : (match dx, dy with
    | .int i, .int j => f i j
    | _, _ => none) = some dz) (h : ∀ i j, dx = .int i → dy = .int j → f i j = some dz → P i j dz) : ∃ i j, P i j dz := by
  split at e
  · exact ⟨_, _, h _ _ rfl rfl e⟩
  · cases e
/-- two dInts -/
theorem ints2 {f : Int → Int → Option D} {dx dy dz : D} (e : (match dx, dy with
    | .int i, .int j => f i j
    | _, _ => none) = some dz) : ∃ i j, dx = .int i ∧ dy = .int j ∧ f i j = some dz := by
  split at e
  · exact ⟨_, _, rfl, rfl, e⟩
  · cases e
theorem RW.int {T : Tb} {H : Hp} {ρ Ow : List Addr} {v : V} {i : Int} (r : RW T H ρ Ow v (.int i)) : v = .int i := r.u.int
theorem or_sub : OpR X (binaryOp .Sub) (rSem T (op2 .sub)) := by
  intro pins s σ H x y v u Q I rx ry ⟨st, ρ, Ow, dx, dy, dz, sr, wx, wy, e, k⟩
  obtain ⟨i, j, rfl, rfl, e⟩ := ints2 e
  cases e
  have e1 := wx.int
  have e2 := wy.int
  subst e1 e2
  exact L2.op_sub pins s σ H _ _ v u Q I rx ry ⟨_, _, rfl, rfl, k _ _ (.inl rfl) (.int _)⟩
theorem or_mul (hK : X.K = T.K) : OpR X (binaryOp .Mult) (rSem T (op2 .mul)) := by
  intro pins s σ H x y v u Q I rx ry ⟨st, ρ, Ow, dx, dy, dz, sr, wx, wy, e, k⟩
  have ux := wx.view sr
  simp only [op2] at e
  generalize G.view st dx = ex at ux e
  split at e
  · split at e
    · rename_i hl
      cases e
      have e1 := ux.int
      have e2 := wy.int
      subst e1 e2
      exact L2.op_mulX pins s σ H _ _ v u Q I rx ry ⟨_, _, rfl, rfl, okMul_w hl, k _ _ (.inl rfl) (.int _)⟩
    · cases e
  · split at e
    · rename_i a j hl
      cases e
      obtain ⟨b, vs, rfl, q1, z1, r1⟩ := ux.lst
      have e2 := wy.int
      subst e2
      have hz : vs.length * j.toNat ≤ LIM := by rw [r1.length]; exact hl.2.2
      refine L2.op_rep pins s σ H _ _ v u Q I rx ry ⟨b, j, vs, rfl, rfl, q1, by omega, by omega, by rw [← lim_line]; exact hz, fun p hp => ?_⟩
      refine k _ _ (.inr ⟨p, _, hp, rfl⟩) (rv_lst hp (sr.fresh hp).1 (sr.fresh hp).2 ?_ (r1.rep _))
      rw [PyProof.Rows.lm_len_rep_flat, Nat.mul_comm]
      exact hz
    · cases e
  · cases e
theorem or_fdiv : OpR X (binaryOp .FloorDiv) (rSem T (op2 .fdiv)) := by
  intro pins s σ H x y v u Q I rx ry ⟨st, ρ, Ow, dx, dy, dz, sr, wx, wy, e, k⟩
  obtain ⟨i, j, rfl, rfl, e'⟩ := ints2 e
  clear e
  have e := e'
  clear e'
  split at e
  · rename_i hl
    cases e
    have e1 := wx.int
    have e2 := wy.int
    subst e1 e2
    exact L2.op_fdivW pins s σ H _ _ v u Q I rx ry ⟨_, _, rfl, rfl, okDiv_w hl, k _ _ (.inl rfl) (.int _)⟩
  · cases e
theorem or_mod : OpR X (binaryOp .Mod) (rSem T (op2 .mod)) := by
  intro pins s σ H x y v u Q I rx ry ⟨st, ρ, Ow, dx, dy, dz, sr, wx, wy, e, k⟩
  obtain ⟨i, j, rfl, rfl, e'⟩ := ints2 e
  clear e
  have e := e'
  clear e'
  split at e
  · rename_i hl
    cases e
    have e1 := wx.int
    have e2 := wy.int
    subst e1 e2
    exact L2.op_mod pins s σ H _ _ v u Q I rx ry ⟨_, _, rfl, rfl, (okDiv_w (i := i) hl).1, k _ _ (.inl rfl) (.int _)⟩
  · cases e
theorem or_pow : OpR X (binaryOp .Pow) (rSem T (op2 .pow)) := by
  intro pins s σ H x y v u Q I rx ry ⟨st, ρ, Ow, dx, dy, dz, sr, wx, wy, e, k⟩
  obtain ⟨i, j, rfl, rfl, e'⟩ := ints2 e
  clear e
  have e := e'
  clear e'
  split at e
  · rename_i hl
    cases e
    have e1 := wx.int
    have e2 := wy.int
    subst e1 e2
    exact L2.op_pow pins s σ H _ _ v u Q I rx ry ⟨_, _, rfl, rfl, ⟨hl.1, by omega, by have := hl.2.2; omega⟩, k _ _ (.inl rfl) (.int _)⟩
  · cases e
theorem or_lt : OpR X (compareOp .Lt) (rSem T (op2 .lt)) := by
  intro pins s σ H x y v u Q I rx ry ⟨st, ρ, Ow, dx, dy, dz, sr, wx, wy, e, k⟩
  obtain ⟨i, j, rfl, rfl, e⟩ := ints2 e
  cases e
  have e1 := wx.int
  have e2 := wy.int
  subst e1 e2
  exact L2.op_lt pins s σ H _ _ v u Q I rx ry ⟨_, _, rfl, rfl, k _ _ (.inl rfl) (.bl _)⟩
theorem or_le : OpR X (compareOp .LtE) (rSem T (op2 .le)) := by
  intro pins s σ H x y v u Q I rx ry ⟨st, ρ, Ow, dx, dy, dz, sr, wx, wy, e, k⟩
  obtain ⟨i, j, rfl, rfl, e⟩ := ints2 e
  cases e
  have e1 := wx.int
  have e2 := wy.int
  subst e1 e2
  exact L2.op_le pins s σ H _ _ v u Q I rx ry ⟨_, _, rfl, rfl, k _ _ (.inl rfl) (.bl _)⟩
theorem or_gt : OpR X (compareOp .Gt) (rSem T (op2 .gt)) := by
  intro pins s σ H x y v u Q I rx ry ⟨st, ρ, Ow, dx, dy, dz, sr, wx, wy, e, k⟩
  obtain ⟨i, j, rfl, rfl, e⟩ := ints2 e
  cases e
  have e1 := wx.int
  have e2 := wy.int
  subst e1 e2
  exact L2.op_gt pins s σ H _ _ v u Q I rx ry ⟨_, _, rfl, rfl, k _ _ (.inl rfl) (.bl _)⟩
theorem or_ge : OpR X (compareOp .GtE) (rSem T (op2 .ge)) := by
  intro pins s σ H x y v u Q I rx ry ⟨st, ρ, Ow, dx, dy, dz, sr, wx, wy, e, k⟩
  obtain ⟨i, j, rfl, rfl, e⟩ := ints2 e
  cases e
  have e1 := wx.int
  have e2 := wy.int
  subst e1 e2
  exact L2.op_ge pins s σ H _ _ v u Q I rx ry ⟨_, _, rfl, rfl, k _ _ (.inl rfl) (.bl _)⟩
theorem op_isB {X : Cx} : OpR X (compareOp .Is) (fun x y H Q => ∃ a b, x = .bl a ∧ y = .bl b ∧ Q (.bl (a == b)) H) := by
  intro pins s σ H x y v u Q I rx ry h
  obtain ⟨a, b, rfl, rfl, q⟩ := h
  cases rx
  cases ry
  show wpAny _ _ (do let r ← isSame (.bool a) (.bool b); pure (Value.bool r)) _ _ _
  rw [isSame_plain rfl]
  refine wpAny_pure (L2.fin_bl I q ?_)
  cases a <;> cases b <;> rfl
theorem op_notB {X : Cx} : OpR X (compareOp .IsNot) (fun x y H Q => ∃ a b, x = .bl a ∧ y = .bl b ∧ Q (.bl (a != b)) H) := by
  intro pins s σ H x y v u Q I rx ry h
  obtain ⟨a, b, rfl, rfl, q⟩ := h
  cases rx
  cases ry
  show wpAny _ _ (do let r ← isSame (.bool a) (.bool b); pure (Value.bool !r)) _ _ _
  rw [isSame_plain rfl]
  refine wpAny_pure (L2.fin_bl I q ?_)
  cases a <;> cases b <;> rfl
theorem or_is : OpR X (compareOp .Is) (rSem T (op2 .is)) := by
  intro pins s σ H x y v u Q I rx ry ⟨st, ρ, Ow, dx, dy, dz, sr, wx, wy, e, k⟩
  simp only [op2] at e
  split at e
  · cases e
    have e1 := wx.u.non
    have e2 := wy.u.non
    subst e1 e2
    exact L2.op_isN pins s σ H _ _ v u Q I rx ry ⟨rfl, k _ _ (.inl rfl) (.bl _)⟩
  · cases e
    have e1 := wx.u.bl
    have e2 := wy.u.bl
    subst e1 e2
    exact op_isB pins s σ H _ _ v u Q I rx ry ⟨_, _, rfl, rfl, k _ _ (.inl rfl) (.bl _)⟩
  · rename_i hn
    cases e
    have e2 := wy.u.non
    subst e2
    refine L2.op_isN pins s σ H _ _ v u Q I rx ry ⟨rfl, ?_⟩
    have e3 : decide (x = V.non) = false := decide_eq_false fun h => by
      subst h
      rcases wx with r | ⟨_, _, _, h, _⟩
      · cases r; exact hn rfl
      · cases h
    rw [e3]
    exact k _ _ (.inl rfl) (.bl _)
  · cases e
theorem or_isnot : OpR X (compareOp .IsNot) (rSem T (op2 .isnot)) := by
  intro pins s σ H x y v u Q I rx ry ⟨st, ρ, Ow, dx, dy, dz, sr, wx, wy, e, k⟩
  simp only [op2] at e
  split at e
  · cases e
    have e1 := wx.u.non
    have e2 := wy.u.non
    subst e1 e2
    exact L2.op_notN pins s σ H _ _ v u Q I rx ry ⟨rfl, k _ _ (.inl rfl) (.bl _)⟩
  · cases e
    have e1 := wx.u.bl
    have e2 := wy.u.bl
    subst e1 e2
    exact op_notB pins s σ H _ _ v u Q I rx ry ⟨_, _, rfl, rfl, k _ _ (.inl rfl) (.bl _)⟩
  · rename_i hn
    cases e
    have e2 := wy.u.non
    subst e2
    refine L2.op_notN pins s σ H _ _ v u Q I rx ry ⟨rfl, ?_⟩
    have e3 : decide (x = V.non) = false := decide_eq_false fun h => by
      subst h
      rcases wx with r | ⟨_, _, _, h, _⟩
      · cases r; exact hn rfl
      · cases h
    rw [e3]
    exact k _ _ (.inl rfl) (.bl _)
  · cases e
end
end G
/-! A dict is no text. -/
namespace PySem.SeqAt
open AutoSeq1 (wpAny_loadPart')
open MeetsSeq
section
variable {A : Around} {s : Shared}
theorem dict_eq_declines_str (l : Addr) (es : Array DictEntry) (n : Nat) (dd : Option Addr) (sl : Array (Option Value)) (b : Str) (u : Tok) :
    Meets (Builtin.«dict.__eq__» ⟨[.ref l, .str b u], []⟩) (fun _ R s => s.heap.get? l = some { cls := .type "dict", dict := dd, data := .dict es n, slots := sl } ∧ R (.ok (.ret .notImplemented)) s) :=
  .of_wp fun prog w A R s h => by obtain ⟨hp, g, d, tk, os⟩ := s; obtain ⟨hl, h⟩ := h; have f1 := F.sub_str_dict; wp_walk using wpAny_loadPart' hl; exact ⟨_, rfl, h⟩
theorem str_eq_declines_dict (b : Str) (u : Tok) (l : Addr) (es : Array DictEntry) (n : Nat) (dd : Option Addr) (sl : Array (Option Value)) :
    Meets (Builtin.«str.__eq__» ⟨[.str b u, .ref l], []⟩) (fun _ R s => s.heap.get? l = some { cls := .type "dict", dict := dd, data := .dict es n, slots := sl } ∧ R (.ok (.ret .notImplemented)) s) :=
  .of_wp fun prog w A R s h => by obtain ⟨hp, g, d, tk, os⟩ := s; obtain ⟨hl, h⟩ := h; wp_walk using wpAny_loadPart' hl, wpAny_load hl; exact ⟨_, rfl, h⟩
theorem RcAt.str_dict {l : Addr} {es : Array DictEntry} {n : Nat} {dd : Option Addr} {sl : Array (Option Value)} (b : Str) (u : Tok) (ho : s.heap.get? l = some { cls := .type "dict", dict := dd, data := .dict es n, slots := sl }) (hu : A.units < cLine) : RcAt A s (.str b u) (.ref l) false := fun prog w E Q h => by
  exact rc_eq_decline_or (k := false) (typeIs_str s b u) ⟨_, ho, rfl⟩ (by decide) F.sub_dict_str F.slot_str_eq F.slot_dict_eq_refl
    (fun _ hq => call_meets F.slot_str_eq (typeIs_str s b u) F.entry_str_eq (F.args_str_eq_2 _ _) (str_eq_declines_dict b u l es n dd sl) ⟨ho, hq⟩)
    (fun _ hq => call_meets F.slot_dict_eq_refl ⟨_, ho, rfl⟩ F.entry_dict_eq (F.args_dict_eq_2 _ _) (dict_eq_declines_str l es n dd sl b u) ⟨ho, hq⟩)
    (fun _ hq => wpAny_of_eq (rfl : isSame (.str b u) (.ref l) = pure false) hq) (.inr hu) h
theorem EqAt.str_dict {l : Addr} {es : Array DictEntry} {n : Nat} {dd : Option Addr} {sl : Array (Option Value)} (b : Str) (u : Tok) (ho : s.heap.get? l = some { cls := .type "dict", dict := dd, data := .dict es n, slots := sl }) (hu : A.units < cLine) : EqAt A s (.str b u) (.ref l) false := fun prog w E Q h => by
  unfold eqBool
  refine wpAny_holding ?_
  refine wpAny_ite_split (fun hab => absurd (eq_of_beq hab) nofun) (fun _ => ?_)
  exact wpAny_bind (RcAt.str_dict b u ho hu prog w E _ (wpAny_truthy_bool h))
end
end PySem.SeqAt
/-! The engine's rules: ==, !=, in, not in, subscripts. -/
namespace G
open PySem PySem.Spec PyProof.Rows
open L2 (V Hp HO upd SqL SqT Rd VK TE TT TA TI WX XK Cx PE PT PA PI Inv OpR CallR RelV Vals R2)
theorem strOk_of {s : List Nat} (c : s.all okCode = true) : PyData.strOk ⟨s.toArray⟩ = true := by
  unfold PyData.strOk
  rw [List.all_toArray]
  exact c
theorem str_beq (x y : List Nat) : ((⟨x.toArray⟩ : PySem.Str) == ⟨y.toArray⟩) = (x == y) := by
  rw [Bool.eq_iff_iff]
  simp
section
variable {T : Tb} {H : Hp} {ρ Ow : List Addr}
mutual
theorem dp_of : ∀ (n : Nat) (d : D) (v : V), okEq n d = true → RV T H ρ Ow v d → L2.Dp T.K H v (toPy d) ∧ (toPy d).canLay0 = true ∧ (toPy d).depth ≤ n
  | n, .non, v, _, r => by cases r; exact ⟨.non, rfl, Nat.zero_le _⟩
  | n, .bl b, v, _, r => by cases r; exact ⟨.bl b, rfl, Nat.zero_le _⟩
  | n, .int i, v, _, r => by cases r; exact ⟨.int i, rfl, Nat.zero_le _⟩
  | n, .str s, v, _, r => by
    cases r with
    | str s h c => exact ⟨.str _, by simp only [toPy, PyData.canLay0]; exact strOk_of c, Nat.zero_le _⟩
  | 0, .tup xs, v, h, r => by simp [okEq] at h
  | n + 1, .tup xs, v, h, r => by
    cases r with
    | tup q z rs =>
      obtain ⟨h1, h2, h3⟩ := dps_of n xs _ (by simpa [okEq] using h) rs
      exact ⟨.tup q.sq h1, by simpa [toPy, PyData.canLay0] using h2, by simp [toPy, PyData.depth]; exact h3⟩
  | 0, .lst xs, v, h, r => by simp [okEq] at h
  | n + 1, .lst xs, v, h, r => by
    cases r with
    | lst q n1 n2 z rs =>
      obtain ⟨h1, h2, h3⟩ := dps_of n xs _ (by simpa [okEq] using h) rs
      exact ⟨.lst (.inl (.inl q)) h1, by simpa [toPy, PyData.canLay0] using h2, by simp [toPy, PyData.depth]; exact h3⟩
  | n, .dct _ _, v, h, r => by simp [okEq] at h
  | n, .loc _, v, h, r => by simp [okEq] at h
  | n, .obj _ _, v, h, r => by simp [okEq] at h
  | n, .exc _ _, v, h, r => by simp [okEq] at h
  | n, .cls _, v, h, r => by simp [okEq] at h
  | n, .fl _, v, h, r => by simp [okEq] at h
theorem dps_of : ∀ (n : Nat) (ds : List D) (vs : List V), okEqs n ds = true → RVs T H ρ Ow vs ds → L2.DpAll T.K H vs (toPys ds) ∧ PyData.canLayAll0 (toPys ds) = true ∧ PyData.depthAll (toPys ds) ≤ n
  | n, [], _, _, r => by cases r; exact ⟨.nil, rfl, Nat.zero_le _⟩
  | n, d :: ds, _, h, r => by
    cases r with
    | cons r rs =>
      have h' : okEq n d = true ∧ okEqs n ds = true := by simpa [okEqs] using h
      obtain ⟨h1, h2, h3⟩ := dp_of n d _ h'.1 r
      obtain ⟨g1, g2, g3⟩ := dps_of n ds _ h'.2 rs
      exact ⟨.cons h1 g1, by simp [toPys, PyData.canLayAll0, h2, g2], by simp [toPys, PyData.depthAll]; omega⟩
end
theorem du_of {n : Nat} {d : D} {v : V} (h : okEq n d = true) (r : RU T H ρ Ow v d) : L2.Dp T.K H v (toPy d) ∧ (toPy d).canLay0 = true ∧ (toPy d).depth ≤ n := by
  rcases r with r | ⟨a, vs, ds, rfl, rfl, h1, z, rs⟩
  · exact dp_of n d v h r
  · cases n with
    | zero => simp [okEq] at h
    | succ n =>
      obtain ⟨g1, g2, g3⟩ := dps_of n ds _ (by simpa [okEq] using h) rs
      exact ⟨.lst (.inl (.inl h1)) g1, by simpa [toPy, PyData.canLay0] using g2, by simp [toPy, PyData.depth]; exact g3⟩
theorem shaped_of {d : PyData} (h1 : d.canLay0 = true) (h2 : d.depth ≤ 64) : SeqAt.shaped d = true := by
  unfold SeqAt.shaped
  rw [h1, decide_eq_true h2]; rfl
mutual
theorem pyEq_eqv : ∀ (n m : Nat) (x y : D), okEq n x = true → okEq m y = true → pyEq x y = PyData.eqv (toPy x) (toPy y)
  | n, m, x, y, hx, hy => by
    cases x with
    | tup xs =>
      cases n with
      | zero => simp [okEq] at hx
      | succ n =>
        cases y with
        | tup ys =>
          cases m with
          | zero => simp [okEq] at hy
          | succ m =>
            have := pyEqs_eqv n m xs ys (by simpa [okEq] using hx) (by simpa [okEq] using hy)
            simpa [pyEq, toPy, PyData.eqv] using this
        | _ => first | (simp [pyEq, toPy, PyData.eqv]; done) | (simp [okEq] at hy)
    | lst xs =>
      cases n with
      | zero => simp [okEq] at hx
      | succ n =>
        cases y with
        | lst ys =>
          cases m with
          | zero => simp [okEq] at hy
          | succ m =>
            have := pyEqs_eqv n m xs ys (by simpa [okEq] using hx) (by simpa [okEq] using hy)
            simpa [pyEq, toPy, PyData.eqv] using this
        | _ => first | (simp [pyEq, toPy, PyData.eqv]; done) | (simp [okEq] at hy)
    | _ => first
      | (simp [okEq] at hx; done)
      | (cases y <;> first | (simp [okEq] at hy; done) | (simp [pyEq, toPy, PyData.eqv, b2i]; done) | (simp [pyEq, toPy, PyData.eqv, b2i, str_beq]; done))
theorem pyEqs_eqv : ∀ (n m : Nat) (xs ys : List D), okEqs n xs = true → okEqs m ys = true → pyEqs xs ys = PyData.eqvAll (toPys xs) (toPys ys)
  | n, m, [], [], _, _ => rfl
  | n, m, [], _ :: _, _, _ => rfl
  | n, m, _ :: _, [], _, _ => rfl
  | n, m, x :: xs, y :: ys, hx, hy => by
    have hx' : okEq n x = true ∧ okEqs n xs = true := by simpa [okEqs] using hx
    have hy' : okEq m y = true ∧ okEqs m ys = true := by simpa [okEqs] using hy
    have h1 := pyEq_eqv n m x y hx'.1 hy'.1
    have h2 := pyEqs_eqv n m xs ys hx'.2 hy'.2
    simp [pyEqs, toPys, PyData.eqvAll, h1, h2]
end
end
section
variable {X : Cx} {T : Tb}
theorem ok2 {a b : Bool} {d e : D} (h : (if (a && b) = true then some d else none) = some e) : a = true ∧ b = true ∧ d = e := by
  split at h
  · rename_i q
    rw [Bool.and_eq_true] at q
    exact ⟨q.1, q.2, Option.some.inj h⟩
  · cases h
theorem or_eq (hK : X.K = T.K) (hu : X.A.units + 64 < cLine) : OpR X (compareOp .Eq) (rSem T (op2 .eq)) := by
  intro pins s σ H x y v u Q I rx ry ⟨st, ρ, Ow, dx, dy, dz, sr, wx, wy, e, k⟩
  obtain ⟨h1, h2, rfl⟩ := ok2 (show (if (okEq 64 (G.view st dx) && okEq 64 (G.view st dy)) = true then some (.bl (pyEq (G.view st dx) (G.view st dy))) else none) = some dz from e)
  obtain ⟨p1, l1, z1⟩ := du_of h1 (wx.view sr)
  obtain ⟨p2, l2, z2⟩ := du_of h2 (wy.view sr)
  refine L2.op_eqD hu pins s σ H x y v u Q I rx ry ⟨_, _, by rw [hK]; exact p1, by rw [hK]; exact p2, shaped_of l1 z1, shaped_of l2 z2, ?_⟩
  rw [← pyEq_eqv _ _ _ _ h1 h2]
  exact k _ _ (.inl rfl) (.bl _)
theorem or_ne (hK : X.K = T.K) (hu : X.A.units + 64 < cLine) : OpR X (compareOp .NotEq) (rSem T (op2 .ne)) := by
  intro pins s σ H x y v u Q I rx ry ⟨st, ρ, Ow, dx, dy, dz, sr, wx, wy, e, k⟩
  obtain ⟨h1, h2, rfl⟩ := ok2 (show (if (okEq 64 (G.view st dx) && okEq 64 (G.view st dy)) = true then some (.bl (!pyEq (G.view st dx) (G.view st dy))) else none) = some dz from e)
  obtain ⟨p1, l1, z1⟩ := du_of h1 (wx.view sr)
  obtain ⟨p2, l2, z2⟩ := du_of h2 (wy.view sr)
  refine L2.op_neD hu pins s σ H x y v u Q I rx ry ⟨_, _, by rw [hK]; exact p1, by rw [hK]; exact p2, shaped_of l1 z1, shaped_of l2 z2, ?_⟩
  rw [← pyEq_eqv _ _ _ _ h1 h2]
  exact k _ _ (.inl rfl) (.bl _)

theorem any_toPys {n m : Nat} {x : D} (hx : okEq n x = true) : ∀ ys : List D, okEqs m ys = true → ((toPys ys).any fun z => PyData.eqv z (toPy x)) = ys.any fun z => pyEq z x
  | [], _ => rfl
  | y :: ys, h => by
    have h' : okEq m y = true ∧ okEqs m ys = true := by simpa [okEqs] using h
    simp only [toPys, List.any_cons]
    rw [any_toPys hx ys h'.2, pyEq_eqv _ _ _ _ h'.1 hx]
/-- a sequence, to be asked for its items -/
theorem seq_dp {H : Hp} {ρ Ow : List Addr} {st : Store} {n : Nat} {v : V} {d : D} {ds : List D} (s : StR T H ρ Ow st) (r : RW T H ρ Ow v d) (e : seqv st d = some ds) (h : okEqs n ds = true) :
    (L2.Dp T.K H v (.list (toPys ds)) ∨ L2.Dp T.K H v (.tuple (toPys ds))) ∧ PyData.canLayAll0 (toPys ds) = true ∧ PyData.depthAll (toPys ds) ≤ n := by
  obtain ⟨a, vs, rfl, q, z, rs⟩ := r.seq s e
  obtain ⟨g1, g2, g3⟩ := dps_of n ds vs h rs
  refine ⟨?_, g2, g3⟩
  rcases q with q | q
  · exact .inl (.lst q g1)
  · exact .inr (.tup q g1)
theorem mem_split {st : Store} {dx dy dz : D} {c0 : Bool} (f : Nat → List Nat → D) (g : List D → D)
    (e : (match dx, dy with
      | .str a, .str b => (match a with
        | [c] => some (f c b)
        | _ => none)
      | .dct _ _, y => (match seqv st y with
        | some ys => if ys.all isStr then some (.bl c0) else none
        | none => none)
      | _, _ => match seqv st dy with
        | some ys => if (okEq 64 (G.view st dx) && okEqs 64 ys) = true then some (g ys) else none
        | none => none) = some dz) (n0 : ∀ ks vs, dx ≠ .dct ks vs) :
    (∃ c b, dx = .str [c] ∧ dy = .str b ∧ f c b = dz) ∨ ∃ ys, seqv st dy = some ys ∧ okEq 64 (G.view st dx) = true ∧ okEqs 64 ys = true ∧ g ys = dz := by
  split at e
  · split at e
    · exact .inl ⟨_, _, rfl, rfl, Option.some.inj e⟩
    · cases e
  · exact (‹∀ ks vs, D.dct _ _ ≠ D.dct ks vs› _ _ rfl).elim
  · split at e
    · rename_i ys hy
      obtain ⟨h1, h2, h3⟩ := ok2 e
      exact .inr ⟨ys, hy, h1, h2, h3⟩
    · cases e
theorem dct_at {pins : List (Addr × PySem.Obj)} {σ : L2.St} {H : Hp} {s : Shared} {a : Addr} {kvs : List (L2.Key × V)} (I : Inv X pins σ H s) (q : H a = some (.dK kvs)) :
    ∃ es n, s.heap.get? a = some { cls := .type "dict", dict := none, data := .dict es n, slots := #[] } := by
  obtain ⟨_, _, vs, _, o, es, ep, ho, ⟨c1, c2, c3⟩, hd, _⟩ := L2.dk_of I.hok q
  obtain ⟨oc, od, dt, sl⟩ := o
  simp only at c1 c2 c3 hd
  subst c1 c2 c3 hd
  exact ⟨es, ep, ho⟩
/-- texts, asked for a dict -/
theorem strs_at {H : Hp} {s : Shared} {ρ Ow : List Addr} {A : Around} {a : Addr} {es : Array DictEntry} {m : Nat} (ho : s.heap.get? a = some { cls := .type "dict", dict := none, data := .dict es m, slots := #[] }) (hu : A.units < cLine) :
    ∀ {ys : List D} {vs : List V} {us : List Value}, ys.all isStr = true → RVs T H ρ Ow vs ys → Vals vs us → ∀ u ∈ us, SeqAt.EqAt A s u (.ref a) false := by
  intro ys
  induction ys with
  | nil =>
    intro vs us _ r rv u hu'
    cases r
    cases rv
    cases hu'
  | cons d ys ih =>
    intro vs us h r rv u hu'
    have h' : isStr d = true ∧ ys.all isStr = true := by
      rw [List.all_cons, Bool.and_eq_true] at h
      exact h
    cases r with
    | cons r rs =>
      cases rv with
      | cons r1 rv1 =>
        rcases List.mem_cons.mp hu' with e | hm
        · subst e
          cases d with
          | str x =>
            cases r with
            | str _ hx hc =>
              obtain ⟨t, rfl⟩ := r1
              exact SeqAt.EqAt.str_dict _ t ho hu
          | _ => cases h'.1
        · exact ih h'.2 rs rv1 u hm
theorem any_false {us : List Value} : us.toArray.any (fun _ => false) = false := by simp
theorem mem_dct (hK : X.K = T.K) (hu : X.A.units + 65 < cLine) {pins : List (Addr × PySem.Obj)} {σ : L2.St} {H : Hp} {s : Shared} {ρ Ow : List Addr} {st : Store} {x y : V} {v u : Value} {ks vs : List D} {dy : D} {ys : List D} {neg : Bool} {Q : VK}
    (I : Inv X pins σ H s) (rx : RelV x v) (ry : RelV y u) (sr : StR T H ρ Ow st) (wx : RW T H ρ Ow x (.dct ks vs)) (wy : RW T H ρ Ow y dy) (hy : seqv st dy = some ys) (hs : ys.all isStr = true) (q : Q (.bl neg) H) :
    wpAny (model X.prog X.w) X.A (compareOp (match neg with | true => .NotIn | false => .In) v u) (L2.EP X pins σ Q) X.xe s := by
  rcases wx with wx | ⟨_, _, _, _, h, _⟩
  rotate_left
  · cases h
  cases wx with
  | dct qd n1 n2 hk rd =>
    cases rx
    obtain ⟨es, m, ho⟩ := dct_at I qd
    obtain ⟨a, ws, rfl, qs, z, rr⟩ := wy.seq sr hy
    cases ry
    have hu1 : X.A.in1.units < cLine := by
      have : X.A.in1.units = X.A.units + 1 := rfl
      omega
    rcases qs with qs | qs
    · obtain ⟨its, rv, p, hz⟩ := I.list (by rw [hK]; exact qs)
      have he := strs_at (A := X.A.in1) ho hu1 hs rr rv
      cases neg with
      | true => exact SeqAt.notIn_listAt (fun _ => false) p.isList (fun y hy => he y (by simpa using hy)) (by rw [any_false]; exact ⟨.bl _, H, I, rfl, q⟩)
      | false => exact SeqAt.in_listAt (fun _ => false) p.isList (fun y hy => he y (by simpa using hy)) (by rw [any_false]; exact ⟨.bl _, H, I, rfl, q⟩)
    · obtain ⟨its, rv, p, hz⟩ := I.tuple (by rw [hK]; exact qs)
      have he := strs_at (A := X.A.in1) ho hu1 hs rr rv
      cases neg with
      | true => exact SeqAt.notIn_tupleAt (fun _ => false) (show s.heap.IsTuple a its.toArray from p) (fun y hy => he y (by simpa using hy)) (by rw [any_false]; exact ⟨.bl _, H, I, rfl, q⟩)
      | false => exact SeqAt.in_tupleAt (fun _ => false) (show s.heap.IsTuple a its.toArray from p) (fun y hy => he y (by simpa using hy)) (by rw [any_false]; exact ⟨.bl _, H, I, rfl, q⟩)
theorem str_or {st : Store} {dy : D} {c : D} {dz : D} (e : (match seqv st dy with
    | some ys => if ys.all isStr = true then some c else none
    | none => none) = some dz) : ∃ ys, seqv st dy = some ys ∧ ys.all isStr = true ∧ c = dz := by
  split at e
  · rename_i ys hy
    split at e
    · rename_i h
      exact ⟨ys, hy, h, Option.some.inj e⟩
    · cases e
  · cases e
theorem or_mem (hK : X.K = T.K) (hu : X.A.units + 65 < cLine) : OpR X (compareOp .In) (rSem T (op2 .mem)) := by
  intro pins s σ H x y v u Q I rx ry ⟨st, ρ, Ow, dx, dy, dz, sr, wx, wy, e, k⟩
  by_cases n0 : ∃ ks vs, dx = .dct ks vs
  · obtain ⟨ks, vs, rfl⟩ := n0
    obtain ⟨ys, hy, hs, rfl⟩ := str_or e
    exact mem_dct (neg := false) hK hu I rx ry sr wx wy hy hs (k _ _ (.inl rfl) (.bl _))
  rcases mem_split (fun c b => .bl (b.contains c)) (fun ys => .bl (ys.any fun z => pyEq z (G.view st dx))) (c0 := false) e (fun ks vs h => n0 ⟨ks, vs, h⟩) with ⟨a, b, rfl, rfl, rfl⟩ | ⟨ys, hy, h1, h2, rfl⟩
  · obtain ⟨e1, _, _⟩ := wx.u.str
    obtain ⟨e2, _, _⟩ := wy.u.str
    subst e1 e2
    refine L2.op_in_sign pins s σ H _ _ v u Q I rx ry ⟨a, _, rfl, rfl, ?_⟩
    have e3 : decide (a ∈ (⟨b.toArray⟩ : PySem.Str).cps.toList) = b.contains a := by
      rw [Bool.eq_iff_iff]; simp
    rw [e3]
    exact k _ _ (.inl rfl) (.bl _)
  · obtain ⟨p1, l1, z1⟩ := du_of h1 (wx.view sr)
    obtain ⟨p2, l2, z2⟩ := seq_dp sr wy hy h2
    obtain ⟨as, r1⟩ := L2.Dp.reads I _ x v (by rw [hK]; exact p1) rx
    have fin : Q (.bl ((toPys ys).any fun z => PyData.eqv z (toPy (G.view st dx)))) H := by
      rw [any_toPys h1 ys h2]
      exact k _ _ (.inl rfl) (.bl _)
    rcases p2 with p2 | p2
    · obtain ⟨bs, r2⟩ := L2.Dp.reads I _ y u (by rw [hK]; exact p2) ry
      exact SeqAt.in_list_reads r2 r1 l2 l1 (PyProof.Rows.room_in_shaped (shaped_of l1 z1) hu) ⟨.bl _, H, I, rfl, fin⟩
    · obtain ⟨bs, r2⟩ := L2.Dp.reads I _ y u (by rw [hK]; exact p2) ry
      exact SeqAt.in_tuple_reads r2 r1 l2 l1 (PyProof.Rows.room_in_shaped (shaped_of l1 z1) hu) ⟨.bl _, H, I, rfl, fin⟩
theorem or_nmem (hK : X.K = T.K) (hu : X.A.units + 65 < cLine) : OpR X (compareOp .NotIn) (rSem T (op2 .nmem)) := by
  intro pins s σ H x y v u Q I rx ry ⟨st, ρ, Ow, dx, dy, dz, sr, wx, wy, e, k⟩
  by_cases n0 : ∃ ks vs, dx = .dct ks vs
  · obtain ⟨ks, vs, rfl⟩ := n0
    obtain ⟨ys, hy, hs, rfl⟩ := str_or e
    exact mem_dct (neg := true) hK hu I rx ry sr wx wy hy hs (k _ _ (.inl rfl) (.bl _))
  rcases mem_split (fun c b => .bl (!b.contains c)) (fun ys => .bl (!ys.any fun z => pyEq z (G.view st dx))) (c0 := true) e (fun ks vs h => n0 ⟨ks, vs, h⟩) with ⟨a, b, rfl, rfl, rfl⟩ | ⟨ys, hy, h1, h2, rfl⟩
  · obtain ⟨e1, _, _⟩ := wx.u.str
    obtain ⟨e2, _, _⟩ := wy.u.str
    subst e1 e2
    refine L2.op_notIn_sign pins s σ H _ _ v u Q I rx ry ⟨a, _, rfl, rfl, ?_⟩
    have e3 : decide (a ∈ (⟨b.toArray⟩ : PySem.Str).cps.toList) = b.contains a := by
      rw [Bool.eq_iff_iff]; simp
    rw [e3]
    exact k _ _ (.inl rfl) (.bl _)
  · obtain ⟨p1, l1, z1⟩ := du_of h1 (wx.view sr)
    obtain ⟨p2, l2, z2⟩ := seq_dp sr wy hy h2
    obtain ⟨as, r1⟩ := L2.Dp.reads I _ x v (by rw [hK]; exact p1) rx
    have fin : Q (.bl (!(toPys ys).any fun z => PyData.eqv z (toPy (G.view st dx)))) H := by
      rw [any_toPys h1 ys h2]
      exact k _ _ (.inl rfl) (.bl _)
    rcases p2 with p2 | p2
    · obtain ⟨bs, r2⟩ := L2.Dp.reads I _ y u (by rw [hK]; exact p2) ry
      exact SeqAt.notIn_list_reads r2 r1 l2 l1 (PyProof.Rows.room_in_shaped (shaped_of l1 z1) hu) ⟨.bl _, H, I, rfl, fin⟩
    · obtain ⟨bs, r2⟩ := L2.Dp.reads I _ y u (by rw [hK]; exact p2) ry
      exact SeqAt.notIn_tuple_reads r2 r1 l2 l1 (PyProof.Rows.room_in_shaped (shaped_of l1 z1) hu) ⟨.bl _, H, I, rfl, fin⟩
theorem ixN_eq (n : Nat) (i : Int) : G.ixN n i = L2.ixN n i := rfl
theorem ir_idx (hK : X.K = T.K) : L2.IxR X (rSem T (op2 .idx)) := by
  intro value slice pins s σ H x y v u Q I rx ry ⟨st, ρ, Ow, dx, dy, dz, sr, wx, wy, e, k⟩ hs
  simp only [op2] at e
  split at e
  · rename_i i
    have e2 := wy.int
    subst e2
    split at e
    · rename_i a
      obtain ⟨e1, z1, c1⟩ := wx.u.str
      subst e1
      rw [Option.map_eq_some_iff] at e
      obtain ⟨c, hc, rfl⟩ := e
      refine L2.ix_str value slice pins s σ H _ _ v u Q I rx ry ⟨_, i, c, rfl, rfl, by rw [← lim_line]; simpa [Str.length] using z1, hc, ?_⟩ hs
      refine k (.str ⟨[c].toArray⟩) H (.inl rfl) (.str [c] ?_ ?_)
      · rw [lim_line, sizeLine_eq]; show 1 ≤ 16777216; decide
      · obtain ⟨j, _, hj⟩ := Option.bind_eq_some_iff.mp (show (G.ixN a.length i).bind (fun j => a[j]?) = some c from hc)
        have := List.all_eq_true.mp c1 c (List.mem_of_getElem? hj)
        simp [this]
    · rw [Option.bind_eq_some_iff] at e
      obtain ⟨xs, hx, e⟩ := e
      obtain ⟨a, vs, rfl, q, z, rs⟩ := wx.seq sr hx
      obtain ⟨j, hj, hd⟩ := Option.bind_eq_some_iff.mp (show (G.ixN xs.length i).bind (fun j => xs[j]?) = some dz from e)
      obtain ⟨w, hw, rw_⟩ := rs.get hd
      have at_ : L2.atI vs i = some w := by
        show (L2.ixN vs.length i).bind (fun j => vs[j]?) = some w
        rw [rs.length, ← ixN_eq, hj]
        exact hw
      refine L2.ix_seq value slice pins s σ H _ _ v u Q I rx ry ?_ hs
      rcases q with q | q
      · exact .inl ⟨a, vs, i, w, rfl, rfl, by rw [hK]; exact q, at_, k _ _ (.inl rfl) rw_⟩
      · exact .inr (.inl ⟨a, vs, i, w, rfl, rfl, by rw [hK]; exact q, at_, k _ _ (.inl rfl) rw_⟩)
  · cases e
end
end G
/-! The engine's rules for expressions, 2: operators, displays, tests. -/
namespace G
open PySem PySem.Spec PyProof.Rows
open L2 (V Hp HO upd SqL SqT Rd VK TE TT TA TI WX XK Cx PE PT PA PI Inv OpR CallR RelV Vals R2 PC)

/-- an expression of no special place -/
def plainE : Expr → Bool
  | .Starred .. => false
  | .Set .. => false
  | .Slice .. => false
  | _ => true
theorem plain_star {e : Expr} (h : plainE e = true) (es : List Expr) (env : PySem.Env) : starEach (e :: es) env = (false, eval e env) :: starEach es env := by
  cases e <;> first | rfl | cases h
theorem plain_marks {e : Expr} (h : plainE e = true) (op : CmpOp) : behindInMarks op e = false := by
  cases e <;> first | rfl | cases h
theorem plain_ix {e : Expr} (h : plainE e = true) : L2.PlainIx e := by
  intro o i
  cases e <;> first | rfl | cases h
theorem plain_fold {e : Expr} (h : plainE e = true) (env : PySem.Env) (x : Value) : foldedSetIterable e env x = pure x := by
  cases e <;> first | rfl | cases h

def binOf : Op2 → Option Operator
  | .add => some .Add
  | .sub => some .Sub
  | .mul => some .Mult
  | .fdiv => some .FloorDiv
  | .mod => some .Mod
  | .pow => some .Pow
  | _ => none
def cmpOf : Op2 → Option CmpOp
  | .eq => some .Eq
  | .ne => some .NotEq
  | .lt => some .Lt
  | .le => some .LtE
  | .gt => some .Gt
  | .ge => some .GtE
  | .is => some .Is
  | .isnot => some .IsNot
  | .mem => some .In
  | .nmem => some .NotIn
  | _ => none
section
variable {X : Cx} {T : Tb} {xf : Nat → List Nm} {W : WX} {N : List PySem.Str} {sc : Scope} {n : Nat}
theorem or_bin (C : CxG X T N sc n) {o : Op2} {op : Operator} (h : binOf o = some op) : OpR X (binaryOp op) (rSem T (op2 o)) := by
  cases o <;> cases h
  · exact or_add C.eK
  · exact or_sub
  · exact or_mul C.eK
  · exact or_fdiv
  · exact or_mod
  · exact or_pow
theorem or_cmp (C : CxG X T N sc n) {o : Op2} {op : CmpOp} (h : cmpOf o = some op) : OpR X (compareOp op) (rSem T (op2 o)) := by
  have hu := C.rm.un
  cases o <;> cases h
  · exact or_eq C.eK (by omega)
  · exact or_ne C.eK (by omega)
  · exact or_lt
  · exact or_le
  · exact or_gt
  · exact or_ge
  · exact or_is
  · exact or_isnot
  · exact or_mem C.eK (by omega)
  · exact or_nmem C.eK (by omega)

/-- an operator's reading from an outcome -/
theorem sem_of {w : Wo} {H : Hp} {ρ Ow : List Addr} {st : Store} {f : Store → D → D → Option D} {dx dy : D} {x y : V} {Q : VK} (hw : w.T = T) (s : StR T H ρ Ow st) (rx : RW T H ρ Ow x dx) (ry : RW T H ρ Ow y dy)
    (p : Post w H ρ Ow (fun d _ H' ρ' => ∀ v, RV T H' ρ' Ow v d → Q v H') (O.of (f st dx dy) st)) : rSem T f x y H Q := by
  cases e : f st dx dy with
  | none => rw [e] at p; exact p.elim
  | some dz =>
    rw [e] at p
    exact ⟨st, ρ, Ow, dx, dy, dz, s, rx, ry, e, fun v H' nw r => p H' ρ (nw.ext ρ) (by rw [hw]; exact nw.st s) v r⟩
variable {a b c : Expr} {sa sb sc' : Sem} {ra rb rc : Bool} {pos : Pos}
theorem two_imp {r : R2} {f : D → D → Store → O D} (h : ∀ (σ : L2.St) (st : Store) (H : Hp) (ρ Ow : List Addr) (dx dy : D) (x y : V) (Q : VK), StR T H ρ Ow st → RX ra T H ρ Ow x dx → RX rb T H ρ Ow y dy →
      Post ⟨T, xf, W, σ⟩ H ρ Ow (fun d _ H' ρ' => ∀ v, RV T H' ρ' Ow v d → Q v H') (f dx dy st) → r x y H Q) :
    ∀ σ H Q, tVal T xf W true (two sa sb f) σ H Q → L2.tOp r (tVal T xf W ra sa.val) (tVal T xf W rb sb.val) σ H Q := by
  intro σ H Q ⟨env, st, ρ, Ow, en, sr, p⟩
  refine ⟨env, st, ρ, Ow, en, sr, (Post.bind p).mono fun d st1 H1 ρ1 e1 s1 q v r1 => ?_⟩
  refine ⟨env, st1, ρ1, Ow, en.ext e1 sr.disj, s1, (Post.bind q).mono fun d2 st2 H2 ρ2 e2 s2 q2 v2 r2 => ?_⟩
  exact h σ st2 H2 ρ2 Ow d d2 v v2 Q s2 (RX.ext e2 r1) r2 q2
theorem je_bin (C : CxG X T N sc n) {o : Op2} {op : Operator} (h : binOf o = some op) (ja : JE X T xf W a sa ra) (jb : JE X T xf W b sb rb) :
    JE X T xf W (.BinOp a op b pos) (Sem.of (two sa sb fun x y st => .of (op2 o st x y) st)) true :=
  .of C (PE.imp (L2.pe_op (or_bin C h) ja.val jb.val) (two_imp fun σ st H ρ Ow dx dy x y Q s rx ry p => sem_of rfl s rx.w ry.w p))
theorem je_ix (C : CxG X T N sc n) (hb : plainE b = true) (ja : JE X T xf W a sa ra) (jb : JE X T xf W b sb rb) :
    JE X T xf W (.Subscript a b pos) (Sem.of (two sa sb fun x y st => .of (op2 .idx st x y) st)) true :=
  .of C (PE.imp (L2.pe_ix (ir_idx C.eK) ja.val jb.val (plain_ix hb)) (two_imp fun σ st H ρ Ow dx dy x y Q s rx ry p => sem_of rfl s rx.w ry.w p))
/-- a comparison: value and test -/
theorem je_cmp (C : CxG X T N sc n) {op : CmpOp} {r : R2} {f : D → D → Store → O D} (hb : plainE b = true) (ho : OpR X (compareOp op) r)
    (h : ∀ (σ : L2.St) (st : Store) (H : Hp) (ρ Ow : List Addr) (dx dy : D) (x y : V) (Q : VK), StR T H ρ Ow st → RX ra T H ρ Ow x dx → RX rb T H ρ Ow y dy →
      Post ⟨T, xf, W, σ⟩ H ρ Ow (fun d _ H' ρ' => ∀ v, RV T H' ρ' Ow v d → Q v H') (f dx dy st) → r x y H Q)
    (hf : ∀ x y st, ∀ d st', f x y st = .ok d st' → ∃ k, d = .bl k) (ja : JE X T xf W a sa ra) (jb : JE X T xf W b sb rb) :
    JE X T xf W (.Compare a [op] [b] pos) (Sem.of (two sa sb f)) true := by
  refine ⟨PE.imp (L2.pe_cmpR ho ja.val jb.val (plain_marks hb op)) (two_imp h), ?_, fun tg => items_of C (PE.imp (L2.pe_cmpR ho ja.val jb.val (plain_marks hb op)) (two_imp h))⟩
  refine PT.imp (L2.pt_cmpR ho ja.val jb.val (plain_marks hb op)) fun σ H Q q => ?_
  obtain ⟨env, st, ρ, Ow, en, sr, p⟩ := q
  have p1 := Post.bind p
  refine two_imp (T := T) (xf := xf) (W := W) (ra := ra) (rb := rb) h σ H _ ⟨env, st, ρ, Ow, en, sr, ?_⟩
  have key : ∀ o : O D, (∀ d st', o = .ok d st' → ∃ k, d = .bl k) → Post ⟨T, xf, W, σ⟩ H ρ Ow (fun d st1 H1 ρ1 => Post ⟨T, xf, W, σ⟩ H1 ρ1 Ow (fun b _ H' _ => Q b H') (O.of (truth st1 d) st1)) o →
      Post ⟨T, xf, W, σ⟩ H ρ Ow (fun d _ H' ρ' => ∀ v, RX true T H' ρ' Ow v d → ∃ k, v = V.bl k ∧ Q k H') o := fun o hk p => by
    cases o with
    | ok d st1 =>
      obtain ⟨k, rfl⟩ := hk d st1 rfl
      intro H' ρ' e s v r
      cases r
      exact ⟨k, rfl, Post.ok s (p H' ρ' e s)⟩
    | ex c fs st1 => exact p
    | bad => exact p
  refine key _ (fun d st' hd => ?_) p1
  unfold two at hd
  cases h1 : sa.val env st with
  | ok x s1 =>
    rw [h1] at hd
    cases h2 : sb.val env s1 with
    | ok y s2 =>
      have hd' : (sb.val env s1).bind (fun y st => f x y st) = .ok d st' := hd
      rw [h2] at hd'
      exact hf x y s2 d st' hd'
    | ex _ _ _ =>
      have hd' : (sb.val env s1).bind (fun y st => f x y st) = .ok d st' := hd
      rw [h2] at hd'; cases hd'
    | bad =>
      have hd' : (sb.val env s1).bind (fun y st => f x y st) = .ok d st' := hd
      rw [h2] at hd'; cases hd'
  | ex _ _ _ => rw [h1] at hd; cases hd
  | bad => rw [h1] at hd; cases hd
end
end G
/-! The engine's rules for expressions, 3: not, and, or, if, chains, displays. -/
namespace G
open PySem PySem.Spec PyProof.Rows
open L2 (V Hp HO upd SqL SqT Rd VK TE TT TA TI WX XK Cx PE PT PA PI Inv OpR CallR RelV Vals R2 PC PW)
section
variable {X : Cx} {T : Tb} {xf : Nat → List Nm} {W : WX} {N : List PySem.Str} {sc : Scope} {n : Nat}
variable {a b c : Expr} {sa sb sc' : Sem} {ra rb rc : Bool} {pos : Pos}
/-- nothing is walked -/
theorem items_bad {tg e : Expr} {str : Bool} : PI X tg e (tIt T xf W str fun _ _ => .bad) := ⟨fun _ _ _ _ _ _ ⟨_, _, _, _, _, _, p⟩ => p.elim⟩
theorem je_no (C : CxG X T N sc n) (ja : JE X T xf W a sa ra) : JE X T xf W (.UnaryOp .Not a pos) (Sem.no sa) true := by
  refine ⟨PE.imp (L2.pe_notT ja.val) fun σ H Q q => ?_, PT.imp (L2.pt_not ja.test) fun σ H Q q => ?_, fun tg => items_bad⟩
  · obtain ⟨env, st, ρ, Ow, en, sr, p⟩ := q
    refine ⟨env, st, ρ, Ow, en, sr, (Post.bind p).mono fun d st1 H1 ρ1 e1 s1 q v r => ?_⟩
    obtain ⟨k, hk, q1⟩ := Post.of s1 (Post.bind q)
    exact ⟨k, by rw [C.eK]; exact truth_ok s1 r.w hk, Post.ok s1 q1 _ (.bl _)⟩
  · obtain ⟨env, st, ρ, Ow, en, sr, p⟩ := q
    exact ⟨env, st, ρ, Ow, en, sr, (Post.bind p).mono fun d st1 H1 ρ1 e1 s1 q => Post.ok s1 q⟩
theorem je_ife (C : CxG X T N sc n) (jc : JE X T xf W c sc' rc) (ja : JE X T xf W a sa ra) (jb : JE X T xf W b sb rb) : JE X T xf W (.IfExp c a b pos) (Sem.ife sc' sa sb) (ra && rb) := by
  have hv : PE X (.IfExp c a b pos) (tVal T xf W (ra && rb) (Sem.ife sc' sa sb).val) := by
    refine PE.imp (L2.pe_ifExp jc.test ja.val jb.val) fun σ H Q q => ?_
    obtain ⟨env, st, ρ, Ow, en, sr, p⟩ := q
    refine ⟨env, st, ρ, Ow, en, sr, (Post.bind p).mono fun t st1 H1 ρ1 e1 s1 q => ?_⟩
    cases t with
    | true =>
      refine ⟨env, st1, ρ1, Ow, en.ext e1 sr.disj, s1, Post.mono (show Post _ _ _ _ _ (sa.val env st1) from q) fun d st2 H2 ρ2 e2 s2 q2 v r => q2 v ?_⟩
      cases ra <;> cases rb <;> first | exact r | exact r.w
    | false =>
      refine ⟨env, st1, ρ1, Ow, en.ext e1 sr.disj, s1, Post.mono (show Post _ _ _ _ _ (sb.val env st1) from q) fun d st2 H2 ρ2 e2 s2 q2 v r => q2 v ?_⟩
      cases ra <;> cases rb <;> first | exact r | exact r.w
  refine ⟨hv, ⟨fun pins s σ H Q I q => ?_⟩, fun tg => ?_⟩
  · obtain ⟨env, st, ρ, Ow, en, sr, p⟩ := q
    show wpAny _ _ (do if ← isTrue c X.env (eval c X.env) then isTrue a X.env (eval a X.env) else isTrue b X.env (eval b X.env)) _ _ _
    refine wpAny_bind (L2.thn (jc.test.run pins s σ H (fun t H1 => if t = true then tTst T xf W sa.test σ H1 Q else tTst T xf W sb.test σ H1 Q) I ⟨env, st, ρ, Ow, en, sr, (Post.bind p).mono fun t st1 H1 ρ1 e1 s1 q => ?_⟩) fun t s1 ⟨H1, I1, q1⟩ => ?_)
    · cases t with
      | true => exact ⟨env, st1, ρ1, Ow, en.ext e1 sr.disj, s1, q⟩
      | false => exact ⟨env, st1, ρ1, Ow, en.ext e1 sr.disj, s1, q⟩
    · cases t with
      | true => exact ja.test.run pins s1 σ H1 Q I1 q1
      | false => exact jb.test.run pins s1 σ H1 Q I1 q1
  · exact items_of C hv

inductive JEs (X : Cx) (T : Tb) (xf : Nat → List Nm) (W : WX) : List Expr → List Sem → Prop
  | nil : JEs X T xf W [] []
  | cons {e : Expr} {s : Sem} {es : List Expr} {ss : List Sem} (h : plainE e = true) (j : JE X T xf W e s true) (js : JEs X T xf W es ss) : JEs X T xf W (e :: es) (s :: ss)
theorem pa_args : ∀ {es : List Expr} {ss : List Sem}, JEs X T xf W es ss → PA X es (tArg T xf W (args ss))
  | _, _, .nil => PA.imp L2.pa_nil fun σ H Q ⟨env, st, ρ, Ow, en, sr, p⟩ => Post.ok sr p [] .nil
  | _, _, .cons h j js => PA.imp (L2.pa_cons j.val (pa_args js) (plain_star h _ _)) fun σ H Q ⟨env, st, ρ, Ow, en, sr, p⟩ => by
    refine ⟨env, st, ρ, Ow, en, sr, (Post.bind p).mono fun d st1 H1 ρ1 e1 s1 q v r => ?_⟩
    refine ⟨env, st1, ρ1, Ow, en.ext e1 sr.disj, s1, (Post.bind q).mono fun ds st2 H2 ρ2 e2 s2 q2 vs rs => ?_⟩
    exact Post.ok s2 q2 _ (.cons (RV.ext e2 r) rs)
theorem args_len : ∀ {ss : List Sem} {env : Env} {st st' : Store} {ds : List D}, args ss env st = .ok ds st' → ds.length = ss.length
  | [], _, _, _, _, h => by cases h; rfl
  | s :: ss, env, st, st', ds, h => by
    have h1 : ((s.val env st).bind fun x st => (args ss env st).bind fun xs st => O.ok (x :: xs) st) = .ok ds st' := h
    cases e : s.val env st with
    | ok x s1 =>
      rw [e] at h1
      have h2 : ((args ss env s1).bind fun xs st => O.ok (x :: xs) st) = .ok ds st' := h1
      cases e2 : args ss env s1 with
      | ok xs s2 =>
        rw [e2] at h2
        cases h2
        simp [args_len e2]
      | ex _ _ _ => rw [e2] at h2; cases h2
      | bad => rw [e2] at h2; cases h2
    | ex _ _ _ => rw [e] at h1; cases h1
    | bad => rw [e] at h1; cases h1
/-- arguments, then an operation -/
theorem many_imp {str : Bool} {ss : List Sem} {f : List D → Store → O D} {r : List V → Hp → VK → Prop} (h : ∀ (σ : L2.St) (st : Store) (H : Hp) (ρ Ow : List Addr) (ds : List D) (vs : List V) (Q : VK), ds.length = ss.length → StR T H ρ Ow st → RVs T H ρ Ow vs ds →
      Post ⟨T, xf, W, σ⟩ H ρ Ow (fun d _ H' ρ' => ∀ v, RX str T H' ρ' Ow v d → Q v H') (f ds st) → r vs H Q) :
    ∀ σ H Q, tVal T xf W str (many ss f) σ H Q → tArg T xf W (args ss) σ H fun vs H1 => r vs H1 Q := by
  intro σ H Q ⟨env, st, ρ, Ow, en, sr, p⟩
  exact ⟨env, st, ρ, Ow, en, sr, (Post.bind p).eqn.mono fun ds st1 H1 ρ1 e1 s1 q vs rs => h σ st1 H1 ρ1 Ow ds vs Q (args_len q.1) s1 rs q.2⟩
theorem lim_len {k : Nat} (h : k ≤ LIM) : k ≤ sizeLine := by rw [← lim_line]; exact h
theorem lim_k {k : Nat} (h : k ≤ 1000) : k ≤ LIM := by rw [lim_line, sizeLine_eq]; omega
theorem je_tup {es : List Expr} {ss : List Sem} {k : Nat} (C : CxG X T N sc n) (hs : ss.length ≤ 1000) (js : JEs X T xf W es ss) :
    JE X T xf W (.Tuple es k pos) (Sem.of (many ss fun ds st => .ok (.tup ds) st)) true :=
  .of C (PE.imp (L2.pe_tup (pa_args js)) (many_imp fun σ st H ρ Ow ds vs Q hl s rs p => by
    have hz : vs.length ≤ LIM := lim_k (by rw [rs.length, hl]; exact hs)
    exact ⟨lim_len hz, fun q hq => p _ ρ (Ext.new hq) (s.new hq) _ (rv_tup hq (s.fresh hq).1 hz rs)⟩))
theorem je_lst {es : List Expr} {ss : List Sem} (C : CxG X T N sc n) (hs : ss.length ≤ 1000) (js : JEs X T xf W es ss) :
    JE X T xf W (.List es pos) (Sem.of (many ss fun ds st => .ok (.lst ds) st)) true :=
  .of C (PE.imp (L2.pe_lst (pa_args js)) (many_imp fun σ st H ρ Ow ds vs Q hl s rs p => by
    have hz : vs.length ≤ LIM := lim_k (by rw [rs.length, hl]; exact hs)
    exact ⟨lim_len hz, fun q hq => p _ ρ (Ext.new hq) (s.new hq) _ (rv_lst hq (s.fresh hq).1 (s.fresh hq).2 hz rs)⟩))
/-- a new place of the store -/
theorem StR.push {H : Hp} {ρ Ow : List Addr} {st : Store} {p : Addr} {o : HO} {ob : Obj} (s : StR T H ρ Ow st) (hp : H p = none) (r : ObR T (upd H p o) (ρ ++ [p]) Ow st.length p ob) : StR T (upd H p o) (ρ ++ [p]) Ow (st ++ [ob]) := by
  refine ⟨by simp [s.len]; omega, ?_, fun a ha => ?_, (s.new hp).lists, fun l a ob' h1 h2 => ?_, fun i q h => ?_⟩
  · rw [List.nodup_append]
    refine ⟨s.nd, by simp, fun a ha b hb e => ?_⟩
    rw [List.mem_singleton.mp hb] at e
    exact (s.fresh hp).1 (e ▸ ha)
  · rcases List.mem_append.mp ha with ha | ha
    · exact s.apart a ha
    · rw [List.mem_singleton.mp ha]; exact (s.fresh hp).2
  · by_cases hl : l < st.length
    · rw [List.getElem?_append_left (by rw [s.len]; omega)] at h1
      rw [List.getElem?_append_left hl] at h2
      have q := s.at_ l a ob' h1 h2
      exact q.ext (Ext.newS hp) (L2.upd_ne fun e => q.there (by rw [e]; exact hp))
    · have hl2 : l = st.length := by
        have := (List.getElem?_eq_some_iff.mp h2).1
        simp at this
        omega
      subst hl2
      rw [← s.len, List.getElem?_concat_length] at h1
      rw [List.getElem?_concat_length] at h2
      cases h1; cases h2
      exact r
  · obtain ⟨h1, h2⟩ := s.tab i q h
    exact ⟨by rw [List.getElem?_append_left (List.getElem?_eq_some_iff.mp h1).1]; exact h1, h2.ext (Ext.newS hp) (L2.upd_ne fun e => h2.there (by rw [e]; exact hp))⟩
theorem je_new {es : List Expr} {ss : List Sem} (C : CxG X T N sc n) (js : JEs X T xf W es ss) :
    JE X T xf W (.List es pos) (Sem.of (many ss newV)) true :=
  .of C (PE.imp (L2.pe_lst (pa_args js)) (many_imp fun σ st H ρ Ow ds vs Q hl s rs p => by
    unfold newV at p
    split at p
    · rename_i hc
      have hz : vs.length ≤ LIM := by rw [rs.length]; exact hc.2
      refine ⟨lim_len hz, fun q hq => ?_⟩
      have e := Ext.newS (ρ := ρ) (o := .lst vs) hq
      exact p _ (ρ ++ [q]) e (s.push hq ⟨hc.1, vs, L2.upd_same, hz, rs.ext e⟩) _ (.loc (by rw [← s.len, List.getElem?_concat_length]))
    · exact p.elim))
end
end G
/-! The engine's rules for expressions, 4: and, or, chains, built-ins. -/
namespace G
open PySem PySem.Spec PyProof.Rows
open L2 (V Hp HO upd SqL SqT Rd VK TE TT TA TI WX XK Cx PE PT PA PI Inv OpR CallR RelV Vals R2 PC PW)
section
variable {X : Cx} {T : Tb} {xf : Nat → List Nm} {W : WX} {N : List PySem.Str} {sc : Scope} {n : Nat}
variable {a b c : Expr} {sa sb sc' : Sem} {ra rb rc : Bool} {pos : Pos}
theorem bop_val (and : Bool) : ∀ {es : List Expr} {ss : List Sem}, JEs X T xf W es ss → es ≠ [] → PE X (.BoolOp (if and then .And else .Or) es pos) (tVal T xf W true (bopV and ss))
  | _, _, .nil, h => absurd rfl h
  | _, _, .cons h j .nil, _ => L2.pe_one j.val
  | _, _, .cons h j (.cons h2 j2 js), _ => by
    have ih := bop_val and (.cons h2 j2 js) (by simp)
    cases and with
    | true =>
      refine PE.imp (L2.pe_and j.val ih) fun σ H Q ⟨env, st, ρ, Ow, en, sr, p⟩ => ?_
      refine ⟨env, st, ρ, Ow, en, sr, (Post.bind p).mono fun d st1 H1 ρ1 e1 s1 q v r => ?_⟩
      cases d with
      | bl b =>
        cases r
        refine ⟨b, rfl, ?_⟩
        cases b with
        | true => exact ⟨env, st1, ρ1, Ow, en.ext e1 sr.disj, s1, q⟩
        | false => exact Post.ok s1 q _ (.bl false)
      | _ => exact q.elim
    | false =>
      refine PE.imp (L2.pe_or j.val ih) fun σ H Q ⟨env, st, ρ, Ow, en, sr, p⟩ => ?_
      refine ⟨env, st, ρ, Ow, en, sr, (Post.bind p).mono fun d st1 H1 ρ1 e1 s1 q v r => ?_⟩
      cases d with
      | bl b =>
        cases r
        refine ⟨b, rfl, ?_⟩
        cases b with
        | true => exact Post.ok s1 q _ (.bl true)
        | false => exact ⟨env, st1, ρ1, Ow, en.ext e1 sr.disj, s1, q⟩
      | _ => exact q.elim
theorem bop_test (and : Bool) : ∀ {es : List Expr} {ss : List Sem}, JEs X T xf W es ss → es ≠ [] → PW X (.BoolOp (if and then .And else .Or) es pos) (tTst T xf W (bopT and ss))
  | _, _, .nil, h => absurd rfl h
  | _, _, .cons h j .nil, _ => by
    cases and with
    | true => exact L2.pw_and1 j.test
    | false => exact L2.pw_or1 j.test
  | _, _, .cons h j (.cons h2 j2 js), _ => by
    have ih := bop_test and (.cons h2 j2 js) (by simp)
    cases and with
    | true =>
      refine ⟨fun wh pins s σ H Q I ⟨env, st, ρ, Ow, en, sr, p⟩ => (L2.pw_and j.test ih).run wh pins s σ H Q I ?_⟩
      refine ⟨env, st, ρ, Ow, en, sr, (Post.bind p).mono fun b st1 H1 ρ1 e1 s1 q => ?_⟩
      cases b with
      | true => exact ⟨env, st1, ρ1, Ow, en.ext e1 sr.disj, s1, q⟩
      | false => exact Post.ok s1 q
    | false =>
      refine ⟨fun wh pins s σ H Q I ⟨env, st, ρ, Ow, en, sr, p⟩ => (L2.pw_or j.test ih).run wh pins s σ H Q I ?_⟩
      refine ⟨env, st, ρ, Ow, en, sr, (Post.bind p).mono fun b st1 H1 ρ1 e1 s1 q => ?_⟩
      cases b with
      | true => exact Post.ok s1 q
      | false => exact ⟨env, st1, ρ1, Ow, en.ext e1 sr.disj, s1, q⟩
theorem je_bop {es : List Expr} {ss : List Sem} (and : Bool) (js : JEs X T xf W es ss) (h : es ≠ []) : JE X T xf W (.BoolOp (if and then .And else .Or) es pos) (Sem.bop and ss) true :=
  ⟨bop_val and js h, (bop_test and js h).pt, fun tg => items_bad⟩
theorem je_neg (C : CxG X T N sc n) (ja : JE X T xf W a sa ra) : JE X T xf W (.UnaryOp .USub a pos) (Sem.of (one sa fun x st => .of (neg1 x) st)) true :=
  .of C (PE.imp (L2.pe_un L2.un_neg ja.val) fun σ H Q ⟨env, st, ρ, Ow, en, sr, p⟩ => by
    refine ⟨env, st, ρ, Ow, en, sr, (Post.bind p).mono fun d st1 H1 ρ1 e1 s1 q v r => ?_⟩
    obtain ⟨d2, h2, q2⟩ := Post.of s1 q
    cases d with
    | int i =>
      cases h2
      have e := r.w.u.int
      subst e
      exact ⟨i, rfl, q2 _ (.int _)⟩
    | _ => cases h2)
theorem cmp_bl {o : Op2} {op : CmpOp} (h : cmpOf o = some op) {st : Store} {x y d : D} (e : op2 o st x y = some d) : ∃ k, d = .bl k := by
  cases o <;> cases h
  · obtain ⟨_, _, rfl⟩ := ok2 (show (if (okEq 64 (G.view st x) && okEq 64 (G.view st y)) = true then some (D.bl (pyEq (G.view st x) (G.view st y))) else none) = some d from e)
    exact ⟨_, rfl⟩
  · obtain ⟨_, _, rfl⟩ := ok2 (show (if (okEq 64 (G.view st x) && okEq 64 (G.view st y)) = true then some (D.bl (!pyEq (G.view st x) (G.view st y))) else none) = some d from e)
    exact ⟨_, rfl⟩
  · obtain ⟨i, j, _, _, e⟩ := ints2 e; cases e; exact ⟨_, rfl⟩
  · obtain ⟨i, j, _, _, e⟩ := ints2 e; cases e; exact ⟨_, rfl⟩
  · obtain ⟨i, j, _, _, e⟩ := ints2 e; cases e; exact ⟨_, rfl⟩
  · obtain ⟨i, j, _, _, e⟩ := ints2 e; cases e; exact ⟨_, rfl⟩
  · simp only [op2] at e; split at e <;> cases e <;> exact ⟨_, rfl⟩
  · simp only [op2] at e; split at e <;> cases e <;> exact ⟨_, rfl⟩
  · by_cases n0 : ∃ ks vs, x = .dct ks vs
    · obtain ⟨ks, vs, rfl⟩ := n0
      obtain ⟨_, _, _, rfl⟩ := str_or e
      exact ⟨_, rfl⟩
    · rcases mem_split (fun c b => .bl (b.contains c)) (fun ys => .bl (ys.any fun z => pyEq z (G.view st x))) (c0 := false) e (fun ks vs h => n0 ⟨ks, vs, h⟩) with ⟨_, _, _, _, rfl⟩ | ⟨_, _, _, _, rfl⟩ <;> exact ⟨_, rfl⟩
  · by_cases n0 : ∃ ks vs, x = .dct ks vs
    · obtain ⟨ks, vs, rfl⟩ := n0
      obtain ⟨_, _, _, rfl⟩ := str_or e
      exact ⟨_, rfl⟩
    · rcases mem_split (fun c b => .bl (!b.contains c)) (fun ys => .bl (!ys.any fun z => pyEq z (G.view st x))) (c0 := true) e (fun ks vs h => n0 ⟨ks, vs, h⟩) with ⟨_, _, _, _, rfl⟩ | ⟨_, _, _, _, rfl⟩ <;> exact ⟨_, rfl⟩
/-- a plain comparison -/
theorem je_cmp0 (C : CxG X T N sc n) {o : Op2} {op : CmpOp} (h : cmpOf o = some op) (hb : plainE b = true) (ja : JE X T xf W a sa ra) (jb : JE X T xf W b sb rb) :
    JE X T xf W (.Compare a [op] [b] pos) (Sem.of (two sa sb fun x y st => .of (op2 o st x y) st)) true :=
  je_cmp C hb (or_cmp C h) (fun σ st H ρ Ow dx dy x y Q s rx ry p => sem_of rfl s rx.w ry.w p) (fun x y st d st' e => by
    cases e2 : op2 o st x y with
    | none => rw [e2] at e; cases e
    | some z => rw [e2] at e; cases e; exact cmp_bl h e2) ja jb
theorem je_chain (C : CxG X T N sc n) {o p : Op2} {op pp : CmpOp} (h : cmpOf o = some op) (h' : cmpOf p = some pp) (hc : plainE c = true) (ja : JE X T xf W a sa ra) (jb : JE X T xf W b sb rb) (jc : JE X T xf W c sc' rc) :
    JE X T xf W (.Compare a [op, pp] [b, c] pos) (Sem.of (chain o p sa sb sc')) true := by
  have hm : lastMarks [op, pp] [b, c] = false := plain_marks hc pp
  have imp : ∀ σ H Q, tVal T xf W true (chain o p sa sb sc') σ H Q → L2.tChain (rSem T (op2 o)) (rSem T (op2 p)) (tVal T xf W ra sa.val) (tVal T xf W rb sb.val) (tVal T xf W rc sc'.val) σ H Q := by
    intro σ H Q ⟨env, st, ρ, Ow, en, sr, p0⟩
    refine ⟨env, st, ρ, Ow, en, sr, (Post.bind p0).mono fun d st1 H1 ρ1 e1 s1 q v r1 => ?_⟩
    refine ⟨env, st1, ρ1, Ow, en.ext e1 sr.disj, s1, (Post.bind q).mono fun d2 st2 H2 ρ2 e2 s2 q2 v2 r2 => ?_⟩
    have q3 := Post.bind q2
    cases ho : op2 o st2 d d2 with
    | none => rw [ho] at q3; exact q3.elim
    | some dz =>
      rw [ho] at q3
      obtain ⟨k, rfl⟩ := cmp_bl h ho
      refine ⟨st2, ρ2, Ow, d, d2, _, s2, r1.w.ext e2, r2.w, ho, fun v3 H3 nw r3 => ?_⟩
      cases r3
      have s3 := nw.st s2
      have q4 := q3 H3 ρ2 (nw.ext ρ2) s3
      refine ⟨k, rfl, ?_⟩
      cases k with
      | true =>
        refine L2.iteT ⟨env, st2, ρ2, Ow, (en.ext e1 sr.disj).ext (e2.trans (nw.ext ρ2)) s1.disj, s3, (Post.bind q4).mono fun d4 st4 H4 ρ4 e4 s4 q5 v4 r4 => ?_⟩
        exact sem_of rfl s4 (r2.w.ext ((nw.ext ρ2).trans e4)) r4.w q5
      | false => exact L2.iteF (Post.ok s3 q4 _ (.bl false))
  refine ⟨PE.imp (L2.pe_chain (or_cmp C h) (or_cmp C h') ja.val jb.val jc.val hm) imp, ?_, fun tg => items_of C (PE.imp (L2.pe_chain (or_cmp C h) (or_cmp C h') ja.val jb.val jc.val hm) imp)⟩
  refine PT.imp (L2.pt_chain (or_cmp C h) (or_cmp C h') ja.val jb.val jc.val hm) fun σ H Q q => ?_
  refine imp σ H _ ?_
  obtain ⟨env, st, ρ, Ow, en, sr, p0⟩ := q
  refine ⟨env, st, ρ, Ow, en, sr, (Post.bind p0).eqn.mono fun d st1 H1 ρ1 e1 s1 q v r => ?_⟩
  have hk : ∃ k, d = .bl k := by
    have e := q.1
    unfold chain at e
    cases h1 : sa.val env st with
    | ok x t1 =>
      rw [h1] at e
      have e : ((sb.val env t1).bind fun y st => (O.of (op2 o st x y) st).bind fun r st => match r with
        | .bl true => (sc'.val env st).bind fun z st => .of (op2 p st y z) st
        | .bl false => .ok (.bl false) st
        | _ => .bad) = .ok d st1 := e
      cases h2 : sb.val env t1 with
      | ok y t2 =>
        rw [h2] at e
        have e : ((O.of (op2 o t2 x y) t2).bind fun r st => match r with
          | .bl true => (sc'.val env st).bind fun z st => .of (op2 p st y z) st
          | .bl false => .ok (.bl false) st
          | _ => .bad) = .ok d st1 := e
        cases h3 : op2 o t2 x y with
        | none => rw [h3] at e; cases e
        | some r =>
          rw [h3] at e
          obtain ⟨k, rfl⟩ := cmp_bl h h3
          cases k with
          | false => cases e; exact ⟨_, rfl⟩
          | true =>
            have e : ((sc'.val env t2).bind fun z st => .of (op2 p st y z) st) = .ok d st1 := e
            cases h4 : sc'.val env t2 with
            | ok z t3 =>
              rw [h4] at e
              have e : O.of (op2 p t3 y z) t3 = .ok d st1 := e
              cases h5 : op2 p t3 y z with
              | none => rw [h5] at e; cases e
              | some w => rw [h5] at e; cases e; exact cmp_bl h' h5
            | ex _ _ _ => rw [h4] at e; cases e
            | bad => rw [h4] at e; cases e
      | ex _ _ _ => rw [h2] at e; cases e
      | bad => rw [h2] at e; cases e
    | ex _ _ _ => rw [h1] at e; cases e
    | bad => rw [h1] at e; cases e
  obtain ⟨k, rfl⟩ := hk
  cases r
  exact ⟨k, rfl, Post.ok s1 q.2⟩
end
end G
/-! The engine's rules for built-ins. -/
namespace G
open PySem PySem.Spec PyProof.Rows
open L2 (V Hp HO upd SqL SqT Rd VK TE TT TA TI WX XK Cx PE PT PA PI Inv OpR CallR RelV Vals R2 PC PW)

inductive RWs (T : Tb) (H : Hp) (ρ Ow : List Addr) : List V → List D → Prop
  | nil : RWs T H ρ Ow [] []
  | cons {v : V} {vs : List V} {d : D} {ds : List D} (r : RW T H ρ Ow v d) (rs : RWs T H ρ Ow vs ds) : RWs T H ρ Ow (v :: vs) (d :: ds)
def rBi (T : Tb) (f : Store → List D → Option D) : List V → Hp → VK → Prop := fun vs H Q => ∃ st ρ Ow ds dz, StR T H ρ Ow st ∧ RWs T H ρ Ow vs ds ∧ f st ds = some dz ∧ ∀ v H', New1 H H' → RV T H' ρ Ow v dz → Q v H'

section
variable {T : Tb} {H : Hp} {ρ Ow : List Addr} {st : Store}
theorem RWs.one {vs : List V} {d : D} (r : RWs T H ρ Ow vs [d]) : ∃ v, vs = [v] ∧ RW T H ρ Ow v d := by
  cases r with
  | cons r rs => cases rs; exact ⟨_, rfl, r⟩
theorem RWs.two {vs : List V} {d e : D} (r : RWs T H ρ Ow vs [d, e]) : ∃ v w, vs = [v, w] ∧ RW T H ρ Ow v d ∧ RW T H ρ Ow w e := by
  cases r with
  | cons r rs => obtain ⟨w, rfl, r2⟩ := rs.one; exact ⟨_, _, rfl, r, r2⟩
theorem ints_vals : ∀ {xs : List D} {vs : List V} {is : List Int}, G.dInts xs = some is → RVs T H ρ Ow vs xs → vs = is.map V.int
  | [], _, _, h, .nil => by cases h; rfl
  | .int i :: r, _, is, h, .cons q rs => by
    have h' : (G.dInts r).map (i :: ·) = some is := h
    rw [Option.map_eq_some_iff] at h'
    obtain ⟨js, h1, rfl⟩ := h'
    cases q
    rw [ints_vals h1 rs]; rfl
theorem bls_vals : ∀ {xs : List D} {vs : List V} {bs : List Bool}, G.bls xs = some bs → RVs T H ρ Ow vs xs → vs = bs.map V.bl
  | [], _, _, h, .nil => by cases h; rfl
  | .bl i :: r, _, is, h, .cons q rs => by
    have h' : (G.bls r).map (i :: ·) = some is := h
    rw [Option.map_eq_some_iff] at h'
    obtain ⟨js, h1, rfl⟩ := h'
    cases q
    rw [bls_vals h1 rs]; rfl
theorem strs_vals : ∀ {xs : List D} {vs : List V} {ss : List (List Nat)}, G.dStrs xs = some ss → RVs T H ρ Ow vs xs → vs = (ss.map fun s => (⟨s.toArray⟩ : PySem.Str)).map V.str ∧ ∀ s ∈ ss, s.length ≤ LIM ∧ s.all okCode = true
  | [], _, _, h, .nil => by cases h; exact ⟨rfl, fun _ h => by cases h⟩
  | .str i :: r, _, is, h, .cons q rs => by
    have h' : (G.dStrs r).map (i :: ·) = some is := h
    rw [Option.map_eq_some_iff] at h'
    obtain ⟨js, h1, rfl⟩ := h'
    cases q with
    | str _ z c =>
      obtain ⟨e, k⟩ := strs_vals h1 rs
      rw [e]
      exact ⟨rfl, fun s hs => by
        rcases List.mem_cons.mp hs with rfl | hs
        · exact ⟨z, c⟩
        · exact k s hs⟩
theorem rvs_ints : ∀ is : List Int, RVs T H ρ Ow (is.map V.int) (is.map D.int)
  | [] => .nil
  | i :: r => .cons (.int i) (rvs_ints r)
theorem rvs_strs : ∀ ss : List (List Nat), (∀ s ∈ ss, s.length ≤ LIM ∧ s.all okCode = true) → RVs T H ρ Ow ((ss.map fun s => (⟨s.toArray⟩ : PySem.Str)).map V.str) (ss.map D.str)
  | [], _ => .nil
  | s :: r, h => .cons (.str s (h s (by simp)).1 (h s (by simp)).2) (rvs_strs r fun t ht => h t (by simp [ht]))
end
theorem maxI_ok : ∀ {xs : List Int} {m : Int}, maxI xs = some m → m ∈ xs ∧ ∀ y ∈ xs, y ≤ m
  | [], _, h => by cases h
  | [x], m, h => by cases h; simp
  | x :: y :: r, m, h => by
    have h' : (maxI (y :: r)).map (fun m => if m < x then x else m) = some m := h
    rw [Option.map_eq_some_iff] at h'
    obtain ⟨k, hk, rfl⟩ := h'
    obtain ⟨h1, h2⟩ := maxI_ok hk
    split
    · refine ⟨by simp, fun z hz => ?_⟩
      rcases List.mem_cons.mp hz with rfl | hz
      · omega
      · have := h2 z hz; omega
    · refine ⟨List.mem_cons_of_mem _ h1, fun z hz => ?_⟩
      rcases List.mem_cons.mp hz with rfl | hz
      · omega
      · exact h2 z hz
theorem minI_ok : ∀ {xs : List Int} {m : Int}, minI xs = some m → m ∈ xs ∧ ∀ y ∈ xs, m ≤ y
  | [], _, h => by cases h
  | [x], m, h => by cases h; simp
  | x :: y :: r, m, h => by
    have h' : (minI (y :: r)).map (fun m => if x < m then x else m) = some m := h
    rw [Option.map_eq_some_iff] at h'
    obtain ⟨k, hk, rfl⟩ := h'
    obtain ⟨h1, h2⟩ := minI_ok hk
    split
    · refine ⟨by simp, fun z hz => ?_⟩
      rcases List.mem_cons.mp hz with rfl | hz
      · omega
      · have := h2 z hz; omega
    · refine ⟨List.mem_cons_of_mem _ h1, fun z hz => ?_⟩
      rcases List.mem_cons.mp hz with rfl | hz
      · omega
      · exact h2 z hz
theorem sorted_uniq {xs ys : List Int} (p : ys.Perm xs) (s : ys.Pairwise (· ≤ ·)) : ys = xs.mergeSort leI := by
  have h1 : (xs.mergeSort leI).Perm xs := List.mergeSort_perm xs leI
  have h2 : (xs.mergeSort leI).Pairwise (fun a b => leI a b = true) := List.pairwise_mergeSort (fun a b c h1 h2 => by simp [leI] at *; omega) (fun a b => by simp [leI]; omega) xs
  refine List.Perm.eq_of_pairwise (le := (· ≤ ·)) (fun a b _ _ h1 h2 => by omega) s ?_ (p.trans h1.symm)
  exact h2.imp fun h => by simpa [leI] using h
theorem intStr_eq (i : Int) : (PySem.Str.ofString (toString i)) = ⟨(intStr i).toArray⟩ := by
  rw [PySem.Str.ofString_eq_toList]
  congr 2
  cases i with
  | ofNat n => show (Nat.repr n).toList.map Char.toNat = _; simp [Nat.repr, intStr, natStr]
  | negSucc n => show ("-" ++ Nat.repr (n + 1)).toList.map Char.toNat = _; simp [Nat.repr, intStr, natStr]
section
variable {X : Cx} {T : Tb}
theorem cr_len (hK : X.K = T.K) : CallR X (.builtin "len") (rBi T (bi .len)) := by
  intro pins s σ H xs us Q I r ⟨st, ρ, Ow, ds, dz, sr, rs, e, k⟩
  refine L2.call_len pins s σ H xs us Q I r ?_
  match ds, rs, e with
  | [.str x], rs, e =>
    cases e
    obtain ⟨v, rfl, r1⟩ := rs.one
    obtain ⟨rfl, z, c⟩ := r1.u.str
    exact ⟨_, _, rfl, ⟨by rw [← lim_line]; simpa [Str.length] using z, rfl⟩, by simpa [Str.length] using k _ _ (.inl rfl) (.int _)⟩
  | [.tup x], rs, e => exact seq_len sr k (by rfl) e rs
  | [.lst x], rs, e => exact seq_len sr k (by rfl) e rs
  | [.fl x], rs, e => exact seq_len sr k (by rfl) e rs
  | [.loc x], rs, e => exact seq_len sr k (by rfl) e rs
  | [.non], rs, e => cases e
  | [.bl _], rs, e => cases e
  | [.int _], rs, e => cases e
  | [.dct _ _], rs, e => cases e
  | [.obj _ _], rs, e => cases e
  | [.exc _ _], rs, e => cases e
  | [.cls _], rs, e => cases e
  | [], rs, e => cases e
  | a :: b :: r, rs, e => cases a <;> cases e
where
  seq_len {st : Store} {H : Hp} {ρ Ow : List Addr} {xs : List V} {d dz : D} {Q : VK} (sr : StR T H ρ Ow st) (k : ∀ v H', New1 H H' → RV T H' ρ Ow v dz → Q v H') (hb : bi .len st [d] = (seqv st d).map fun xs => D.int xs.length) (e : bi .len st [d] = some dz) (rs : RWs T H ρ Ow xs [d]) :
      ∃ x n, xs = [x] ∧ L2.LenV X.K x H n ∧ Q (.int n) H := by
    rw [hb, Option.map_eq_some_iff] at e
    obtain ⟨ys, hy, rfl⟩ := e
    obtain ⟨v, rfl, r1⟩ := rs.one
    obtain ⟨a, vs, rfl, q, z, r2⟩ := r1.seq sr hy
    refine ⟨_, ys.length, rfl, ?_, k _ _ (.inl rfl) (.int _)⟩
    rcases q with q | q
    · exact .inl ⟨vs, by rw [hK]; exact q, r2.length.symm⟩
    · exact .inr ⟨vs, by rw [hK]; exact q, r2.length.symm⟩
end
end G
/-! The engine's judgement of statements. -/
namespace G
open PySem PySem.Spec PyProof.Rows
open L2 (V Hp HO upd SqL SqT Rd VK XK TE TT TA TI TS Ends WX Cx PE PT PA PI PS PSs Inv OpR CallR RelV Vals R2 PC PW)

/-- from one state of a body to a later one: the callers' own lists are kept -/
structure Step (Ow0 : List Addr) (H : Hp) (ρ Ow : List Addr) (H' : Hp) (ρ' Ow' : List Addr) : Prop where
  kp : Keeps H ρ Ow H' ρ' Ow'
  out : ∀ a ∈ Ow0, H' a = H a ∧ a ∈ Ow'
/-- a body's state -/
structure Fr (T : Tb) (Ow0 : List Addr) (H : Hp) (ρ Ow : List Addr) (σ : L2.St) (env : Env) (st : Store) : Prop where
  en : EnR T H ρ Ow σ env
  sr : StR T H ρ Ow st
  sub : ∀ a ∈ Ow0, a ∈ Ow
  out : ∀ (i : Nat) (xs : List D) (a : Addr), env[i]? = some (.own xs) → σ[i]? = some (some (.ref a)) → a ∉ Ow0
section
variable {T : Tb} {H H' H1 H2 : Hp} {ρ ρ' ρ1 ρ2 Ow Ow' Ow1 Ow2 Ow0 : List Addr} {σ : L2.St} {env : Env} {st st' : Store}
theorem Step.trans (a : Step Ow0 H ρ Ow H1 ρ1 Ow1) (b : Step Ow0 H1 ρ1 Ow1 H2 ρ2 Ow2) : Step Ow0 H ρ Ow H2 ρ2 Ow2 :=
  ⟨a.kp.trans b.kp, fun x hx => ⟨by rw [(b.out x hx).1, (a.out x hx).1], (b.out x hx).2⟩⟩
theorem Fr.refl (f : Fr T Ow0 H ρ Ow σ env st) : Step Ow0 H ρ Ow H ρ Ow := ⟨Keeps.refl _ _ _, fun a ha => ⟨rfl, f.sub a ha⟩⟩
theorem Fr.step (f : Fr T Ow0 H ρ Ow σ env st) (e : Ext H ρ H' ρ') : Step Ow0 H ρ Ow H' ρ' Ow := ⟨e.keeps Ow, fun a ha => by
  obtain ⟨vs, h⟩ := f.sr.lists a (f.sub a ha)
  exact ⟨by rw [h, (e.keep a _ h (f.sr.disj a (f.sub a ha))).1], f.sub a ha⟩⟩
theorem Fr.ext (f : Fr T Ow0 H ρ Ow σ env st) (e : Ext H ρ H' ρ') (s : StR T H' ρ' Ow st') : Fr T Ow0 H' ρ' Ow σ env st' := ⟨f.en.ext e f.sr.disj, s, f.sub, f.out⟩
end
/-- what is wanted of a body -/
structure WS where
  T : Tb
  xf : Nat → List Nm
  W : WX
  Ow0 : List Addr
  fre : Bool
/-- a returned value: any, or a list that nobody else has -/
def RRt (fre : Bool) (T : Tb) (H : Hp) (ρ Ow Ow0 : List Addr) (v : V) (d : D) : Prop := match fre with
  | false => RV T H ρ Ow v d
  | true => ∃ a vs xs, v = .ref a ∧ d = .lst xs ∧ a ∈ Ow ∧ a ∉ Ow0 ∧ H a = some (.lst vs) ∧ vs.length ≤ LIM ∧ RVs T H ρ Ow vs xs
def PostR (w : WS) (H : Hp) (ρ Ow : List Addr) (Z : Ends) : R → Prop
  | .nx env st => ∀ σ' H' ρ' Ow', Step w.Ow0 H ρ Ow H' ρ' Ow' → Fr w.T w.Ow0 H' ρ' Ow' σ' env st → Z.nx σ' H'
  | .bk env st => ∀ σ' H' ρ' Ow', Step w.Ow0 H ρ Ow H' ρ' Ow' → Fr w.T w.Ow0 H' ρ' Ow' σ' env st → Z.bk σ' H'
  | .ct env st => ∀ σ' H' ρ' Ow', Step w.Ow0 H ρ Ow H' ρ' Ow' → Fr w.T w.Ow0 H' ρ' Ow' σ' env st → Z.ct σ' H'
  | .rt d st => ∀ v H' ρ' Ow', Step w.Ow0 H ρ Ow H' ρ' Ow' → StR w.T H' ρ' Ow' st → RRt w.fre w.T H' ρ' Ow' w.Ow0 v d → Z.rt v H'
  | .ex env c fs st => ∀ cls dx σ' H' ρ' Ow', Step w.Ow0 H ρ Ow H' ρ' Ow' → Fr w.T w.Ow0 H' ρ' Ow' σ' env st → ExR w.T w.xf H' ρ' Ow' cls dx c fs → w.W cls dx σ' H'
  | .bad => False
def WS.o (w : WS) (σ : L2.St) : Wo := ⟨w.T, w.xf, w.W, σ⟩
def tStm (w : WS) (f : StS) : TS := fun Z σ H => ∃ env st ρ Ow, Fr w.T w.Ow0 H ρ Ow σ env st ∧ PostR w H ρ Ow Z (f env st)
section
variable {w : WS} {H H' H1 : Hp} {ρ ρ' ρ1 Ow Ow' Ow1 : List Addr} {σ : L2.St} {env : Env} {st st' : Store} {Z : Ends}
theorem PostR.later {r : R} (e : Step w.Ow0 H ρ Ow H1 ρ1 Ow1) (h : PostR w H ρ Ow Z r) : PostR w H1 ρ1 Ow1 Z r := by
  cases r with
  | nx env st => exact fun σ' H' ρ' Ow' s f => h σ' H' ρ' Ow' (e.trans s) f
  | bk env st => exact fun σ' H' ρ' Ow' s f => h σ' H' ρ' Ow' (e.trans s) f
  | ct env st => exact fun σ' H' ρ' Ow' s f => h σ' H' ρ' Ow' (e.trans s) f
  | rt d st => exact fun v H' ρ' Ow' s f r => h v H' ρ' Ow' (e.trans s) f r
  | ex env c fs st => exact fun cls dx σ' H' ρ' Ow' s f x => h cls dx σ' H' ρ' Ow' (e.trans s) f x
  | bad => exact h
/-- an expression, then more -/
theorem PostR.run {α : Type} {o : O α} {f : α → Store → R} (fr : Fr w.T w.Ow0 H ρ Ow σ env st) (h : PostR w H ρ Ow Z (o.run env f)) :
    Post (w.o σ) H ρ Ow (fun a st1 H1 ρ1 => Fr w.T w.Ow0 H1 ρ1 Ow σ env st1 ∧ PostR w H1 ρ1 Ow Z (f a st1)) o := by
  cases o with
  | ok a st1 => exact fun H1 ρ1 e s => ⟨fr.ext e s, PostR.later (fr.step e) h⟩
  | ex c fs st1 => exact fun cls dx H1 ρ1 e s x => h cls dx σ H1 ρ1 Ow (fr.step e) (fr.ext e s) x
  | bad => exact h
end
theorem PostR.run0 {w : WS} {H : Hp} {ρ Ow : List Addr} {σ : L2.St} {env : Env} {st : Store} {Z : Ends} {α : Type} {o : O α} {f : α → Store → R} (fr : Fr w.T w.Ow0 H ρ Ow σ env st) (h : PostR w H ρ Ow Z (o.run env f)) :
    Post (w.o σ) H ρ Ow (fun a st1 H1 ρ1 => Fr w.T w.Ow0 H1 ρ1 Ow σ env st1 ∧ PostR w H ρ Ow Z (f a st1)) o := by
  cases o with
  | ok a st1 => exact fun H1 ρ1 e s => ⟨fr.ext e s, h⟩
  | ex c fs st1 => exact fun cls dx H1 ρ1 e s x => h cls dx σ H1 ρ1 Ow (fr.step e) (fr.ext e s) x
  | bad => exact h
/-- the context of a body's statements -/
structure CxS (X : Cx) (w : WS) (N : List PySem.Str) (sc : Scope) (n : Nat) : Prop extends CxC X w.T N sc n where
  fn : ∀ x, X.fn x = true
  own : PassesOwn (model X.prog X.w) X.A X.env X.xe
  tk : L2.Takes X w.W
def JS (X : Cx) (w : WS) (s : Stmt) (f : StS) : Prop := PS X s (tStm w f)
def JSs (X : Cx) (w : WS) (s : List Stmt) (f : StS) : Prop := PSs X s (tStm w f)
section
variable {X : Cx} {w : WS} {N : List PySem.Str} {sc : Scope} {n : Nat} {e a b c : Expr} {pos : Pos} {se sc' : Sem} {str : Bool}
theorem PS.imp {s : Stmt} {t t' : TS} (h : PS X s t) (i : ∀ D σ H, t' D σ H → t D σ H) : PS X s t' := ⟨fun pins s σ H D I q => h.run pins s σ H D I (i D σ H q)⟩
theorem PSs.imp {s : List Stmt} {t t' : TS} (h : PSs X s t) (i : ∀ D σ H, t' D σ H → t D σ H) : PSs X s t' := ⟨fun pins s σ H D I q => h.run pins s σ H D I (i D σ H q)⟩
theorem js_bad {s : Stmt} : JS X w s fun _ _ => .bad := ⟨fun _ _ _ _ _ _ ⟨_, _, _, _, _, p⟩ => p.elim⟩
theorem jss_bad {s : List Stmt} : JSs X w s fun _ _ => .bad := ⟨fun _ _ _ _ _ _ ⟨_, _, _, _, _, p⟩ => p.elim⟩
theorem js_pass : JS X w (.Pass pos) fun env st => .nx env st := PS.imp L2.ps_pass fun D σ H ⟨env, st, ρ, Ow, f, p⟩ => p σ H ρ Ow f.refl f
theorem js_brk : JS X w (.Break pos) fun env st => .bk env st := PS.imp L2.ps_break fun D σ H ⟨env, st, ρ, Ow, f, p⟩ => p σ H ρ Ow f.refl f
theorem js_cont : JS X w (.Continue pos) fun env st => .ct env st := PS.imp L2.ps_continue fun D σ H ⟨env, st, ρ, Ow, f, p⟩ => p σ H ρ Ow f.refl f
theorem js_doc {x j} {pos pos' : Pos} : JS X w (.Expr (.Constant (.str x) j pos) pos') fun env st => .nx env st := PS.imp L2.ps_doc fun D σ H ⟨env, st, ρ, Ow, f, p⟩ => p σ H ρ Ow f.refl f
theorem RV.rt {T : Tb} {H : Hp} {ρ Ow Ow0 : List Addr} {v : V} {d : D} {fr : Bool} (h : fr = false) (r : RV T H ρ Ow v d) : RRt fr T H ρ Ow Ow0 v d := by
  subst h; exact r
theorem js_ret0 (hw : w.fre = false) : JS X w (.Return none pos) fun _ st => .rt .non st := PS.imp L2.ps_retN fun D σ H ⟨env, st, ρ, Ow, f, p⟩ => p _ H ρ Ow f.refl f.sr (RV.rt hw .non)
/-- the reading of an expression within a statement -/
theorem run_val {f : D → Store → R} {σ : L2.St} {H : Hp} {Z : Ends} {Q : VK} (i : ∀ (env : Env) (st : Store) (d : D) (v : V) (H : Hp) (ρ Ow : List Addr), Fr w.T w.Ow0 H ρ Ow σ env st → RX str w.T H ρ Ow v d → PostR w H ρ Ow Z (f d st) → Q v H) {env : Env} {st : Store} {ρ Ow : List Addr}
    (fr : Fr w.T w.Ow0 H ρ Ow σ env st) (p : PostR w H ρ Ow Z ((se.val env st).run env f)) : tVal w.T w.xf w.W str se.val σ H Q :=
  ⟨env, st, ρ, Ow, fr.en, fr.sr, (PostR.run fr p).mono fun d st1 H1 ρ1 e1 s1 q v r => i env st1 d v H1 ρ1 Ow q.1 r q.2⟩
theorem js_ret (hw : w.fre = false) (j : JE X w.T w.xf w.W e se true) : JS X w (.Return (some e) pos) fun env st => (se.val env st).run env fun d st => .rt d st :=
  PS.imp (L2.ps_ret j.val) fun D σ H ⟨env, st, ρ, Ow, f, p⟩ => run_val (f := fun d st => .rt d st) (fun env st d v H ρ Ow f r p => p v H ρ Ow f.refl f.sr (RV.rt hw r)) f p
/-- an expression that makes no comprehension -/
def noComp : Expr → Bool
  | .ListComp .. => false
  | .SetComp .. => false
  | .DictComp .. => false
  | _ => true
theorem noComp_swaps {e : Expr} (h : noComp e = true) (t : Option Expr) (l : Nat) (env : PySem.Env) : swapsWith e t l env = pure false := by
  cases e <;> first | rfl | cases h
theorem js_ex (h : noComp e = true) (j : JE X w.T w.xf w.W e se str) : JS X w (.Expr e pos) fun env st => (se.val env st).run env fun _ st => .nx env st :=
  PS.imp (L2.ps_expr j.val (noComp_swaps h _ _ _)) fun D σ H ⟨env, st, ρ, Ow, f, p⟩ => by
    exact ⟨env, st, ρ, Ow, f.en, f.sr, (PostR.run f p).mono fun d st1 H1 ρ1 e1 s1 q v r => q.2 σ H1 ρ1 Ow q.1.refl q.1⟩
theorem js_if {p q : List Stmt} {fa fb : StS} (jc : JE X w.T w.xf w.W c sc' str) (ja : JSs X w p fa) (jb : JSs X w q fb) : JS X w (.If c p q pos) fun env st => (sc'.test env st).run env fun t st => if t then fa env st else fb env st :=
  PS.imp (L2.ps_if jc.test ja jb) fun D σ H ⟨env, st, ρ, Ow, f, p⟩ => by
    refine ⟨env, st, ρ, Ow, f.en, f.sr, (PostR.run f p).mono fun t st1 H1 ρ1 e1 s1 q => ?_⟩
    cases t with
    | true => exact ⟨env, st1, ρ1, Ow, q.1, q.2⟩
    | false => exact ⟨env, st1, ρ1, Ow, q.1, q.2⟩
theorem jss_nil : JSs X w [] fun env st => .nx env st := PSs.imp L2.pss_nil fun Z σ H ⟨env, st, ρ, Ow, f, p⟩ => p σ H ρ Ow f.refl f
theorem jss_cons {s : Stmt} {ss : List Stmt} {f g : StS} (j : JS X w s f) (js : JSs X w ss g) : JSs X w (s :: ss) fun env st => seqR (f env st) g :=
  PSs.imp (L2.pss_cons j js) fun Z σ H ⟨env, st, ρ, Ow, fr, p⟩ => by
    refine ⟨env, st, ρ, Ow, fr, ?_⟩
    have p : PostR w H ρ Ow Z (seqR (f env st) g) := p
    cases e : f env st with
    | nx env1 st1 =>
      rw [e] at p
      exact fun σ' H' ρ' Ow' s f' => ⟨env1, st1, ρ', Ow', f', PostR.later s p⟩
    | bk env1 st1 => rw [e] at p; exact p
    | ct env1 st1 => rw [e] at p; exact p
    | rt d st1 => rw [e] at p; exact p
    | ex env1 c fs st1 => rw [e] at p; exact p
    | bad => rw [e] at p; exact p
end
end G
/-! The engine's statements, 2: the stores. -/
namespace G
open PySem PySem.Spec PyProof.Rows
open L2 (V Hp HO upd SqL SqT Rd VK XK TE TT TA TI TS TG TGs Ends WX Cx PE PT PA PI PS PSs PG PGs Inv OpR CallR RelV Vals R2 PC PW)

section
variable {T : Tb} {H H' H1 H2 : Hp} {ρ ρ' ρ1 ρ2 Ow Ow' Ow1 Ow2 Ow0 : List Addr} {σ : L2.St} {env : Env} {st st' : Store}
theorem EnR.set (en : EnR T H ρ Ow σ env) {v : V} {d : D} (i : Nat) (r : RV T H ρ Ow v d) : EnR T H ρ Ow (σ.set i (some v)) (env.set i (.v d)) := by
  refine ⟨by simp [en.len], fun j s h => ?_, fun j k xs ys a h1 h2 h3 h4 => ?_⟩
  · by_cases hj : i = j
    · subst hj
      have hi : i < env.length := by
        have := (List.getElem?_eq_some_iff.mp h).1
        simpa using this
      rw [List.getElem?_set_self hi] at h
      cases h
      rw [List.getElem?_set_self (by rw [← en.len]; exact hi)]
      exact r
    · rw [List.getElem?_set_ne hj] at h
      rw [List.getElem?_set_ne hj]
      exact en.at_ j s h
  · have e1 : i ≠ j := fun e => by
      subst e
      have hi : i < env.length := by
        have := (List.getElem?_eq_some_iff.mp h1).1
        simpa using this
      rw [List.getElem?_set_self hi] at h1; cases h1
    have e2 : i ≠ k := fun e => by
      subst e
      have hi : i < env.length := by
        have := (List.getElem?_eq_some_iff.mp h2).1
        simpa using this
      rw [List.getElem?_set_self hi] at h2; cases h2
    rw [List.getElem?_set_ne e1] at h1 h3
    rw [List.getElem?_set_ne e2] at h2 h4
    exact en.apart j k xs ys a h1 h2 h3 h4
theorem Fr.set (f : Fr T Ow0 H ρ Ow σ env st) {v : V} {d : D} (i : Nat) (r : RV T H ρ Ow v d) : Fr T Ow0 H ρ Ow (σ.set i (some v)) (env.set i (.v d)) st := by
  refine ⟨f.en.set i r, f.sr, f.sub, fun j xs a h1 h2 => ?_⟩
  have e1 : i ≠ j := fun e => by
    subst e
    have hi : i < env.length := by
      have := (List.getElem?_eq_some_iff.mp h1).1
      simpa using this
    rw [List.getElem?_set_self hi] at h1; cases h1
  rw [List.getElem?_set_ne e1] at h1 h2
  exact f.out j xs a h1 h2
theorem Fr.setOwn (f : Fr T Ow0 H ρ Ow σ env st) {a : Addr} {vs : List V} {xs : List D} (i : Nat) (m : a ∈ Ow) (n : a ∉ Ow0) (h : H a = some (.lst vs)) (z : vs.length ≤ LIM) (rs : RVs T H ρ Ow vs xs)
    (ap : ∀ (j : Nat) (ys : List D), j ≠ i → env[j]? = some (.own ys) → σ[j]? ≠ some (some (.ref a))) : Fr T Ow0 H ρ Ow (σ.set i (some (.ref a))) (env.set i (.own xs)) st := by
  refine ⟨⟨by simp [f.en.len], fun j s h1 => ?_, fun j k xs' ys b h1 h2 h3 h4 => ?_⟩, f.sr, f.sub, fun j ys b h1 h2 => ?_⟩
  · by_cases hj : i = j
    · subst hj
      have hi : i < env.length := by
        have := (List.getElem?_eq_some_iff.mp h1).1
        simpa using this
      rw [List.getElem?_set_self hi] at h1
      cases h1
      rw [List.getElem?_set_self (by rw [← f.en.len]; exact hi)]
      exact ⟨m, vs, h, z, rs⟩
    · rw [List.getElem?_set_ne hj] at h1
      rw [List.getElem?_set_ne hj]
      exact f.en.at_ j s h1
  · by_cases e1 : i = j
    · by_cases e2 : i = k
      · rw [← e1, ← e2]
      · subst e1
        have hi : i < env.length := by
          have := (List.getElem?_eq_some_iff.mp h1).1
          simpa using this
        rw [List.getElem?_set_self (by rw [← f.en.len]; exact hi)] at h3
        cases h3
        rw [List.getElem?_set_ne e2] at h2 h4
        exact absurd h4 (ap k ys (Ne.symm e2) h2)
    · by_cases e2 : i = k
      · subst e2
        have hi : i < env.length := by
          have := (List.getElem?_eq_some_iff.mp h2).1
          simpa using this
        rw [List.getElem?_set_self (by rw [← f.en.len]; exact hi)] at h4
        cases h4
        rw [List.getElem?_set_ne e1] at h1 h3
        exact absurd h3 (ap j xs' (Ne.symm e1) h1)
      · rw [List.getElem?_set_ne e1] at h1 h3
        rw [List.getElem?_set_ne e2] at h2 h4
        exact f.en.apart j k xs' ys b h1 h2 h3 h4
  · by_cases hj : i = j
    · subst hj
      have hi : i < env.length := by
        have := (List.getElem?_eq_some_iff.mp h1).1
        simpa using this
      rw [List.getElem?_set_self (by rw [← f.en.len]; exact hi)] at h2
      cases h2
      exact n
    · rw [List.getElem?_set_ne hj] at h1 h2
      exact f.out j ys b h1 h2
/-- a slot's own list is written -/
theorem ObR.keeps (e : Keeps H ρ Ow H' ρ' Ow') (hl : ∀ a ∈ Ow, ∃ vs, H a = some (.lst vs)) {l : Nat} {a : Addr} {o : Obj} (k : H' a = H a) (r : ObR T H ρ Ow l a o) : ObR T H' ρ' Ow' l a o := by
  cases o with
  | lst ds =>
    obtain ⟨p, vs, h, z, r⟩ := r
    exact ⟨p, vs, by rw [k]; exact h, z, r.keeps e hl⟩
  | ins c fs =>
    obtain ⟨p, dx, vs, h, z, z2, r⟩ := r
    exact ⟨p, dx, vs, by rw [k]; exact h, z, z2, r.keeps e hl⟩
theorem Keeps.upd {a : Addr} {o : HO} (m : a ∈ Ow) : Keeps H ρ Ow (upd H a o) ρ Ow := ⟨fun b u h n1 n2 => ⟨by rw [L2.upd_ne fun e => n2 (by rw [e]; exact m)]; exact h, n1, n2⟩, [], by simp⟩
theorem Fr.updOwn (f : Fr T Ow0 H ρ Ow σ env st) {i : Nat} {xs ys : List D} {a : Addr} {us : List V} (e : env[i]? = some (.own xs)) (hσ : σ[i]? = some (some (.ref a))) (z : us.length ≤ LIM) (rs : RVs T H ρ Ow us ys) :
    Step Ow0 H ρ Ow (upd H a (.lst us)) ρ Ow ∧ Fr T Ow0 (upd H a (.lst us)) ρ Ow σ (env.set i (.own ys)) st := by
  obtain ⟨a', vs, h1, m, h2, z2, rs2⟩ := f.en.own e
  rw [hσ] at h1; cases h1
  have n0 := f.out i xs a e hσ
  have k : Keeps H ρ Ow (upd H a (.lst us)) ρ Ow := Keeps.upd m
  have hn : a ∉ ρ := f.sr.disj a m
  have keepρ : ∀ b ∈ ρ, upd H a (.lst us) b = H b := fun b hb => L2.upd_ne fun e => hn (by rw [← e]; exact hb)
  have hl : ∀ b ∈ Ow, ∃ vs, upd H a (.lst us) b = some (.lst vs) := fun b hb => by
    by_cases e : b = a
    · exact ⟨us, by rw [e, L2.upd_same]⟩
    · obtain ⟨vs, q⟩ := f.sr.lists b hb
      exact ⟨vs, by rw [L2.upd_ne e]; exact q⟩
  refine ⟨⟨k, fun b hb => ⟨L2.upd_ne fun e => n0 (by rw [← e]; exact hb), f.sub b hb⟩⟩, ?_⟩
  have hi : i < env.length := (List.getElem?_eq_some_iff.mp e).1
  refine ⟨⟨by simp [f.en.len], fun j s h => ?_, fun j k' xs' ys' b h1 h2 h3 h4 => ?_⟩, ⟨f.sr.len, f.sr.nd, f.sr.apart, hl, fun l b ob h1 h2 => (f.sr.at_ l b ob h1 h2).keeps k f.sr.lists (keepρ b (List.mem_of_getElem? h1)), fun i q h => ⟨(f.sr.tab i q h).1, (f.sr.tab i q h).2.keeps k f.sr.lists (keepρ _ (List.mem_of_getElem? (f.sr.tab i q h).1))⟩⟩, f.sub, fun j zs b h1 h2 => ?_⟩
  · by_cases hj : i = j
    · subst hj
      rw [List.getElem?_set_self hi] at h
      cases h
      rw [hσ]
      exact ⟨m, us, L2.upd_same, z, rs.keeps k f.sr.lists⟩
    · rw [List.getElem?_set_ne hj] at h
      have q := f.en.at_ j s h
      cases s with
      | em =>
        cases hs : σ[j]? with
        | none => trivial
        | some o => cases o <;> trivial
      | v d =>
        cases hs : σ[j]? with
        | none => rw [hs] at q; exact q.elim
        | some o =>
          rw [hs] at q
          cases o with
          | none => exact q.elim
          | some v =>
            have q' : RV T H ρ Ow v d := q
            exact q'.keeps k f.sr.lists
      | own zs =>
        obtain ⟨b, ws, g1, g2, g3, g4, g5⟩ := f.en.own h
        rw [g1]
        have ne : b ≠ a := fun eb => by
          subst eb
          exact hj (f.en.apart i j xs zs b e h hσ g1)
        exact ⟨g2, ws, by rw [L2.upd_ne ne]; exact g3, g4, g5.keeps k f.sr.lists⟩
      | xc c fs =>
        obtain ⟨b, dx, fl, g1, g2, g3⟩ := f.en.xc h
        rw [g1]
        exact ⟨dx, fl, g2, g3.keeps k f.sr.lists⟩
  · have old : ∀ (j : Nat) (zs : List D), (env.set i (.own ys))[j]? = some (.own zs) → ∃ zs', env[j]? = some (.own zs') := fun j zs h => by
      by_cases hj : i = j
      · subst hj; exact ⟨xs, e⟩
      · rw [List.getElem?_set_ne hj] at h; exact ⟨zs, h⟩
    obtain ⟨z1, q1⟩ := old j xs' h1
    obtain ⟨z2, q2⟩ := old k' ys' h2
    exact f.en.apart j k' z1 z2 b q1 q2 h3 h4
  · by_cases hj : i = j
    · subst hj
      rw [hσ] at h2; cases h2
      exact n0
    · rw [List.getElem?_set_ne hj] at h1
      exact f.out j zs b h1 h2
/-- a place of the store is written -/
theorem Fr.updSt (f : Fr T Ow0 H ρ Ow σ env st) {l : Nat} {a : Addr} {o : HO} {ob : Obj} (ha : ρ[l + T.tabs.length]? = some a) (r : ObR T (upd H a o) ρ Ow l a ob) :
    Step Ow0 H ρ Ow (upd H a o) ρ Ow ∧ Fr T Ow0 (upd H a o) ρ Ow σ env (st.set l ob) := by
  have m : a ∈ ρ := List.mem_of_getElem? ha
  have e : Ext H ρ (upd H a o) ρ := Ext.set m
  refine ⟨f.step e, f.ext e ⟨by simp [f.sr.len], f.sr.nd, f.sr.apart, fun b hb => ?_, fun j b ob' h1 h2 => ?_, fun i q h => ?_⟩⟩
  · obtain ⟨vs, q⟩ := f.sr.lists b hb
    exact ⟨vs, by rw [L2.upd_ne fun e => f.sr.apart a m (by rw [← e]; exact hb)]; exact q⟩
  · by_cases hj : l = j
    · subst hj
      rw [ha] at h1; cases h1
      have hl : l < st.length := by
        have := (List.getElem?_eq_some_iff.mp h2).1
        simpa using this
      rw [List.getElem?_set_self hl] at h2
      cases h2
      exact r
    · rw [List.getElem?_set_ne hj] at h2
      have ne : b ≠ a := fun eb => by
        subst eb
        have p1 := List.getElem?_eq_some_iff.mp ha
        have p2 := List.getElem?_eq_some_iff.mp h1
        have := (List.getElem_inj f.sr.nd).mp (p1.2.trans p2.2.symm)
        omega
      exact (f.sr.at_ j b ob' h1 h2).ext e (L2.upd_ne ne)
  · obtain ⟨h1, h2⟩ := f.sr.tab i q h
    refine ⟨h1, h2.ext e (L2.upd_ne fun eb => ?_)⟩
    rw [eb] at h1
    have p1 := List.getElem?_eq_some_iff.mp ha
    have p2 := List.getElem?_eq_some_iff.mp h1
    have p3 := (List.getElem?_eq_some_iff.mp h).1
    have := (List.getElem_inj f.sr.nd).mp (p1.2.trans p2.2.symm)
    omega
end
end G
/-! The engine's statements, 3: assignments. -/
namespace G
open PySem PySem.Spec PyProof.Rows
open L2 (V Hp HO upd SqL SqT Rd VK XK TE TT TA TI TS TG TGs Ends WX Cx PE PT PA PI PS PSs PG PGs Inv OpR CallR RelV Vals R2 PC PW)
theorem PG.imp {X : Cx} {e : Expr} {t t' : TG} (h : PG X e t) (i : ∀ v σ H Q, t' v σ H Q → t v σ H Q) : PG X e t' := ⟨fun pins s σ H v u Q I r q => h.run pins s σ H v u Q I r (i v σ H Q q)⟩
theorem PGs.imp {X : Cx} {e : List Expr} {t t' : TGs} (h : PGs X e t) (i : ∀ v σ H Q, t' v σ H Q → t v σ H Q) : PGs X e t' := ⟨fun pins s σ H v u Q I r q => h.run pins s σ H v u Q I r (i v σ H Q q)⟩

section
variable {T : Tb} {H H' H1 H2 : Hp} {ρ ρ' ρ1 ρ2 Ow Ow' Ow1 Ow2 Ow0 : List Addr} {σ : L2.St} {env : Env} {st st' : Store}
theorem EnR.newOw (en : EnR T H ρ Ow σ env) (sr : StR T H ρ Ow st) {p : Addr} {vs : List V} (hp : H p = none) : EnR T (upd H p (.lst vs)) ρ (p :: Ow) σ env := by
  have en' := en.ext (Ext.new (ρ := ρ) (o := .lst vs) hp) sr.disj
  refine ⟨en.len, fun i s h => ?_, en.apart⟩
  have q0 := en.at_ i s h
  have q := en'.at_ i s h
  cases s with
  | em => cases hs : σ[i]? with
    | none => trivial
    | some o => cases o <;> trivial
  | v d =>
    cases hs : σ[i]? with
    | none => rw [hs] at q; exact q.elim
    | some o =>
      rw [hs] at q q0
      cases o with
      | none => exact q.elim
      | some v =>
        have r0 : RV T H ρ Ow v d := q0
        exact (r0.new hp).ext (Ext.new hp)
  | own ds =>
    obtain ⟨a, ws, g1, g2, g3, g4, g5⟩ := en.own h
    rw [g1]
    exact ⟨List.mem_cons_of_mem _ g2, ws, by rw [L2.upd_ne (L2.ne_of_none g3 hp)]; exact g3, g4, (g5.new hp).ext (Ext.new hp)⟩
  | xc c fs =>
    obtain ⟨a, dx, fl, g1, g2, g3⟩ := en.xc h
    rw [g1]
    refine ⟨dx, fl, g2, (g3.ow fun a h _ n hm => ?_).ext (Ext.new hp)⟩
    rcases List.mem_cons.mp hm with e | hm
    · rw [e] at h; exact h hp
    · exact n hm
theorem Fr.newOw (f : Fr T Ow0 H ρ Ow σ env st) {p : Addr} {vs : List V} (hp : H p = none) :
    Step Ow0 H ρ Ow (upd H p (.lst vs)) ρ (p :: Ow) ∧ Fr T Ow0 (upd H p (.lst vs)) ρ (p :: Ow) σ env st ∧ p ∉ Ow0 := by
  have n0 : p ∉ Ow0 := fun h => (f.sr.fresh hp).2 (f.sub p h)
  refine ⟨⟨⟨fun a o h n1 n2 => ⟨by rw [L2.upd_ne (L2.ne_of_none h hp)]; exact h, n1, fun hm => ?_⟩, [], by simp⟩, fun a ha => ⟨L2.upd_ne fun e => n0 (by rw [← e]; exact ha), List.mem_cons_of_mem _ (f.sub a ha)⟩⟩,
    ⟨f.en.newOw f.sr hp, f.sr.newOw hp, fun a ha => List.mem_cons_of_mem _ (f.sub a ha), f.out⟩, n0⟩
  rcases List.mem_cons.mp hm with e | hm
  · exact L2.ne_of_none h hp e
  · exact n2 hm
/-- slots' own places are of the old -/
theorem Fr.slotNe (f : Fr T Ow0 H ρ Ow σ env st) {p : Addr} (hp : H p = none) (j : Nat) (ys : List D) (h : env[j]? = some (.own ys)) : σ[j]? ≠ some (some (.ref p)) := fun e => by
  obtain ⟨a, ws, g1, g2, g3, g4, g5⟩ := f.en.own h
  rw [e] at g1; cases g1
  rw [hp] at g3; cases g3
end

/-- an expression that makes a new list -/
def tFre (T : Tb) (xf : Nat → List Nm) (W : WX) (f : Env → Store → O D) : TE := fun σ H Q => At T xf W f (fun d ρ Ow H' => ∃ xs, d = .lst xs ∧ ∀ p vs, H' p = none → RVs T H' ρ Ow vs xs → vs.length ≤ LIM → Q (.ref p) (upd H' p (.lst vs))) σ H
def JF (X : Cx) (T : Tb) (xf : Nat → List Nm) (W : WX) (e : Expr) (s : Sem) : Prop := PE X e (tFre T xf W s.val)

def onlyNx (Q : L2.St → Hp → Prop) : Ends := ⟨Q, fun _ _ => False, fun _ _ => False, fun _ _ => False⟩
theorem PostR.only {w : WS} {H : Hp} {ρ Ow : List Addr} {Z : Ends} {r : R} (h : r.pl = true) (p : PostR w H ρ Ow Z r) : PostR w H ρ Ow (onlyNx Z.nx) r := by
  cases r with
  | nx env st => exact p
  | ex env c fs st => exact p
  | bad => exact p
  | rt d st => cases h
  | bk env st => cases h
  | ct env st => cases h
def tTgt (w : WS) (f : D → StS) : TG := fun v σ H Q => ∃ env st ρ Ow d, Fr w.T w.Ow0 H ρ Ow σ env st ∧ RV w.T H ρ Ow v d ∧ PostR w H ρ Ow (onlyNx Q) (f d env st)
structure JT (X : Cx) (w : WS) (tg : Expr) (f : D → StS) : Prop where
  run : PG X tg (tTgt w f)
  pl : ∀ d env st, (f d env st).pl = true
/-- a name that this block stores -/
structure NmL (X : Cx) (x : PySem.Str) (i : Nat) : Prop where
  nd : X.N.Nodup
  at_ : X.N[i]? = some x
  loc : L2.Loc X.env.scope x
  fn : X.fn x = true ∨ X.env.scope.names.lookup x = some .local
section
variable {X : Cx} {w : WS} {N : List PySem.Str} {sc : Scope} {n : Nat} {e a b c tg : Expr} {pos pos' : Pos} {se sa sb : Sem} {str : Bool} {x : PySem.Str} {i : Nat}
theorem jt_nm (h : NmL X x i) : JT X w (.Name x pos) fun d env st => .nx (env.set i (.v d)) st :=
  ⟨PG.imp (L2.pg_name h.nd h.at_ h.loc h.fn) fun v σ H Q ⟨env, st, ρ, Ow, d, f, r, p⟩ => p _ H ρ Ow f.refl (f.set i r), fun _ _ _ => rfl⟩
/-- target = value -/
def isTup : Expr → Bool
  | .Tuple .. => true
  | .List .. => true
  | _ => false
theorem swapped_none {tg e : Expr} {env : PySem.Env} (h : isTup tg = false ∨ isTup e = false) : swappedStores [tg] e env = pure none := by
  rcases h with h | h
  · cases tg <;> first | (cases e <;> rfl) | cases h
  · cases e <;> first | (cases tg <;> rfl) | cases h
theorem js_asg {f : D → StS} (hc : swapsWith e (some tg) pos.line X.env = pure false) (ht : isTup tg = false ∨ isTup e = false) (he : (assignEach [tg] X.env).map (·.2) = [assign tg X.env]) (j : JE X w.T w.xf w.W e se true) (t : JT X w tg f) :
    JS X w (.Assign [tg] e pos) fun env st => (se.val env st).run env fun d st => f d env st :=
  PS.imp (L2.ps_asg j.val t.run (show swapsWithSole [tg] e pos.line X.env = pure false from hc) (swapped_none ht) he) fun Z σ H ⟨env, st, ρ, Ow, fr, p⟩ =>
    ⟨env, st, ρ, Ow, fr.en, fr.sr, (PostR.run fr p).mono fun d st1 H1 ρ1 e1 s1 q v r => ⟨env, st1, ρ1, Ow, d, q.1, r, q.2.only (t.pl _ _ _)⟩⟩
theorem js_own (h : NmL X x i) (hc : swapsWith e (some (.Name x pos')) pos.line X.env = pure false) (j : JF X w.T w.xf w.W e se) :
    JS X w (.Assign [.Name x pos'] e pos) fun env st => (se.val env st).run env fun d st => ownR i d env st :=
  PS.imp (L2.ps_asg j (L2.pg_name h.nd h.at_ h.loc h.fn) (show swapsWithSole [.Name x pos'] e pos.line X.env = pure false from hc) (swapped_none (.inl rfl)) (by rfl)) fun Z σ H ⟨env, st, ρ, Ow, fr, p⟩ => by
    refine ⟨env, st, ρ, Ow, fr.en, fr.sr, (PostR.run fr p).mono fun d st1 H1 ρ1 e1 s1 q => ?_⟩
    obtain ⟨f1, q⟩ := q
    cases d with
    | lst xs =>
      refine ⟨xs, rfl, fun p vs hp rs z => ?_⟩
      obtain ⟨g1, g2, g3⟩ := f1.newOw (vs := vs) hp
      exact q _ _ _ _ g1 (g2.setOwn i (List.mem_cons_self) g3 L2.upd_same z ((rs.new hp).ext (Ext.new hp)) fun j ys _ h => f1.slotNe hp j ys h)
    | _ => exact q.elim
theorem jf_lst {es : List Expr} {ss : List Sem} {T : Tb} {xf : Nat → List Nm} {W : WX} (hs : ss.length ≤ 1000) (js : JEs X T xf W es ss) :
    JF X T xf W (.List es pos) (Sem.of (many ss fun ds st => .ok (.lst ds) st)) :=
  PE.imp (L2.pe_lst (pa_args js)) fun σ H Q ⟨env, st, ρ, Ow, en, sr, p⟩ => by
    refine ⟨env, st, ρ, Ow, en, sr, (Post.bind p).eqn.mono fun ds st1 H1 ρ1 e1 s1 q vs rs => ?_⟩
    have hz : vs.length ≤ LIM := lim_k (by rw [rs.length, args_len q.1]; exact hs)
    obtain ⟨xs, e2, q2⟩ := Post.ok s1 q.2
    cases e2
    exact ⟨lim_len hz, fun p hp => q2 p vs hp rs hz⟩

/-! ### several targets -/
/-- values, or new lists -/
inductive VO (T : Tb) (H : Hp) (ρ Ow : List Addr) : List Addr → List Bool → List V → List D → Prop
  | nil : VO T H ρ Ow [] [] [] []
  | val {news : List Addr} {fl : List Bool} {v : V} {vs : List V} {d : D} {ds : List D} (r : RV T H ρ Ow v d) (rs : VO T H ρ Ow news fl vs ds) : VO T H ρ Ow news (false :: fl) (v :: vs) (d :: ds)
  | own {news : List Addr} {fl : List Bool} {a : Addr} {us vs : List V} {xs ds : List D} (m : a ∈ Ow) (h : H a = some (.lst us)) (z : us.length ≤ LIM) (r : RVs T H ρ Ow us xs) (rs : VO T H ρ Ow news fl vs ds) : VO T H ρ Ow (a :: news) (true :: fl) (.ref a :: vs) (.lst xs :: ds)
inductive JOs (X : Cx) (T : Tb) (xf : Nat → List Nm) (W : WX) : List Bool → List Expr → List Sem → Prop
  | nil : JOs X T xf W [] [] []
  | val {fl : List Bool} {e : Expr} {s : Sem} {es : List Expr} {ss : List Sem} (h : plainE e = true) (j : JE X T xf W e s true) (js : JOs X T xf W fl es ss) : JOs X T xf W (false :: fl) (e :: es) (s :: ss)
  | own {fl : List Bool} {e : Expr} {s : Sem} {es : List Expr} {ss : List Sem} (h : plainE e = true) (j : JF X T xf W e s) (sh : ∀ env st d st', s.val env st = .ok d st' → ∃ xs, d = .lst xs) (js : JOs X T xf W fl es ss) : JOs X T xf W (true :: fl) (e :: es) (s :: ss)
end
section
variable {T : Tb} {H H' H1 H2 : Hp} {ρ ρ' ρ1 ρ2 Ow Ow' Ow1 Ow2 Ow0 : List Addr} {σ : L2.St} {env : Env} {st st' : Store}
theorem VO.length {news : List Addr} {fl : List Bool} {vs : List V} {ds : List D} (h : VO T H ρ Ow news fl vs ds) : vs.length = ds.length := by
  induction h with
  | nil => rfl
  | val r rs ih => simp [ih]
  | own m h z r rs ih => simp [ih]
theorem VO.news {news : List Addr} {fl : List Bool} {vs : List V} {ds : List D} (h : VO T H ρ Ow news fl vs ds) : ∀ a ∈ news, H a ≠ none := by
  induction h with
  | nil => intro a h; cases h
  | val r rs ih => exact ih
  | own m h z r rs ih =>
    intro a ha
    rcases List.mem_cons.mp ha with e | ha
    · rw [e, h]; simp
    · exact ih a ha
/-- fewer places -/
theorem Post.shed {α : Type} {w : Wo} {H : Hp} {ρ Ow Ow' : List Addr} {Q : α → Store → Hp → List Addr → Prop} {o : O α} (hs : ∀ a ∈ Ow, a ∈ Ow') (h : Post w H ρ Ow Q o) : Post w H ρ Ow' Q o := by
  have less : ∀ {H' : Hp} {ρ' : List Addr} {st : Store}, StR w.T H' ρ' Ow' st → StR w.T H' ρ' Ow st := fun s => s.ow (fun a _ _ n h => n (hs a h)) (fun a ha hm => s.apart a ha (hs a hm)) fun a hm => s.lists a (hs a hm)
  cases o with
  | ok a st => exact fun H' ρ' e s => h H' ρ' e (less s)
  | ex c fs st =>
    intro cls dx H' ρ' e s x
    refine h cls dx H' ρ' e (less s) ⟨x.1, ?_⟩
    obtain ⟨_, x⟩ := x
    cases hx : w.xf c with
    | nil =>
      rw [hx] at x
      cases fs with
      | nil => cases dx with
        | none => trivial
        | some _ => exact x.elim
      | cons _ _ => exact x.elim
    | cons f r =>
      rw [hx] at x
      cases r with
      | cons _ _ => cases fs <;> exact x.elim
      | nil =>
        cases fs with
        | nil => exact x.elim
        | cons d r =>
          cases r with
          | cons _ _ => cases dx <;> exact x.elim
          | nil =>
            cases dx with
            | none => exact x.elim
            | some p =>
              obtain ⟨v, h1, h2, h3, h4⟩ := x
              exact ⟨v, h1, h2, fun h => h3 (hs p h), h4.ow fun a _ _ n h => n (hs a h)⟩
  | bad => exact h
end
def tOrg (T : Tb) (xf : Nat → List Nm) (W : WX) (fl : List Bool) (f : Env → Store → O (List D)) : TA := fun σ H Q => ∃ env st ρ Ow, EnR T H ρ Ow σ env ∧ StR T H ρ Ow st ∧
  Post ⟨T, xf, W, σ⟩ H ρ Ow (fun ds st2 H2 ρ2 => ∀ vs news more, (∀ a ∈ news, a ∈ more) → VO T H2 ρ2 (more ++ Ow) news fl vs ds → news.Nodup → (∀ a ∈ more, H a = none) → StR T H2 ρ2 (more ++ Ow) st2 → EnR T H2 ρ2 (more ++ Ow) σ env → Q vs H2) (f env st)
section
variable {X : Cx} {T : Tb} {xf : Nat → List Nm} {W : WX}
theorem Ext.there {H H' : Hp} {ρ ρ' : List Addr} (e : Ext H ρ H' ρ') {a : Addr} {o : HO} (h : H a = some o) (n : a ∉ ρ) : H' a = some o := (e.keep a o h n).1
theorem pa_org : ∀ {fl : List Bool} {es : List Expr} {ss : List Sem}, JOs X T xf W fl es ss → PA X es (tOrg T xf W fl (args ss))
  | _, _, _, .nil => PA.imp L2.pa_nil fun σ H Q ⟨env, st, ρ, Ow, en, sr, p⟩ => Post.ok sr p [] [] [] (fun a h => h) .nil .nil (fun a h => by cases h) sr en
  | _, _, _, .val h j js => PA.imp (L2.pa_cons j.val (pa_org js) (plain_star h _ _)) fun σ H Q ⟨env, st, ρ, Ow, en, sr, p⟩ => by
    refine ⟨env, st, ρ, Ow, en, sr, (Post.bind p).mono fun d st1 H1 ρ1 e1 s1 q v r => ?_⟩
    refine ⟨env, st1, ρ1, Ow, en.ext e1 sr.disj, s1, (Post.bind q).mono fun ds st2 H2 ρ2 e2 s2 q2 vs news more hm rs nd nw s3 n3 => ?_⟩
    refine Post.ok s2 q2 _ _ more hm (.val ?_ rs) nd (fun a ha => ?_) s3 n3
    · have r1 : RV T H1 ρ1 Ow v d := r
      have r2 : RV T H1 ρ1 (more ++ Ow) v d := r1.ow fun a h1 _ n h2 => (List.mem_append.mp h2).elim (fun h2 => h1 (nw a h2)) n
      exact r2.ext e2
    · cases hH : H a with
      | none => rfl
      | some o =>
        by_cases hρ : a ∈ ρ
        · have h1 : a ∈ ρ2 := by
            obtain ⟨m1, x1⟩ := e1.pre
            obtain ⟨m2, x2⟩ := e2.pre
            rw [x2, x1]; simp [hρ]
          exact absurd (List.mem_append_left Ow ha) (s3.apart a h1)
        · have := nw a ha
          rw [e1.there hH hρ] at this; cases this
  | _, _, _, .own h j sh js => PA.imp (L2.pa_cons j (pa_org js) (plain_star h _ _)) fun σ H Q ⟨env, st, ρ, Ow, en, sr, p⟩ => by
    refine ⟨env, st, ρ, Ow, en, sr, (Post.bind p).eqn.mono fun d st1 H1 ρ1 e1 s1 q => ?_⟩
    obtain ⟨eq, q⟩ := q
    obtain ⟨xs, rfl⟩ := sh _ _ _ _ eq
    refine ⟨xs, rfl, fun p us hp rus z => ?_⟩
    have en1 := en.ext e1 sr.disj
    have ep := Ext.new (ρ := ρ1) (o := HO.lst us) hp
    refine ⟨env, st1, ρ1, p :: Ow, en1.newOw s1 hp, s1.newOw hp, ((Post.bind q).later ep |>.shed (fun a ha => List.mem_cons_of_mem p ha)).mono fun ds st2 H2 ρ2 e2 s2 q2 vs news more hm rs nd nw s3 n3 => ?_⟩
    have mv : ∀ a, a ∈ more ++ p :: Ow → a ∈ (more ++ [p]) ++ Ow := fun a h => by simpa using h
    have mv' : (more ++ [p]) ++ Ow = more ++ p :: Ow := by simp
    have hpOw : p ∈ more ++ p :: Ow := by simp
    have hpn : p ∉ ρ2 := s3.disj p hpOw
    have hpH : H2 p = some (.lst us) := by
      have := e2.keep p _ (L2.upd_same) (fun h => by
        obtain ⟨o, q⟩ := s1.mem h
        rw [hp] at q; cases q)
      exact this.1
    have hnp : p ∉ news := fun h => by
      have := nw p (hm p h)
      rw [L2.upd_same] at this; cases this
    have s3' : StR T H2 ρ2 ((more ++ [p]) ++ Ow) st2 := by rw [mv']; exact s3
    have n3' : EnR T H2 ρ2 ((more ++ [p]) ++ Ow) σ env := by rw [mv']; exact n3
    have sOw : StR T H2 ρ2 Ow st2 := s3.ow (fun a _ _ n h => n (by simp [h])) (fun a ha hm' => s3.apart a ha (by simp [hm'])) fun a hm' => s3.lists a (by simp [hm'])
    refine Post.ok sOw q2 _ (p :: news) (more ++ [p]) (fun a ha => ?_) ?_ (List.nodup_cons.mpr ⟨hnp, nd⟩) (fun a ha => ?_) s3' n3'
    · rcases List.mem_cons.mp ha with e | ha
      · simp [e]
      · simp [hm a ha]
    · rw [mv']
      refine .own hpOw hpH z ?_ rs
      have r1 : RVs T (upd H1 p (.lst us)) ρ1 (p :: Ow) us xs := (rus.new hp).ext ep
      have r2 : RVs T (upd H1 p (.lst us)) ρ1 (more ++ p :: Ow) us xs := r1.ow fun a h1 _ n h2 => (List.mem_append.mp h2).elim (fun h2 => h1 (nw a h2)) n
      exact r2.ext e2
    · have sub : ∀ a, H1 a = none → a ∉ ρ2 → H a = none := fun a h1 h2 => by
        cases hH : H a with
        | none => rfl
        | some o =>
          by_cases hρ : a ∈ ρ
          · exfalso
            obtain ⟨m1, x1⟩ := e1.pre
            obtain ⟨m2, x2⟩ := e2.pre
            exact h2 (by rw [x2, x1]; simp [hρ])
          · rw [e1.there hH hρ] at h1; cases h1
      have hd : a ∉ ρ2 := s3'.disj a (List.mem_append_left _ ha)
      rcases List.mem_append.mp ha with ha | ha
      · have h1 := nw a ha
        have ne : a ≠ p := fun e => by rw [e, L2.upd_same] at h1; cases h1
        rw [L2.upd_ne ne] at h1
        exact sub a h1 hd
      · rw [List.mem_singleton.mp ha] at hd ⊢
        exact sub p hp hd
end
end G
/-! The engine's statements, 4: several targets, places of lists. -/
namespace G
open PySem PySem.Spec PyProof.Rows
open L2 (V Hp HO upd SqL SqT Rd VK XK TE TT TA TI TS TG TGs Ends WX Cx PE PT PA PI PS PSs PG PGs Inv OpR CallR RelV Vals R2 PC PW)

def sigO : List (Bool × Nat) → List V → L2.St → L2.St
  | (_, i) :: ts, v :: vs, σ => sigO ts vs (σ.set i (some v))
  | _, _, σ => σ
section
variable {T : Tb} {H H' H1 H2 : Hp} {ρ ρ' ρ1 ρ2 Ow Ow' Ow1 Ow2 Ow0 : List Addr} {σ : L2.St} {env : Env} {st st' : Store}
theorem VO.put {news : List Addr} {fl : List Bool} {vs : List V} {ds : List D} (h : VO T H ρ Ow news fl vs ds) : ∀ {ts : List (Bool × Nat)} {σ : L2.St} {env : Env}, ts.map (·.1) = fl → Fr T Ow0 H ρ Ow σ env st → news.Nodup → (∀ a ∈ news, a ∉ Ow0) →
    (∀ a ∈ news, ∀ (j : Nat) (ys : List D), env[j]? = some (.own ys) → σ[j]? ≠ some (some (.ref a))) → ∃ env', putO ts ds env = some env' ∧ Fr T Ow0 H ρ Ow (sigO ts vs σ) env' st := by
  induction h with
  | nil =>
    intro ts σ env e f nd n0 ap
    cases ts with
    | nil => exact ⟨env, rfl, f⟩
    | cons _ _ => cases e
  | @val news fl v vs d ds r rs ih =>
    intro ts σ env e f nd n0 ap
    cases ts with
    | nil => cases e
    | cons t ts =>
      obtain ⟨b, i⟩ := t
      simp only [List.map_cons, List.cons.injEq] at e
      obtain ⟨rfl, e⟩ := e
      refine ih (ts := ts) e (f.set i r) nd n0 fun a ha j ys h => ?_
      by_cases hj : i = j
      · subst hj
        have hi : i < env.length := by
          have := (List.getElem?_eq_some_iff.mp h).1
          simpa using this
        rw [List.getElem?_set_self hi] at h; cases h
      · rw [List.getElem?_set_ne hj] at h ⊢
        exact ap a ha j ys h
  | @own news fl a us vs xs ds m h z r rs ih =>
    intro ts σ env e f nd n0 ap
    cases ts with
    | nil => cases e
    | cons t ts =>
      obtain ⟨b, i⟩ := t
      simp only [List.map_cons, List.cons.injEq] at e
      obtain ⟨rfl, e⟩ := e
      have nd' := List.nodup_cons.mp nd
      refine ih (ts := ts) e (f.setOwn i m (n0 a (List.mem_cons_self)) h z r fun j ys _ hj => ap a (List.mem_cons_self) j ys hj) nd'.2 (fun b hb => n0 b (List.mem_cons_of_mem _ hb)) fun b hb j ys hj => ?_
      by_cases hij : i = j
      · subst hij
        have hi : i < env.length := by
          have := (List.getElem?_eq_some_iff.mp hj).1
          simpa using this
        rw [List.getElem?_set_self (by rw [← f.en.len]; exact hi)]
        intro e2
        cases e2
        exact nd'.1 hb
      · rw [List.getElem?_set_ne hij] at hj ⊢
        exact ap b (List.mem_cons_of_mem _ hb) j ys hj
theorem VO.vlen {news : List Addr} {fl : List Bool} {vs : List V} {ds : List D} (h : VO T H ρ Ow news fl vs ds) : vs.length = fl.length := by
  induction h with
  | nil => rfl
  | val r rs ih => simp [ih]
  | own m h z r rs ih => simp [ih]
end
section
variable {X : Cx} {w : WS} {N : List PySem.Str} {sc : Scope} {n : Nat} {e a b c tg : Expr} {pos pos' : Pos} {se sa sb : Sem} {str : Bool} {x y z : PySem.Str} {i j l : Nat}
/-- from the statement's wish to that of its arguments and names -/
theorem org_imp {ts : List (Bool × Nat)} {ss : List Sem} {Z : Ends} {σ : L2.St} {H : Hp} {Q : List V → Hp → Prop} {env : Env} {st : Store} {ρ Ow : List Addr} (fr : Fr w.T w.Ow0 H ρ Ow σ env st)
    (p : PostR w H ρ Ow Z ((args ss env st).run env fun ds st => ofPut (putO ts ds env) st)) (i : ∀ vs H', vs.length = ts.length → (∀ H'', New H' H'' → Z.nx (sigO ts vs σ) H'') → Q vs H') :
    tOrg w.T w.xf w.W (ts.map (·.1)) (args ss) σ H Q := by
  refine ⟨env, st, ρ, Ow, fr.en, fr.sr, (PostR.run0 fr p).mono fun ds st2 H2 ρ2 e2 s2 q vs news more hm rs nd nw s3 n3 => ?_⟩
  obtain ⟨f2, q⟩ := q
  have notH : ∀ a ∈ more, ∀ vs, H a ≠ some (.lst vs) := fun a ha vs h => by rw [nw a ha] at h; cases h
  have mOw : ∀ a ∈ more, a ∉ Ow := fun a ha h => by
    obtain ⟨vs, q⟩ := fr.sr.lists a h
    exact notH a ha vs q
  have f3 : Fr w.T w.Ow0 H2 ρ2 (more ++ Ow) σ env st2 := ⟨n3, s3, fun a ha => List.mem_append_right _ (fr.sub a ha), fr.out⟩
  have stp : Step w.Ow0 H ρ Ow H2 ρ2 (more ++ Ow) := by
    refine ⟨⟨fun a o h n1 n2 => ⟨(e2.keep a o h n1).1, (e2.keep a o h n1).2, fun hm' => ?_⟩, e2.pre⟩, fun a ha => ?_⟩
    · rcases List.mem_append.mp hm' with hm' | hm'
      · rw [nw a hm'] at h; cases h
      · exact n2 hm'
    · have q := (fr.step e2).out a ha
      exact ⟨q.1, List.mem_append_right _ q.2⟩
  obtain ⟨env', e1, f4⟩ := rs.put (ts := ts) rfl f3 nd (fun a ha h => mOw a (hm a ha) (fr.sub a h)) fun a ha j ys hj e => by
    obtain ⟨b, us, g1, g2, g3, g4, g5⟩ := fr.en.own hj
    rw [e] at g1; cases g1
    exact notH a (hm a ha) us g3
  rw [e1] at q
  exact i vs H2 (by rw [rs.vlen]; simp) fun H'' nw => q _ _ _ _ (stp.trans (f4.step (nw.ext ρ2))) (f4.ext (nw.ext ρ2) (nw.st f4.sr))

theorem vs2 {α : Type} {vs : List α} (h : vs.length = 2) : ∃ a b, vs = [a, b] := by
  match vs, h with
  | [a, b], _ => exact ⟨a, b, rfl⟩
theorem vs3 {α : Type} {vs : List α} (h : vs.length = 3) : ∃ a b c, vs = [a, b, c] := by
  match vs, h with
  | [a, b, c], _ => exact ⟨a, b, c, rfl⟩
theorem js_par2 {px py pt : Pos} {kt k2 pt2} {oi oj : Bool} {ss : List Sem} (hc : X.calm = true) (hi : NmL X x i) (hj : NmL X y j) (hij : i ≠ j) (hx : X.env.scope.names.lookup x = some .local) (hy : X.env.scope.names.lookup y = some .local)
    (hw : swappedStores [.Tuple [.Name x px, .Name y py] kt pt] (.Tuple [a, b] k2 pt2) X.env = pure (some [x, y])) (js : JOs X w.T w.xf w.W [oi, oj] [a, b] ss) :
    JS X w (.Assign [.Tuple [.Name x px, .Name y py] kt pt] (.Tuple [a, b] k2 pt2) pos) fun env st => (args ss env st).run env fun ds st => ofPut (putO [(oi, i), (oj, j)] ds env) st :=
  PS.imp (L2.ps_par hc hi.nd hi.at_ hj.at_ hij hx hy (pa_org js) hw (by rfl)) fun Z σ H ⟨env, st, ρ, Ow, fr, p⟩ => by
    refine org_imp (ts := [(oi, i), (oj, j)]) fr p fun vs H' hl q => ?_
    obtain ⟨u, v, rfl⟩ := vs2 hl
    exact ⟨u, v, rfl, q _ (.inl rfl)⟩
theorem js_par3 {px py pz pt : Pos} {kt k2 pt2} {oi oj ol : Bool} {ss : List Sem} (hc : X.calm = true) (hi : NmL X x i) (hj : NmL X y j) (hl : NmL X z l) (hij : i ≠ j) (hil : i ≠ l) (hjl : j ≠ l) (hx : X.env.scope.names.lookup x = some .local) (hy : X.env.scope.names.lookup y = some .local) (hz : X.env.scope.names.lookup z = some .local)
    (hw : swappedStores [.Tuple [.Name x px, .Name y py, .Name z pz] kt pt] (.Tuple [a, b, c] k2 pt2) X.env = pure (some [x, y, z])) (js : JOs X w.T w.xf w.W [oi, oj, ol] [a, b, c] ss) :
    JS X w (.Assign [.Tuple [.Name x px, .Name y py, .Name z pz] kt pt] (.Tuple [a, b, c] k2 pt2) pos) fun env st => (args ss env st).run env fun ds st => ofPut (putO [(oi, i), (oj, j), (ol, l)] ds env) st :=
  PS.imp (L2.ps_par3 hc hi.nd hi.at_ hj.at_ hl.at_ hij hil hjl hx hy hz (pa_org js) hw (by rfl)) fun Z σ H ⟨env, st, ρ, Ow, fr, p⟩ => by
    refine org_imp (ts := [(oi, i), (oj, j), (ol, l)]) fr p fun vs H' hl q => ?_
    obtain ⟨u, v, t, rfl⟩ := vs3 hl
    exact ⟨u, v, t, rfl, q _ (.inl rfl)⟩
/-- names, stored from the left out of a tuple -/
inductive NmLs (X : Cx) : List Expr → List (Bool × Nat) → Prop
  | nil : NmLs X [] []
  | cons {x : PySem.Str} {p : Pos} {o : Bool} {i : Nat} {es : List Expr} {ts : List (Bool × Nat)} (h : NmL X x i) (hs : NmLs X es ts) : NmLs X (.Name x p :: es) ((o, i) :: ts)
def tNms (ts : List (Bool × Nat)) : TGs := fun vs σ H Q => vs.length = ts.length ∧ Q (sigO ts vs σ) H
theorem pgs_nms : ∀ {es : List Expr} {ts : List (Bool × Nat)}, NmLs X es ts → PGs X es (tNms ts)
  | _, _, .nil => PGs.imp L2.pgs_nil fun vs σ H Q ⟨h, q⟩ => by
    cases vs with
    | nil => exact ⟨rfl, q⟩
    | cons _ _ => cases h
  | _, _, .cons h hs => PGs.imp (L2.pgs_cons (L2.pg_name h.nd h.at_ h.loc h.fn) (pgs_nms hs) (by rfl)) fun vs σ H Q ⟨hl, q⟩ => by
    cases vs with
    | nil => cases hl
    | cons v vs => exact ⟨v, vs, rfl, by simpa using hl, q⟩
theorem nms_each : ∀ {es : List Expr} {ts : List (Bool × Nat)}, NmLs X es ts → (assignEach es X.env).length = ts.length ∧ (assignEach es X.env).findIdx? (·.1) = none
  | _, _, .nil => ⟨rfl, rfl⟩
  | _, _, .cons h hs => by
    obtain ⟨h1, h2⟩ := nms_each hs
    refine ⟨?_, ?_⟩
    · show (_ :: assignEach _ X.env).length = _
      simp [h1]
    · show (_ :: assignEach _ X.env).findIdx? _ = none
      rw [List.findIdx?_cons]
      simp [h2]
theorem js_parN {es vs : List Expr} {kt k2 : Nat} {pt pt2 : Pos} {ts : List (Bool × Nat)} {ss : List Sem} (hc : X.calm = true) (hw : swappedStores [.Tuple es kt pt] (.Tuple vs k2 pt2) X.env = pure none) (hs : ts.length ≤ 1000) (hn : NmLs X es ts) (js : JOs X w.T w.xf w.W (ts.map (·.1)) vs ss) :
    JS X w (.Assign [.Tuple es kt pt] (.Tuple vs k2 pt2) pos) fun env st => (args ss env st).run env fun ds st => ofPut (putO ts ds env) st :=
  PS.imp (L2.ps_asg (L2.pe_tup (pa_org js)) (L2.pg_tup (n := ts.length) hc (pgs_nms hn) (nms_each hn).1 (nms_each hn).2) (by rfl) hw (by rfl)) fun Z σ H ⟨env, st, ρ, Ow, fr, p⟩ => by
    refine org_imp fr p fun vs H' hl q => ⟨lim_len (lim_k (by rw [hl]; exact hs)), fun r hr => ⟨r, vs, rfl, .inl (.inl L2.upd_same), hl, hl, q _ (.inr ⟨r, vs, hr, rfl⟩)⟩⟩
end
end G
/-! The engine's statements, 5: targets one by one, loops, append. -/
namespace G
open PySem PySem.Spec PyProof.Rows
open L2 (V Hp HO upd SqL SqT Rd VK XK TE TT TA TI TS TG TGs Ends WX Cx PE PT PA PI PS PSs PG PGs Inv OpR CallR RelV Vals R2 PC PW)

/-- a target of no star -/
def plainT : Expr → Bool
  | .Starred .. => false
  | _ => true
theorem each_cons {e : Expr} (h : plainT e = true) (es : List Expr) (env : PySem.Env) : assignEach (e :: es) env = (false, assign e env) :: assignEach es env := by
  cases e <;> first | rfl | cases h
theorem each_all {env : PySem.Env} : ∀ {es : List Expr}, es.all plainT = true → (assignEach es env).length = es.length ∧ (assignEach es env).findIdx? (·.1) = none
  | [], _ => ⟨rfl, rfl⟩
  | e :: es, h => by
    rw [List.all_cons, Bool.and_eq_true] at h
    obtain ⟨h1, h2⟩ := each_all (env := env) h.2
    rw [each_cons h.1]
    refine ⟨by simp [h1], ?_⟩
    rw [List.findIdx?_cons]
    simp [h2]
theorem assign_sub {o i : Expr} {pos : Pos} {env : PySem.Env} (h : plainE i = true) : ∀ v, assign (.Subscript o i pos) env v = (do
      let ov ← holding [v] (eval o env)
      let iv ← holding [v, ov] (eval i env)
      standAt pos
      holding [v, ov, iv] (setItem ov iv v)
      release [v, ov, iv] []) := by
  intro v
  cases i <;> first | rfl | cases h
/-- an object whose evaluation an attribute leaves as it is -/
def plainO : Expr → Bool
  | .Call (.Name _ _) [] [] _ => false
  | _ => true
theorem base_plain {o : Expr} (h : plainO o = true) (f : PySem.Str) (env : PySem.Env) (w : PySem.Sem Value) : attributeBase o f env w = w := by
  unfold attributeBase
  split
  · cases h
  · rfl

def tNmV (i : Nat) : TE := L2.tVar i
section
variable {X : Cx} {w : WS} {N : List PySem.Str} {sc : Scope} {n : Nat} {e a b c tg : Expr} {pos pos' : Pos} {se sa sb : Sem} {str : Bool} {x : PySem.Str} {i : Nat}
theorem pl_run {α : Type} {o : O α} {env : Env} {f : α → Store → R} (h : ∀ a st, (f a st).pl = true) : (o.run env f).pl = true := by
  cases o with
  | ok a st => exact h a st
  | ex c fs st => rfl
  | bad => rfl
theorem osubR_pl (i : Nat) (sb : Sem) : ∀ d env st, (osubR i sb d env st).pl = true := by
  intro d env st
  unfold osubR
  split
  · refine pl_run fun k st => ?_
    split
    · split <;> rfl
    · rfl
  · rfl
theorem jt_osub (hx : PE X (.Name x pos') (L2.tVar i)) (hb : plainE b = true) (j : JE X w.T w.xf w.W b sb true) : JT X w (.Subscript (.Name x pos') b pos) (osubR i sb) := by
  refine ⟨PG.imp (L2.pg_sub hx j.val L2.set_list (assign_sub hb)) fun v σ H Q ⟨env, st, ρ, Ow, d, fr, r, p⟩ => ?_, osubR_pl i sb⟩
  unfold osubR at p
  split at p
  · rename_i xs he
    obtain ⟨p0, us, h1, m, h2, z, rs⟩ := fr.en.own he
    refine ⟨_, h1, env, st, ρ, Ow, fr.en, fr.sr, (PostR.run fr p).mono fun k st1 H1 ρ1 e1 s1 q y ry => ?_⟩
    obtain ⟨f1, q⟩ := q
    cases k with
    | int k =>
      have ry' : RV w.T H1 ρ1 Ow y (.int k) := ry
      cases ry'
      have q' : PostR w H1 ρ1 Ow (onlyNx Q) (match ixN xs.length k with
        | some j => .nx (env.set i (.own (xs.set j d))) st1
        | none => .bad) := q
      cases hk : ixN xs.length k with
      | none => rw [hk] at q'; exact q'.elim
      | some j =>
        rw [hk] at q'
        obtain ⟨p1, us1, g1, m1, g2, z1, rs1⟩ := f1.en.own he
        rw [h1] at g1; cases g1
        refine ⟨p0, us1, k, j, rfl, rfl, g2, by rw [← ixN_eq, rs1.length]; exact hk, ?_⟩
        obtain ⟨stp, f2⟩ := f1.updOwn (us := us1.set j v) (ys := xs.set j d) he h1 (by rw [List.length_set]; exact z1) (RVs.set (r.ext e1) j rs1)
        exact q' _ _ _ _ stp f2
    | _ => exact q.elim
  · exact p.elim
theorem ltLocs_set {l : Nat} {d : D} (h : ltLoc l d = true) : ∀ {xs : List D} (j : Nat), ltLocs l xs = true → ltLocs l (xs.set j d) = true
  | [], _, _ => rfl
  | x :: xs, 0, q => by
    have q' : (ltLoc l x && ltLocs l xs) = true := q
    rw [Bool.and_eq_true] at q'
    show (ltLoc l d && ltLocs l xs) = true
    rw [h, q'.2]; rfl
  | x :: xs, j + 1, q => by
    have q' : (ltLoc l x && ltLocs l xs) = true := q
    rw [Bool.and_eq_true] at q'
    show (ltLoc l x && ltLocs l (xs.set j d)) = true
    rw [q'.1, ltLocs_set h j q'.2]; rfl
theorem subR_pl (sa sb : Sem) : ∀ d env st, (subR sa sb d env st).pl = true := by
  intro d env st
  unfold subR
  refine pl_run fun x st => pl_run fun k st => ?_
  split
  · split
    · split
      · split <;> rfl
      · rfl
    · rfl
  · rfl
theorem jt_sub (hb : plainE b = true) (ja : JE X w.T w.xf w.W a sa true) (j : JE X w.T w.xf w.W b sb true) : JT X w (.Subscript a b pos) (subR sa sb) := by
  refine ⟨PG.imp (L2.pg_sub ja.val j.val L2.set_list (assign_sub hb)) fun v σ H Q ⟨env, st, ρ, Ow, d, fr, r, p⟩ => ?_, subR_pl sa sb⟩
  refine ⟨env, st, ρ, Ow, fr.en, fr.sr, (PostR.run fr p).mono fun dx st1 H1 ρ1 e1 s1 q o ro => ?_⟩
  obtain ⟨f1, q⟩ := q
  refine ⟨env, st1, ρ1, Ow, f1.en, f1.sr, (PostR.run f1 q).mono fun dk st2 H2 ρ2 e2 s2 q2 y ry => ?_⟩
  obtain ⟨f2, q2⟩ := q2
  cases dx with
  | loc l =>
    cases dk with
    | int k =>
      have ro' : RV w.T H1 ρ1 Ow o (.loc l) := ro
      have ry' : RV w.T H2 ρ2 Ow y (.int k) := ry
      cases ry'
      have ro2 := ro'.ext e2
      cases ro2 with
      | loc ha =>
        rename_i pa
        have q2' : PostR w H2 ρ2 Ow (onlyNx Q) (match st2[l]? with
          | some (.lst xs) => match ixN xs.length k with
            | some j => if ltLoc l d then .nx env (st2.set l (.lst (xs.set j d))) else .bad
            | none => .bad
          | _ => .bad) := q2
        cases hst : st2[l]? with
        | none => rw [hst] at q2'; exact q2'.elim
        | some ob =>
          cases ob with
          | ins c fs => rw [hst] at q2'; exact q2'.elim
          | lst xs =>
            rw [hst] at q2'
            have q3 : PostR w H2 ρ2 Ow (onlyNx Q) (match ixN xs.length k with
              | some j => if ltLoc l d then .nx env (st2.set l (.lst (xs.set j d))) else .bad
              | none => .bad) := q2'
            cases hk : ixN xs.length k with
            | none => rw [hk] at q3; exact q3.elim
            | some jx =>
              rw [hk] at q3
              have q4 : PostR w H2 ρ2 Ow (onlyNx Q) (if ltLoc l d then .nx env (st2.set l (.lst (xs.set jx d))) else .bad) := q3
              split at q4
              · rename_i hl
                obtain ⟨lt, us, h1, z, rs⟩ := f2.sr.at_ l pa _ ha hst
                refine ⟨pa, us, k, jx, rfl, rfl, h1, by rw [← ixN_eq, rs.length]; exact hk, ?_⟩
                have rv : RV w.T H2 ρ2 Ow v d := (r.ext e1).ext e2
                have es : Ext H2 ρ2 (upd H2 pa (.lst (us.set jx v))) ρ2 := Ext.set (List.mem_of_getElem? ha)
                obtain ⟨stp, f3⟩ := f2.updSt (o := .lst (us.set jx v)) (ob := .lst (xs.set jx d)) ha ⟨ltLocs_set hl jx lt, us.set jx v, L2.upd_same, by rw [List.length_set]; exact z, RVs.set (rv.ext es) jx (rs.ext es)⟩
                exact q4 _ _ _ _ stp f3
              · exact q4.elim
    | _ => exact q2.elim
  | _ => cases dk <;> exact q2.elim

/-! ### targets of a tuple -/
inductive JTs (X : Cx) (w : WS) : List Expr → List (D → StS) → Prop
  | nil : JTs X w [] []
  | cons {e : Expr} {f : D → StS} {es : List Expr} {fs : List (D → StS)} (h : plainT e = true) (t : JT X w e f) (ts : JTs X w es fs) : JTs X w (e :: es) (f :: fs)
theorem JTs.plain {es : List Expr} {fs : List (D → StS)} (h : JTs X w es fs) : es.all plainT = true ∧ fs.length = es.length := by
  induction h with
  | nil => exact ⟨rfl, rfl⟩
  | cons h t ts ih => exact ⟨by rw [List.all_cons, h, ih.1]; rfl, by simp [ih.2]⟩
theorem JTs.pl {es : List Expr} {fs : List (D → StS)} (h : JTs X w es fs) : ∀ ds env st, (setAll fs ds env st).pl = true := by
  induction h with
  | nil => intro ds env st; cases ds <;> rfl
  | @cons e f es fs h t ts ih =>
    intro ds env st
    cases ds with
    | nil => rfl
    | cons d ds =>
      have q := t.pl d env st
      show (seqR (f d env st) (setAll fs ds)).pl = true
      cases e : f d env st with
      | nx env1 st1 => exact ih ds env1 st1
      | ex _ _ _ _ => rfl
      | bad => rfl
      | bk _ _ => rw [e] at q; cases q
      | ct _ _ => rw [e] at q; cases q
      | rt _ _ => rw [e] at q; cases q
def tTgts (w : WS) (fs : List (D → StS)) : TGs := fun vs σ H Q => ∃ env st ρ Ow ds, Fr w.T w.Ow0 H ρ Ow σ env st ∧ RVs w.T H ρ Ow vs ds ∧ PostR w H ρ Ow (onlyNx Q) (setAll fs ds env st)
theorem jts_run {es : List Expr} {fs : List (D → StS)} (h : JTs X w es fs) : PGs X es (tTgts w fs) := by
  induction h with
  | nil =>
    refine PGs.imp L2.pgs_nil fun vs σ H Q ⟨env, st, ρ, Ow, ds, fr, rs, p⟩ => ?_
    cases rs with
    | nil => exact ⟨rfl, p σ H ρ Ow fr.refl fr⟩
    | cons _ _ => exact p.elim
  | @cons e f es fs h t ts ih =>
    refine PGs.imp (L2.pgs_cons t.run ih (by rw [each_cons h]; rfl)) fun vs σ H Q ⟨env, st, ρ, Ow, ds, fr, rs, p⟩ => ?_
    cases rs with
    | nil => exact p.elim
    | @cons v vs d ds r rs =>
      refine ⟨v, vs, rfl, env, st, ρ, Ow, d, fr, r, ?_⟩
      have p' : PostR w H ρ Ow (onlyNx Q) (seqR (f d env st) (setAll fs ds)) := p
      cases e : f d env st with
      | nx env1 st1 =>
        rw [e] at p'
        exact fun σ' H' ρ' Ow' s f' => ⟨env1, st1, ρ', Ow', ds, f', rs.keeps s.kp fr.sr.lists, PostR.later s p'⟩
      | ex env1 c fs1 st1 => rw [e] at p'; exact p'
      | bad => rw [e] at p'; exact p'
      | bk _ _ => have q := t.pl d env st; rw [e] at q; cases q
      | ct _ _ => have q := t.pl d env st; rw [e] at q; cases q
      | rt _ _ => have q := t.pl d env st; rw [e] at q; cases q
/-- (t, ..) = a tuple, a list -/
theorem js_unp {es : List Expr} {k : Nat} {pt : Pos} {fs : List (D → StS)} (C : CxC X w.T N sc n) (hc : noComp e = true) (ht : isTup e = false) (j : JE X w.T w.xf w.W e se true) (t : JTs X w es fs) :
    JS X w (.Assign [.Tuple es k pt] e pos) fun env st => (se.val env st).run env fun d st => match d with
      | .tup ds => if ds.length = fs.length then setAll fs ds env st else .bad
      | .lst ds => if ds.length = fs.length then setAll fs ds env st else .bad
      | _ => .bad := by
  obtain ⟨h1, h2⟩ := each_all (env := X.env) t.plain.1
  have g1 := L2.pg_tup (n := fs.length) (pos := pt) (k := k) C.calm (jts_run t) (by rw [h1, t.plain.2]) h2
  have g2 := L2.pg_lst (n := fs.length) (pos := pt) (k := k) C.calm (jts_run t) (by rw [h1, t.plain.2]) h2
  have g : PG X (.Tuple es k pt) (fun v σ H Q => L2.gTup X.K fs.length _ v σ H Q ∨ L2.gLst X.K fs.length _ v σ H Q) :=
    ⟨fun pins s σ H v u Q I r t => t.elim (g1.run pins s σ H v u Q I r) (g2.run pins s σ H v u Q I r)⟩
  refine PS.imp (L2.ps_asg j.val g (show swapsWithSole [.Tuple es k pt] e pos.line X.env = pure false from by unfold swapsWithSole; exact noComp_swaps hc _ _ _) (swapped_none (.inr ht)) (by rfl)) fun Z σ H ⟨env, st, ρ, Ow, fr, p⟩ => ?_
  refine ⟨env, st, ρ, Ow, fr.en, fr.sr, (PostR.run fr p).mono fun d st1 H1 ρ1 e1 s1 q v r => ?_⟩
  obtain ⟨f1, q⟩ := q
  cases d with
  | tup ds =>
    have r' : RV w.T H1 ρ1 Ow v (.tup ds) := r
    cases r' with
    | @tup a vs _ q2 z rs =>
      have q' : PostR w H1 ρ1 Ow Z (if ds.length = fs.length then setAll fs ds env st1 else .bad) := q
      split at q'
      · rename_i hl
        exact .inl ⟨a, vs, rfl, by rw [C.eK]; exact q2.sq, by rw [rs.length]; exact hl, env, st1, ρ1, Ow, ds, f1, rs, q'.only (t.pl _ _ _)⟩
      · exact q'.elim
  | lst ds =>
    have r' : RV w.T H1 ρ1 Ow v (.lst ds) := r
    cases r' with
    | @lst a vs _ q2 n1 n2 z rs =>
      have q' : PostR w H1 ρ1 Ow Z (if ds.length = fs.length then setAll fs ds env st1 else .bad) := q
      split at q'
      · rename_i hl
        exact .inr ⟨a, vs, rfl, .inl (.inl q2), by rw [rs.length]; exact hl, env, st1, ρ1, Ow, ds, f1, rs, q'.only (t.pl _ _ _)⟩
      · exact q'.elim
  | _ => exact q.elim
/-- (t, ..) = (e, ..), not exchanged -/
theorem js_asgn {es vs : List Expr} {k k2 : Nat} {pt pt2 : Pos} {fs : List (D → StS)} {ss : List Sem} (C : CxC X w.T N sc n) (hw : swappedStores [.Tuple es k pt] (.Tuple vs k2 pt2) X.env = pure none) (hs : ss.length ≤ 1000) (hl : fs.length = ss.length) (js : JEs X w.T w.xf w.W vs ss) (t : JTs X w es fs) :
    JS X w (.Assign [.Tuple es k pt] (.Tuple vs k2 pt2) pos) fun env st => (args ss env st).run env fun ds st => setAll fs ds env st := by
  obtain ⟨h1, h2⟩ := each_all (env := X.env) t.plain.1
  refine PS.imp (L2.ps_asg (L2.pe_tup (pa_args js)) (L2.pg_tup (n := fs.length) C.calm (jts_run t) (by rw [h1, t.plain.2]) h2) (by rfl) hw (by rfl)) fun Z σ H ⟨env, st, ρ, Ow, fr, p⟩ => ?_
  refine ⟨env, st, ρ, Ow, fr.en, fr.sr, (PostR.run fr p).eqn.mono fun ds st1 H1 ρ1 e1 s1 q xs rs => ?_⟩
  obtain ⟨eq, f1, q⟩ := q
  have len : xs.length = ss.length := by rw [rs.length, args_len eq]
  refine ⟨lim_len (lim_k (by rw [len]; exact hs)), fun r hr => ⟨r, xs, rfl, .inl (.inl L2.upd_same), by rw [len, hl], env, st1, ρ1, Ow, ds, ?_, rs.ext (Ext.new hr), ?_⟩⟩
  · exact f1.ext (Ext.new hr) (s1.new hr)
  · exact PostR.later (f1.step (Ext.new hr)) (q.only (t.pl _ _ _))
end
end G
/-! The engine's statements, 6: patterns, loops, append, augmented stores. -/
namespace G
open PySem PySem.Spec PyProof.Rows
open L2 (V Hp HO upd SqL SqT Rd VK XK TE TT TA TI TS TG TGs Ends WX Cx PE PT PA PI PS PSs PG PGs Inv OpR CallR RelV Vals R2 PC PW)
section
variable {X : Cx} {w : WS} {N : List PySem.Str} {sc : Scope} {n : Nat} {e a b c tg : Expr} {pos pos' : Pos} {se sa sb sc' : Sem} {str : Bool} {x : PySem.Str} {i : Nat}

/-! ### patterns: names, tuples of them -/
/-- two states are alike but for some slots -/
def Off (is : List Nat) (σ σ' : L2.St) : Prop := σ'.length = σ.length ∧ ∀ j, j ∉ is → σ'[j]? = σ[j]?
theorem Off.trans {is js : List Nat} {σ σ1 σ2 : L2.St} (a : Off is σ σ1) (b : Off js σ1 σ2) : Off (is ++ js) σ σ2 :=
  ⟨b.1.trans a.1, fun j hj => by
    rw [List.mem_append, not_or] at hj
    rw [b.2 j hj.2, a.2 j hj.1]⟩
def tPt (T : Tb) (Ow0 : List Addr) (p : Pt) : TG := fun v σ H Q => ∃ env st ρ Ow d env', Fr T Ow0 H ρ Ow σ env st ∧ RV T H ρ Ow v d ∧ setPt p d env = some env' ∧ ∀ σ', Fr T Ow0 H ρ Ow σ' env' st → Off (ptSlots p) σ σ' → Q σ' H
def tPts (T : Tb) (Ow0 : List Addr) (ps : List Pt) : TGs := fun vs σ H Q => ∃ env st ρ Ow ds env', Fr T Ow0 H ρ Ow σ env st ∧ RVs T H ρ Ow vs ds ∧ setPts ps ds env = some env' ∧ ∀ σ', Fr T Ow0 H ρ Ow σ' env' st → Off (ptsSlots ps) σ σ' → Q σ' H
theorem setPts_len : ∀ {ps : List Pt} {ds : List D} {env env' : Env}, setPts ps ds env = some env' → ds.length = ps.length
  | [], [], _, _, _ => rfl
  | [], _ :: _, _, _, h => by simp [setPts] at h
  | _ :: _, [], _, _, h => by simp [setPts] at h
  | p :: ps, d :: ds, env, env', h => by
    simp only [setPts] at h
    obtain ⟨e1, h1, h2⟩ := Option.bind_eq_some_iff.mp h
    simp [setPts_len h2]
variable {T : Tb} {Ow0 : List Addr}
theorem pt_nm (h : NmL X x i) : PG X (.Name x pos) (tPt T Ow0 (.nm i)) :=
  PG.imp (L2.pg_name h.nd h.at_ h.loc h.fn) fun v σ H Q ⟨env, st, ρ, Ow, d, env', f, r, e, q⟩ => by
    have e' : some (env.set i (.v d)) = some env' := by simpa [setPt] using e
    cases e'
    exact q _ (f.set i r) ⟨by simp, fun j hj => List.getElem?_set_ne fun e => hj (by simp [ptSlots, e])⟩
theorem pts_nil : PGs X [] (tPts T Ow0 []) := PGs.imp L2.pgs_nil fun vs σ H Q ⟨env, st, ρ, Ow, ds, env', f, rs, e, q⟩ => by
  cases rs with
  | nil =>
    have e' : some env = some env' := by simpa [setPts] using e
    cases e'
    exact ⟨rfl, q σ f ⟨rfl, fun _ _ => rfl⟩⟩
  | cons _ _ => simp [setPts] at e
theorem pts_cons {es : List Expr} {p : Pt} {ps : List Pt} (h : plainT e = true) (t : PG X e (tPt T Ow0 p)) (ts : PGs X es (tPts T Ow0 ps)) : PGs X (e :: es) (tPts T Ow0 (p :: ps)) :=
  PGs.imp (L2.pgs_cons t ts (by rw [each_cons h]; rfl)) fun vs σ H Q ⟨env, st, ρ, Ow, ds, env', f, rs, e, q⟩ => by
    cases rs with
    | nil => simp [setPts] at e
    | @cons v vs d ds r rs =>
      simp only [setPts] at e
      obtain ⟨e1, h1, h2⟩ := Option.bind_eq_some_iff.mp e
      exact ⟨v, vs, rfl, env, st, ρ, Ow, d, e1, f, r, h1, fun σ' f' o1 => ⟨e1, st, ρ, Ow, ds, env', f', rs, h2, fun σ2 f2 o2 => q σ2 f2 (o1.trans o2)⟩⟩
theorem pt_tp {es : List Expr} {k : Nat} {ps : List Pt} (hc : X.calm = true) (hK : X.K = T.K) (hp : es.all plainT = true) (hl : es.length = ps.length) (ts : PGs X es (tPts T Ow0 ps)) : PG X (.Tuple es k pos) (tPt T Ow0 (.tp ps)) := by
  obtain ⟨h1, h2⟩ := each_all (env := X.env) hp
  have g1 := L2.pg_tup (n := ps.length) (pos := pos) (k := k) hc ts (by rw [h1, hl]) h2
  have g2 := L2.pg_lst (n := ps.length) (pos := pos) (k := k) hc ts (by rw [h1, hl]) h2
  have g : PG X (.Tuple es k pos) fun v σ H Q => L2.gTup X.K ps.length (tPts T Ow0 ps) v σ H Q ∨ L2.gLst X.K ps.length (tPts T Ow0 ps) v σ H Q :=
    ⟨fun pins s σ H v u Q I r t => t.elim (g1.run pins s σ H v u Q I r) (g2.run pins s σ H v u Q I r)⟩
  refine PG.imp g fun v σ H Q ⟨env, st, ρ, Ow, d, env', f, r, e, q⟩ => ?_
  cases d with
  | tup ds =>
    have e' : setPts ps ds env = some env' := by simpa [setPt] using e
    cases r with
    | @tup a vs _ q2 z rs => exact .inl ⟨a, vs, rfl, by rw [hK]; exact q2.sq, by rw [rs.length]; exact setPts_len e', env, st, ρ, Ow, ds, env', f, rs, e', q⟩
  | lst ds =>
    have e' : setPts ps ds env = some env' := by simpa [setPt] using e
    cases r with
    | @lst a vs _ q2 n1 n2 z rs => exact .inr ⟨a, vs, rfl, .inl (.inl q2), by rw [rs.length]; exact setPts_len e', env, st, ρ, Ow, ds, env', f, rs, e', q⟩
  | _ => simp [setPt] at e

/-! ### for -/
theorem js_for {iter : Expr} {body : List Stmt} {p : Pt} {f : StS} (C : CxS X w N sc n) (hf : plainE iter = true) (j : PI X tg iter (tIt w.T w.xf w.W true se.items)) (t : PG X tg (tPt w.T w.Ow0 p)) (jb : JSs X w body f) :
    JS X w (.For tg iter body [] pos) fun env st => (se.items env st).run env fun xs st => forL f p xs env st :=
  PS.imp (L2.ps_for C.own C.calm j t jb (fun x => plain_fold hf _ _)) fun Z σ H ⟨env, st, ρ, Ow, fr, po⟩ => by
    refine ⟨env, st, ρ, Ow, fr.en, fr.sr, (PostR.run fr po).mono fun ds st1 H1 ρ1 e1 s1 q J wk => ?_⟩
    obtain ⟨f1, q⟩ := q
    refine ⟨fun i m σ' H' => i ≤ ds.length ∧ m = ds.length - i ∧ ∃ env st ρ' Ow', Keeps H1 ρ1 Ow H' ρ' Ow' ∧ Fr w.T w.Ow0 H' ρ' Ow' σ' env st ∧ PostR w H' ρ' Ow' Z (forL f p (ds.drop i) env st), ⟨ds.length, Nat.zero_le _, rfl, env, st1, ρ1, Ow, Keeps.refl _ _ _, f1, q⟩, ?_⟩
    rintro i m σ2 H2 ⟨hi, rfl, env2, st2, ρ2, Ow2, k2, f2, p2⟩
    by_cases hl : i = ds.length
    · subst hl
      rw [List.drop_length] at p2
      exact .inl ⟨wk.stop H2 ρ2 Ow2 k2, p2 _ _ _ _ f2.refl f2⟩
    · have hlt : i < ds.length := by omega
      obtain ⟨d, hd⟩ : ∃ d, ds[i]? = some d := ⟨ds[i], List.getElem?_eq_getElem hlt⟩
      obtain ⟨go, yl⟩ := wk.step i d H2 ρ2 Ow2 st2 hd k2 f2.sr
      have hdr : ds.drop i = d :: ds.drop (i + 1) := by
        rw [List.drop_eq_getElem_cons hlt]
        have := (List.getElem?_eq_some_iff.mp hd).2
        rw [this]
      rw [hdr] at p2
      refine .inr ⟨go, fun σ' H' => ∃ env st ρ' Ow', Keeps H1 ρ1 Ow H' ρ' Ow' ∧ Fr w.T w.Ow0 H' ρ' Ow' σ' env st ∧ PostR w H' ρ' Ow' Z (forL f p (ds.drop (i + 1)) env st), fun σ' H' h => ⟨ds.length - (i + 1), by omega, by omega, rfl, h⟩, fun y H3 hy => ?_⟩
      obtain ⟨nw, ry⟩ := yl y H3 hy
      have f3 := f2.ext (nw.ext ρ2) (nw.st f2.sr)
      have stp3 := f2.step (nw.ext ρ2)
      have p3 : PostR w H2 ρ2 Ow2 Z (match setPt p d env2 with
        | none => .bad
        | some env => match f env st2 with
          | .nx env st => forL f p (ds.drop (i + 1)) env st
          | .ct env st => forL f p (ds.drop (i + 1)) env st
          | .bk env st => .nx env st
          | o => o) := p2
      cases hs : setPt p d env2 with
      | none => rw [hs] at p3; exact p3.elim
      | some env3 =>
        rw [hs] at p3
        refine ⟨env2, st2, ρ2, Ow2, d, env3, f3, ry, hs, fun σ3 f4 _ => ⟨env3, st2, ρ2, Ow2, f4, ?_⟩⟩
        have p4 : PostR w H2 ρ2 Ow2 Z (match f env3 st2 with
          | .nx env st => forL f p (ds.drop (i + 1)) env st
          | .ct env st => forL f p (ds.drop (i + 1)) env st
          | .bk env st => .nx env st
          | o => o) := p3
        have k3 : Keeps H1 ρ1 Ow H3 ρ2 Ow2 := k2.trans stp3.kp
        cases hr : f env3 st2 with
        | nx env4 st4 =>
          rw [hr] at p4
          exact fun σ5 H5 ρ5 Ow5 s5 f5 => ⟨env4, st4, ρ5, Ow5, k3.trans s5.kp, f5, PostR.later (stp3.trans s5) p4⟩
        | ct env4 st4 =>
          rw [hr] at p4
          exact fun σ5 H5 ρ5 Ow5 s5 f5 => ⟨env4, st4, ρ5, Ow5, k3.trans s5.kp, f5, PostR.later (stp3.trans s5) p4⟩
        | bk env4 st4 =>
          rw [hr] at p4
          exact fun σ5 H5 ρ5 Ow5 s5 f5 => p4 σ5 H5 ρ5 Ow5 (stp3.trans s5) f5
        | rt d4 st4 =>
          rw [hr] at p4
          exact fun v H5 ρ5 Ow5 s5 => p4 v H5 ρ5 Ow5 (stp3.trans s5)
        | ex env4 c4 fs4 st4 =>
          rw [hr] at p4
          exact fun cls dx σ5 H5 ρ5 Ow5 s5 => p4 cls dx σ5 H5 ρ5 Ow5 (stp3.trans s5)
        | bad => rw [hr] at p4; exact p4

/-! ### while -/
theorem js_while {body : List Stmt} {f : StS} (C : CxS X w N sc n) (jc : JE X w.T w.xf w.W c sc' str) (jb : JSs X w body f) : JS X w (.While c body [] pos) (whileL sc'.test f 2000) :=
  PS.imp (L2.ps_while C.own jc.test jb) fun Z σ H ⟨env, st, ρ, Ow, fr, po⟩ => by
    refine ⟨fun m σ' H' => ∃ env st ρ' Ow', Fr w.T w.Ow0 H' ρ' Ow' σ' env st ∧ PostR w H' ρ' Ow' Z (whileL sc'.test f m env st), ⟨2000, env, st, ρ, Ow, fr, po⟩, ?_⟩
    rintro m σ2 H2 ⟨env2, st2, ρ2, Ow2, f2, p2⟩
    cases m with
    | zero => exact p2.elim
    | succ m =>
      have p3 : PostR w H2 ρ2 Ow2 Z ((sc'.test env2 st2).run env2 fun b st => if b then (match f env2 st with
        | .nx env st => whileL sc'.test f m env st
        | .ct env st => whileL sc'.test f m env st
        | .bk env st => .nx env st
        | o => o) else .nx env2 st) := p2
      refine ⟨env2, st2, ρ2, Ow2, f2.en, f2.sr, (PostR.run f2 p3).mono fun b st3 H3 ρ3 e3 s3 q => ?_⟩
      obtain ⟨f3, q⟩ := q
      cases b with
      | false => exact q _ _ _ _ f3.refl f3
      | true =>
        have p4 : PostR w H3 ρ3 Ow2 Z (match f env2 st3 with
          | .nx env st => whileL sc'.test f m env st
          | .ct env st => whileL sc'.test f m env st
          | .bk env st => .nx env st
          | o => o) := q
        show ∃ N : L2.St → Hp → Prop, _
        refine ⟨fun σ' H' => ∃ env st ρ' Ow', Fr w.T w.Ow0 H' ρ' Ow' σ' env st ∧ PostR w H' ρ' Ow' Z (whileL sc'.test f m env st), fun σ' H' h => ⟨m, Nat.lt_succ_self m, h⟩, env2, st3, ρ3, Ow2, f3, ?_⟩
        cases hr : f env2 st3 with
        | nx env4 st4 =>
          rw [hr] at p4
          exact fun σ5 H5 ρ5 Ow5 s5 f5 => ⟨env4, st4, ρ5, Ow5, f5, PostR.later s5 p4⟩
        | ct env4 st4 =>
          rw [hr] at p4
          exact fun σ5 H5 ρ5 Ow5 s5 f5 => ⟨env4, st4, ρ5, Ow5, f5, PostR.later s5 p4⟩
        | bk env4 st4 => rw [hr] at p4; exact p4
        | rt d4 st4 => rw [hr] at p4; exact p4
        | ex env4 c4 fs4 st4 => rw [hr] at p4; exact p4
        | bad => rw [hr] at p4; exact p4

/-! ### x.append(e), x.insert(i, e), of a slot's own list -/
theorem isList {K : PySem.W.Frag} {H : Hp} {a : Addr} {vs : List V} (h : H a = some (.lst vs)) : L2.tyV K "list" (.ref a) H := .inl ⟨rfl, vs, .inl (.inl h)⟩
theorem list_slot_append : Slot "list" "append" "list.append" := PySem.F.slot_list_append
theorem js_app {apos cpos : Pos} (he : plainE e = true) (hl : (apos.endLine == cpos.line) = true) (hx : PE X (.Name x pos') (L2.tVar i)) (j : JE X w.T w.xf w.W e se true) :
    JS X w (.Expr (.Call (.Attribute (.Name x pos') "append" apos) [e] [] cpos) pos) (appR i se) :=
  PS.imp (L2.ps_expr (L2.pe_bm PySem.F.plainAttrs_list PySem.F.slot_list_append PySem.F.type_list_append L2.mt_append hx (L2.pa_cons j.val L2.pa_nil (plain_star he _ _)) (base_plain rfl _ _ _)
      (by rw [plain_star he]; rfl) hl (plain_star he _ _) (by rfl)) (by rfl)) fun Z σ H ⟨env, st, ρ, Ow, fr, p⟩ => by
    unfold appR at p
    split at p
    · rename_i xs hs
      obtain ⟨p0, us, h1, m, h2, z, rs⟩ := fr.en.own hs
      refine ⟨_, h1, isList h2, env, st, ρ, Ow, fr.en, fr.sr, (PostR.run fr p).mono fun d st1 H1 ρ1 e1 s1 q y ry => ?_⟩
      obtain ⟨f1, q⟩ := q
      have q' : PostR w H1 ρ1 Ow Z (if xs.length < LIM then .nx (env.set i (.own (xs ++ [d]))) st1 else .bad) := q
      split at q'
      · rename_i hlt
        obtain ⟨p1, us1, g1, m1, g2, z1, rs1⟩ := f1.en.own hs
        rw [h1] at g1; cases g1
        refine ⟨p0, us1, y, rfl, rfl, g2, by rw [← lim_line, rs1.length]; exact hlt, ?_⟩
        obtain ⟨stp, f2⟩ := f1.updOwn (us := us1 ++ [y]) (ys := xs ++ [d]) hs h1 (by rw [List.length_append, rs1.length]; exact hlt) (rs1.append (.cons ry .nil))
        exact q' _ _ _ _ stp f2
      · exact q'.elim
    · exact p.elim
theorem js_aug1 {o : Op2} {op : Operator} (h : NmL X x i) (g : Int → Int → Int) (hg : ∀ x y env st, aug1 o i x (.int y) env st = .nx (env.set i (.v (.int (g x y)))) st) (hp : L2.PIp X op (L2.ipI g)) (j : JE X w.T w.xf w.W e se str) :
    JS X w (.AugAssign (.Name x pos') op e pos) (augR i o se) :=
  PS.imp (L2.ps_aug h.nd h.at_ h.loc j.val hp h.fn) fun Z σ H ⟨env, st, ρ, Ow, fr, p⟩ => by
    unfold augR at p
    split at p
    · rename_i x0 he
      obtain ⟨v, hv, r⟩ := fr.en.get he
      cases r
      refine ⟨_, hv, env, st, ρ, Ow, fr.en, fr.sr, (PostR.run fr p).mono fun d st1 H1 ρ1 e1 s1 q y ry => ?_⟩
      obtain ⟨f1, q⟩ := q
      cases d with
      | int y0 =>
        have e2 := ry.w.u.int
        subst e2
        rw [hg] at q
        exact ⟨x0, y0, rfl, rfl, q _ _ _ _ f1.refl (f1.set i (.int _))⟩
      | _ => cases o <;> exact q.elim
    · exact p.elim
theorem js_aug {o : Op2} {op : Operator} (h : NmL X x i) (ho : (o = .add ∧ op = .Add) ∨ (o = .sub ∧ op = .Sub)) (j : JE X w.T w.xf w.W e se str) : JS X w (.AugAssign (.Name x pos') op e pos) (augR i o se) := by
  rcases ho with ⟨rfl, rfl⟩ | ⟨rfl, rfl⟩
  · exact js_aug1 h (fun a b => a + b) (fun _ _ _ _ => rfl) L2.ip_add j
  · exact js_aug1 h (fun a b => a - b) (fun _ _ _ _ => rfl) L2.ip_sub j
end
end G
/-! x.insert(k, e). -/
namespace G
open PySem PySem.Spec PyProof.Rows
open L2 (V Hp HO upd SqL SqT Rd VK XK TE TT TA TI TS TG TGs Ends WX Cx PE PT PA PI PS PSs PG PGs Inv OpR CallR RelV Vals R2 PC PW)
section
variable {X : Cx} {w : WS} {x : PySem.Str} {i : Nat} {e e2 : Expr} {pos pos' : Pos} {se sk : Sem} {str : Bool}
theorem js_ins {apos cpos : Pos} (he : plainE e = true) (he2 : plainE e2 = true) (hl : (apos.endLine == cpos.line) = true) (hx : PE X (.Name x pos') (L2.tVar i)) (jk : JE X w.T w.xf w.W e sk true) (j : JE X w.T w.xf w.W e2 se true) :
    JS X w (.Expr (.Call (.Attribute (.Name x pos') "insert" apos) [e, e2] [] cpos) pos) (insS i sk se) :=
  PS.imp (L2.ps_expr (L2.pe_bm PySem.F.plainAttrs_list PySem.F.slot_list_insert PySem.F.type_list_insert L2.mt_insert hx (L2.pa_cons jk.val (L2.pa_cons j.val L2.pa_nil (plain_star he2 _ _)) (plain_star he _ _)) (base_plain rfl _ _ _)
      (by rw [plain_star he, plain_star he2]; rfl) hl (plain_star he _ _) (by rw [plain_star he2]; rfl)) (by rfl)) fun Z σ H ⟨env, st, ρ, Ow, fr, p⟩ => by
    unfold insS at p
    split at p
    · rename_i xs hs
      obtain ⟨p0, us, h1, m, h2, z, rs⟩ := fr.en.own hs
      refine ⟨_, h1, isList h2, env, st, ρ, Ow, fr.en, fr.sr, (PostR.run fr p).mono fun dk st1 H1 ρ1 e1 s1 q yk ryk => ?_⟩
      obtain ⟨f1, q⟩ := q
      refine ⟨env, st1, ρ1, Ow, f1.en, f1.sr, (PostR.run f1 q).mono fun d st2 H2 ρ2 e2 s2 q2 y ry => ?_⟩
      obtain ⟨f2, q2⟩ := q2
      cases dk with
      | int k =>
        cases ryk
        have q' : PostR w H2 ρ2 Ow Z (if 0 ≤ k ∧ k ≤ xs.length ∧ xs.length < LIM then .nx (env.set i (.own (xs.take k.toNat ++ d :: xs.drop k.toNat))) st2 else .bad) := q2
        split at q'
        · rename_i hlt
          obtain ⟨p1, us1, g1, m1, g2, z1, rs1⟩ := f2.en.own hs
          rw [h1] at g1; cases g1
          have hl1 : us1.length = xs.length := rs1.length
          have hL : LIM < 2 ^ 63 := by unfold LIM; decide
          refine ⟨p0, us1, k, y, rfl, rfl, g2, by rw [← lim_line, hl1]; exact hlt.2.2, hlt.1, by omega, ?_⟩
          have rr : RVs w.T H2 ρ2 Ow (us1.take k.toNat ++ [y] ++ us1.drop k.toNat) (xs.take k.toNat ++ d :: xs.drop k.toNat) := by
            rw [List.append_assoc]
            exact (rs1.take _).append (.cons ry (rs1.drop _))
          obtain ⟨stp, f3⟩ := f2.updOwn (us := us1.take k.toNat ++ [y] ++ us1.drop k.toNat) (ys := xs.take k.toNat ++ d :: xs.drop k.toNat) hs h1 (by simp only [List.length_append, List.length_take, List.length_drop, List.length_singleton]; omega) rr
          exact q' _ _ _ _ stp f3
        · exact q'.elim
      | _ => exact q2.elim
    · exact p.elim
end
end G
/-! The engine's defs: what a def promises, its body's proof, its call. -/
namespace G
open PySem PySem.Spec PyProof.Rows
open L2 (V Hp HO upd SqL SqT Rd VK XK TE TT TA TI TS TG TGs Ends WX Cx PE PT PA PI PS PSs PG PGs Inv OpR CallR RelV Vals R2 PC PW Sp Room Env0 CR FnScope cxOf Binds Gl)

/-- a call's wish -/
def Want (T : Tb) (xf : Nat → List Nm) (c : Fd) (vs : List V) (H : Hp) (Q : VK) (E : XK) : Prop :=
  ∃ st ρ Ow ds, StR T H ρ Ow st ∧ RVs T H ρ Ow vs ds ∧ Post ⟨T, xf, fun cls dx _ H' => E cls dx H', []⟩ H ρ Ow (fun d _ H' ρ' => ∀ v, RV T H' ρ' Ow v d → Q v H') (c ds st)
/-- a call's wish of a new list -/
def Give (fr : Bool) (T : Tb) (Q : VK) (d : D) (H : Hp) (ρ Ow : List Addr) : Prop := match fr with
  | false => ∀ v, RV T H ρ Ow v d → Q v H
  | true => ∃ xs, d = .lst xs ∧ ∀ p vs, H p = none → RVs T H ρ Ow vs xs → vs.length ≤ LIM → Q (.ref p) (upd H p (.lst vs))
def WantX (fr : Bool) (T : Tb) (xf : Nat → List Nm) (c : Fd) (vs : List V) (H : Hp) (Q : VK) (E : XK) : Prop :=
  ∃ st ρ Ow ds, StR T H ρ Ow st ∧ RVs T H ρ Ow vs ds ∧ Post ⟨T, xf, fun cls dx _ H' => E cls dx H', []⟩ H ρ Ow (fun d _ H' ρ' => Give fr T Q d H' ρ' Ow) (c ds st)
/-- what surrounds all: the program, the module's facts -/
structure Wd where
  P : Program
  w : World
  K : PySem.W.Frag
  mg : PySem.Str → Option Value
  base : Heap
  T : Tb
  xf : Nat → List Nm
/-- a def keeps its meaning -/
structure FnG (Y : Wd) (k : Nat) (f : Addr) (fd : FuncData) (ps : List PySem.Str) (c : Fd) : Prop where
  run : ∀ (A : Around) (outer : List PySem.Env) (s : Shared) (H : Hp) (args : Args) (us : List Value) (vs : List V) (Q : VK) (E : XK), Room k A → A.guards = some [] → Env0 Y.P Y.w Y.K Y.mg Y.base A outer s H → BindsTo s fd args (ps.zip us) → Vals vs us → vs.length = ps.length → Want Y.T Y.xf c vs H Q E →
    codeAny (model Y.P Y.w) A (.call (.ref f) args) (CR (L2.CX Y.P Y.w) outer Y.P Y.w H s Q E) s
/-- the same, of a def that gives a new list -/
structure FnX (fr : Bool) (Y : Wd) (k : Nat) (f : Addr) (fd : FuncData) (ps : List PySem.Str) (c : Fd) : Prop where
  run : ∀ (A : Around) (outer : List PySem.Env) (s : Shared) (H : Hp) (args : Args) (us : List Value) (vs : List V) (Q : VK) (E : XK), Room k A → A.guards = some [] → Env0 Y.P Y.w Y.K Y.mg Y.base A outer s H → BindsTo s fd args (ps.zip us) → Vals vs us → vs.length = ps.length → WantX fr Y.T Y.xf c vs H Q E →
    codeAny (model Y.P Y.w) A (.call (.ref f) args) (CR (L2.CX Y.P Y.w) outer Y.P Y.w H s Q E) s
theorem FnX.g {Y : Wd} {j : Nat} {f : Addr} {fd : FuncData} {ps : List PySem.Str} {c : Fd} (F : FnX false Y j f fd ps c) : FnG Y j f fd ps c := ⟨F.run⟩
theorem FnG.mono {Y : Wd} {j k : Nat} {f : Addr} {fd : FuncData} {ps : List PySem.Str} {c : Fd} (F : FnG Y j f fd ps c) (h : j ≤ k) : FnG Y k f fd ps c :=
  ⟨fun A outer s H args us vs Q E hr => F.run A outer s H args us vs Q E (hr.mono h)⟩

section
variable {Y : Wd} {N ps : List PySem.Str} {qual : PySem.Str} {scope : Scope} {f : Addr} {cdv : Value} {k : Nat}
/-- the state at a body's start -/
theorem start_en {T : Tb} {H : Hp} {ρ Ow : List Addr} {vs : List V} {ds : List D} {st : Store} {m : Nat} (hm : N.length = m) (hl : vs.length ≤ m) (sr : StR T H ρ Ow st) (rs : RVs T H ρ Ow vs ds) :
    Fr T Ow H ρ Ow (L2.start N vs) (ds.map Sl.v ++ List.replicate (m - ds.length) .em) st := by
  have e1 := rs.length
  have none_own : ∀ (i : Nat) (xs : List D), (ds.map Sl.v ++ List.replicate (m - ds.length) .em)[i]? ≠ some (.own xs) := fun i xs h => by
    by_cases hi : i < (ds.map Sl.v).length
    · rw [List.getElem?_append_left hi, List.getElem?_map] at h
      cases e : ds[i]? with
      | none => rw [e] at h; cases h
      | some d => rw [e] at h; cases h
    · rw [List.getElem?_append_right (by omega), List.getElem?_replicate] at h
      split at h <;> cases h
  refine ⟨⟨?_, fun i s h => ?_, fun i j xs ys a h1 h2 _ _ => absurd h1 (none_own i xs)⟩, sr, fun a ha => ha, fun i xs a h1 _ => absurd h1 (none_own i xs)⟩
  · unfold L2.start
    simp only [List.length_append, List.length_map, List.length_replicate]
    omega
  · by_cases hi : i < (ds.map Sl.v).length
    · rw [List.getElem?_append_left hi, List.getElem?_map] at h
      cases e : ds[i]? with
      | none => rw [e] at h; cases h
      | some d =>
        rw [e] at h
        cases h
        obtain ⟨v, hv, r⟩ := rs.get e
        have hi2 : i < (vs.map some).length := by
          have := (List.getElem?_eq_some_iff.mp hv).1
          simpa using this
        unfold L2.start
        rw [List.getElem?_append_left hi2, List.getElem?_map, hv]
        exact r
    · rw [List.getElem?_append_right (by omega), List.getElem?_replicate] at h
      split at h
      · cases h
        cases (L2.start N vs)[i]? with
        | none => trivial
        | some o => cases o <;> trivial
      · cases h
/-- the heap without one place -/
def er (H : Hp) (a : Addr) : Hp := fun b => if b = a then none else H b
theorem er_ne {H : Hp} {a b : Addr} (h : b ≠ a) : er H a b = H b := by unfold er; rw [if_neg h]
theorem er_same {H : Hp} {a : Addr} : er H a a = none := by unfold er; rw [if_pos rfl]
theorem er_upd {H : Hp} {a : Addr} {o : HO} (h : H a = some o) : upd (er H a) a o = H := by
  funext b
  by_cases e : b = a
  · rw [e, L2.upd_same, h]
  · rw [L2.upd_ne e, er_ne e]
section
variable {T : Tb} {H : Hp} {ρ Ow : List Addr} {a : Addr} {us : List V}
theorem StT.er {K : PySem.W.Frag} (h : H a = some (.lst us)) {b : Addr} {vs : List V} (q : StT K H ρ b vs) : StT K (er H a) ρ b vs := by
  rcases q with ⟨q, n⟩ | q
  · refine .inl ⟨?_, n⟩
    have ne : b ≠ a := fun e => by
      subst e
      rcases q with q | ⟨o, q⟩ <;> rw [h] at q <;> cases q
    rcases q with q | ⟨o, q⟩
    · exact .inl (by rw [er_ne ne]; exact q)
    · exact .inr ⟨o, by rw [er_ne ne]; exact q⟩
  · exact .inr q
theorem StL.er {K : PySem.W.Frag} (h : H a = some (.lst us)) {b : Addr} {vs : List V} (q : StL K H ρ b vs) : StL K (er H a) ρ b vs := by
  rcases q with ⟨⟨o, q⟩, n⟩ | q
  · have ne : b ≠ a := fun e => by rw [e, h] at q; cases q
    exact .inl ⟨⟨o, by rw [er_ne ne]; exact q⟩, n⟩
  · exact .inr q
mutual
theorem RV.er (h : H a = some (.lst us)) (m : a ∈ Ow) : ∀ {d : D} {v : V}, RV T H ρ Ow v d → RV T (er H a) ρ Ow v d
  | _, _, .non => .non
  | _, _, .bl b => .bl b
  | _, _, .int i => .int i
  | _, _, .str s h c => .str s h c
  | _, _, .tup q z r => .tup (q.er h) z (RVs.er h m r)
  | _, _, .lst q n1 n2 z r => .lst (by rw [er_ne fun e => n2 (by rw [e]; exact m)]; exact q) n1 n2 z (RVs.er h m r)
  | _, _, .fl q z r => .fl (q.er h) z (RVs.er h m r)
  | _, _, .loc h => .loc h
  | _, _, .obj q n1 n2 z r => .obj (by rw [er_ne fun e => n2 (by rw [e]; exact m)]; exact q) n1 n2 z (RVs.er h m r)
  | _, _, .dct q n1 n2 hk r => .dct (by rw [er_ne fun e => n2 (by rw [e]; exact m)]; exact q) n1 n2 hk (RVs.er h m r)
  | _, _, .cls c => .cls c
theorem RVs.er (h : H a = some (.lst us)) (m : a ∈ Ow) : ∀ {ds : List D} {vs : List V}, RVs T H ρ Ow vs ds → RVs T (er H a) ρ Ow vs ds
  | _, _, .nil => .nil
  | _, _, .cons r rs => .cons (RV.er h m r) (RVs.er h m rs)
end
theorem TabG.er {P : Addr} {q : PySem.Str} (h : H a = some (.lst us)) (t : TabG H ρ P q) : TabG (G.er H a) ρ P q := by
  have n := t.notList (vs := us)
  obtain ⟨ps, h1, h2, h3⟩ := t
  refine ⟨ps, by rw [er_ne fun e => n (by rw [e]; exact h)]; exact h1, h2, fun pos cv hc => ?_⟩
  obtain ⟨c, e1, e2, e3⟩ := h3 pos cv hc
  exact ⟨c, e1, by rw [er_ne fun e => by rw [e, h] at e2; exact codeO_list e2.symm]; exact e2, e3⟩
theorem StR.er {st : Store} (h : H a = some (.lst us)) (m : a ∈ Ow) {Ow0 : List Addr} (sub : ∀ b ∈ Ow0, b ∈ Ow) (n : a ∉ Ow0) (s : StR T H ρ Ow st) : StR T (er H a) ρ Ow0 st := by
  have wk : ∀ b, (G.er H a) b ≠ none → b ∉ ρ → b ∉ Ow → b ∉ Ow0 := fun b _ _ hb h2 => hb (sub b h2)
  refine ⟨s.len, s.nd, fun b hb h2 => s.apart b hb (sub b h2), fun b hb => ?_, fun l b ob h1 h2 => ?_, fun i q hq => ⟨(s.tab i q hq).1, (s.tab i q hq).2.er h⟩⟩
  · obtain ⟨vs, q⟩ := s.lists b (sub b hb)
    exact ⟨vs, by rw [er_ne fun e => n (by rw [← e]; exact hb)]; exact q⟩
  · have q := s.at_ l b ob h1 h2
    have ne : b ≠ a := fun e => s.apart b (List.mem_of_getElem? h1) (by rw [e]; exact m)
    cases ob with
    | lst ds =>
      obtain ⟨p, vs, g, z, r⟩ := q
      exact ⟨p, vs, by rw [er_ne ne]; exact g, z, (r.er h m).ow wk⟩
    | ins c fs =>
      obtain ⟨p, dx, vs, g, z, z2, r⟩ := q
      exact ⟨p, dx, vs, by rw [er_ne ne]; exact g, z, z2, (r.er h m).ow wk⟩
end
/-- from the def's meaning to its body's -/
theorem body_want {fr : Bool} {T : Tb} {xf : Nat → List Nm} {H : Hp} {ρ Ow : List Addr} {E : XK} {Q : VK} {r : R} {o : O D} (sr : ∀ a ∈ Ow, a ∉ ρ) (ho : o = (match r with
    | .rt d st => .ok d st
    | .nx _ st => .ok .non st
    | .ex _ c fs st => .ex c fs st
    | _ => .bad)) (p : Post ⟨T, xf, fun cls dx _ H' => E cls dx H', []⟩ H ρ Ow (fun d _ H' ρ' => Give fr T Q d H' ρ' Ow) o) :
    PostR ⟨T, xf, fun cls dx _ H' => E cls dx H', Ow, fr⟩ H ρ Ow { nx := fun _ H' => Q .non H', rt := Q } r := by
  have ext : ∀ {H' : Hp} {ρ' Ow' : List Addr} {st' : Store}, Step Ow H ρ Ow H' ρ' Ow' → StR T H' ρ' Ow' st' → Ext H ρ H' ρ' ∧ StR T H' ρ' Ow st' := fun {H' ρ' Ow' st'} s z => by
    refine ⟨⟨fun a u h n => ?_, s.kp.pre⟩, z.ow (fun a _ _ n h => n (s.out a h).2) (fun a ha h => z.apart a ha (s.out a h).2) fun a h => z.lists a (s.out a h).2⟩
    by_cases ha : a ∈ Ow
    · exact ⟨by rw [(s.out a ha).1]; exact h, z.disj a (s.out a ha).2⟩
    · exact ⟨(s.kp.keep a u h n ha).1, (s.kp.keep a u h n ha).2.1⟩
  subst ho
  cases r with
  | rt d st =>
    intro v H' ρ' Ow' s z r
    obtain ⟨e, z'⟩ := ext s z
    cases fr with
    | false => 
      have r : RV T H' ρ' Ow' v d := r
      exact p H' ρ' e z' v (r.ow fun a _ _ n h => n (s.out a h).2)
    | true =>
      obtain ⟨a, vs, xs, rfl, rfl, ha, ha0, h, zz, rs⟩ := r
      have hN : H a = none := by
        cases hH : H a with
        | none => rfl
        | some o =>
          by_cases hρ : a ∈ ρ
          · obtain ⟨more, x⟩ := s.kp.pre
            exact absurd ha (z.apart a (by rw [x]; exact List.mem_append_left _ hρ))
          · exact absurd ha (s.kp.keep a o hH hρ ha0).2.2
      have e' : Ext H ρ (er H' a) ρ' := ⟨fun b u hb nb => ⟨by rw [er_ne fun eb => by rw [eb, hN] at hb; cases hb]; exact (e.keep b u hb nb).1, (e.keep b u hb nb).2⟩, e.pre⟩
      have q := p (er H' a) ρ' e' (z.er h ha (fun b hb => (s.out b hb).2) ha0)
      obtain ⟨xs', ex, q⟩ := q
      cases ex
      have := q a vs er_same ((rs.er h ha).ow fun b _ _ n h2 => n (s.out b h2).2) zz
      rw [er_upd h] at this
      exact this
  | nx env st =>
    intro σ' H' ρ' Ow' s fr'
    obtain ⟨e, z'⟩ := ext s fr'.sr
    have q := p H' ρ' e z'
    cases fr with
    | false => exact q .non .non
    | true =>
      obtain ⟨xs', ex, _⟩ := q
      cases ex
  | ex env c fs st =>
    intro cls dx σ' H' ρ' Ow' s fr' x
    obtain ⟨e, z'⟩ := ext s fr'.sr
    have p' : Post ⟨T, xf, fun cls dx _ H' => E cls dx H', []⟩ H ρ Ow' (fun d _ H' ρ' => Give fr T Q d H' ρ' Ow) (.ex c fs st) := p.shed fun a ha => (s.out a ha).2
    exact p' cls dx H' ρ' e fr'.sr x
  | bk _ _ => exact p.elim
  | ct _ _ => exact p.elim
  | bad => exact p.elim

theorem fnX_of (fr : Bool) {name : PySem.Str} {params : Arguments} {body : List Stmt} {dV kV doc pm ct oc : Value} {an od : Option Addr} {osl : Array (Option Value)} {g : StS} {c : Fd} {m : Nat}
    (lk : Y.K.lookup f = some ⟨oc, od, .func (PySem.W.fnOf name qual params body scope dV kV doc pm an cdv ct), osl⟩) (hcd : PySem.W.codeIn Y.K cdv qual = true) (S : FnScope N ps scope) (hm : N.length = m) (eK : Y.K = Y.T.K) (hx0 : Y.T.hx = none)
    (hc : ∀ ds st, ds.length = ps.length → c ds st = (match g (ds.map Sl.v ++ List.replicate (m - ds.length) .em) st with
      | .rt d st => .ok d st
      | .nx _ st => .ok .non st
      | .ex _ c fs st => .ex c fs st
      | _ => .bad))
    (hbody : ∀ (X : Cx) (W : WX) (Ow0 : List Addr), CxS X ⟨Y.T, Y.xf, W, Ow0, fr⟩ N scope k → X.prog = Y.P → X.w = Y.w → X.K = Y.K → X.mg = Y.mg → X.base = Y.base → X.env.qual = qual ++ ".<locals>." → X.env.code = cdv → X.stack = X.env :: X.outer → X.env.frame = some X.env.locals → JSs X ⟨Y.T, Y.xf, W, Ow0, fr⟩ body g) :
    FnX fr Y (k + 1) f (PySem.W.fnOf name qual params body scope dV kV doc pm an cdv ct) ps c := by
  refine ⟨fun A outer s H args us vs Q E hr hgd e0 hb r hl ⟨st, ρ, Ow, ds, sr, rs, p⟩ => ?_⟩
  have same : ∀ b o, Y.base.get? b = some o → s.heap.get? b = some o := fun b o e => (e0.bs b o e).1
  have KX : Y.K.In s.heap := e0.mod.kin.keeps same
  have inNames : ∀ y ∈ ps.zip us, scope.names.lookup y.1 = some .local ∨ (scope.names.lookup y.1 = some .cell ∧ ((cellsFrom (s.heap.objs.size + 1) scope.names []).lookup y.1).isSome = true) := by
    rintro ⟨x, v⟩ hy
    cases S.par x (List.of_mem_zip hy).1 with
    | inl q => exact .inl q
    | inr q => exact .inr ⟨q, PySem.W.cellsFrom_some _ _ _ (.inl q)⟩
  have hpl : ps.length ≤ m := by
    have q := congrArg List.length S.pre
    rw [List.length_take, hm] at q
    omega
  refine codeAny_call_function hr.depth (KX _ _ lk) rfl S.co S.gen rfl (PySem.W.codeRec_of KX hcd) (hb _ _ _ _ (wpAny_newFunctionEnv_cells S.kind inNames fun env he s1 x => ?_))
  subst he
  refine ⟨(e0.mod.nolimit.keeps same).keeps x.toInCall.keep, codeAny_func ?_⟩
  -- the body's context
  generalize hX : cxOf (L2.CX Y.P Y.w) Y.P Y.w Y.K Y.mg Y.base N qual scope f cdv A outer s H E = X
  have I : Inv X [] (L2.start N vs) H s1 := by rw [← hX]; exact L2.inv_start S hr.hd e0 hl r x
  have CX0 : CxS X ⟨Y.T, Y.xf, fun cls dx _ H' => E cls dx H', Ow, fr⟩ N scope k := by
    subst hX
    exact ⟨⟨⟨eK, rfl, S.nd, rfl, L2H.roomH_of (hr.deeper _), hgd⟩, rfl, hr.deeper _, hx0⟩, fun _ => rfl, L2.passes_of rfl, L2.takes_of rfl rfl rfl rfl⟩
  have J := hbody X _ Ow CX0 (by rw [← hX]; rfl) (by rw [← hX]; rfl) (by rw [← hX]; rfl) (by rw [← hX]; rfl) (by rw [← hX]; rfl) (by rw [← hX]; rfl) (by rw [← hX]; rfl) (by rw [← hX]; rfl) (by rw [← hX]; rfl)
  have hds : ds.length = ps.length := by rw [← rs.length]; exact hl
  have wish : tStm ⟨Y.T, Y.xf, fun cls dx _ H' => E cls dx H', Ow, fr⟩ g { nx := fun _ H' => Q .non H', rt := Q } (L2.start N vs) H :=
    ⟨_, st, ρ, Ow, start_en hm (by rw [hl]; exact hpl) sr rs, body_want sr.disj (hc ds st hds) p⟩
  have done := J.run [] s1 (L2.start N vs) H _ I wish
  subst hX
  refine wpAny_mono done (fun fl s' hs => ?_) fun e s' hs => hs
  cases fl with
  | ret u =>
    obtain ⟨v, σ', H', I', rv, q⟩ := hs
    exact ⟨v, H', I'.os, I'.bare, I'.base, I'.hok, rv, q⟩
  | next =>
    obtain ⟨σ', H', I', q⟩ := hs
    exact ⟨V.non, H', I'.os, I'.bare, I'.base, I'.hok, rfl, q⟩
  | brk =>
    obtain ⟨_, _, _, q⟩ := hs
    exact q.elim
  | cont =>
    obtain ⟨_, _, _, q⟩ := hs
    exact q.elim
end

/-! ### calls -/
section
variable {Y : Wd} {X : Cx} {W : WX} {N : List PySem.Str} {sc : Scope} {n k : Nat}
/-- the context's world -/
structure CxY (X : Cx) (Y : Wd) (W : WX) (N : List PySem.Str) (sc : Scope) (n : Nat) : Prop extends CxC X Y.T N sc n where
  eP : X.prog = Y.P
  ew : X.w = Y.w
  eKY : X.K = Y.K
  em : X.mg = Y.mg
  eb : X.base = Y.base
  pass : ∀ σ, L2.PassesAt (L2.CX X.prog X.w) X σ (L2.WE W σ)
theorem CxS.y {Ow0 : List Addr} {fr : Bool} (C : CxS X ⟨Y.T, Y.xf, W, Ow0, fr⟩ N sc n) (eP : X.prog = Y.P) (ew : X.w = Y.w) (eK : X.K = Y.K) (em : X.mg = Y.mg) (eb : X.base = Y.base) : CxY X Y W N sc n :=
  ⟨C.toCxC, eP, ew, eK, em, eb, L2.passAt C.tk⟩
theorem code_fnG {f : Addr} {fd : FuncData} {ps : List PySem.Str} {c : Fd} {pins : List (Addr × PySem.Obj)} {σ : L2.St} {H : Hp} {s : Shared} {Q : VK} {pos us : List Value} {kw : List (PySem.Str × Value)} {vs : List V} (C : CxY X Y W N sc n) (F : FnG Y k f fd ps c) (hk : k ≤ n)
    (hb : BindsTo s fd ⟨pos, kw⟩ (ps.zip us)) (I : Inv X pins σ H s) (r : Vals vs us) (hl : vs.length = ps.length) (h : Want Y.T Y.xf c vs H Q (L2.WE W σ)) :
    codeAny (model X.prog X.w) X.A (.call (.ref f) ⟨pos, kw⟩) (fun r s' => match r with | .ok (.ret v) => L2.EP X pins σ Q v s' | .ok _ => False | .error e => X.xe e s') s := by
  have e0 : Env0 Y.P Y.w Y.K Y.mg Y.base X.A X.stack s H := by
    have q := I.env0
    rw [C.eP, C.ew, C.eKY, C.em, C.eb] at q
    exact q
  have go := F.run X.A X.stack s H ⟨pos, kw⟩ us vs Q (L2.WE W σ) (C.room.mono hk) C.guards e0 hb r hl h
  rw [← C.eP, ← C.ew] at go
  refine codeAny_mono go fun res s' hq => ?_
  cases res with
  | error e => exact C.pass σ pins H s e s' I hq
  | ok fl =>
    cases fl with
    | ret u => exact I.after hq
    | _ => exact hq.elim
theorem run_fnG {f : Addr} {fd : FuncData} {ps : List PySem.Str} {c : Fd} {pins : List (Addr × PySem.Obj)} {σ : L2.St} {H : Hp} {s : Shared} {Q : VK} {pos us : List Value} {kw : List (PySem.Str × Value)} {vs : List V} (C : CxY X Y W N sc n) (F : FnG Y k f fd ps c) (hk : k ≤ n)
    (hb : BindsTo s fd ⟨pos, kw⟩ (ps.zip us)) (I : Inv X pins σ H s) (r : Vals vs us) (hl : vs.length = ps.length) (h : Want Y.T Y.xf c vs H Q (L2.WE W σ)) :
    wpAny (model X.prog X.w) X.A (PySem.call (.ref f) pos kw) (L2.EP X pins σ Q) X.xe s := wpAny_call (code_fnG C F hk hb I r hl h)
/-- a def that may be called by its name -/
structure Fk (Y : Wd) (x : PySem.Str) (f : Addr) (fd : FuncData) (ps : List PySem.Str) : Prop where
  mg : Y.mg x = some (.ref f)
  keep : PySem.W.keepIn Y.K (.ref f) = true
  binds : Binds Y.K fd ps []
  ne : (x == ("__debug__" : PySem.Str)) = false
theorem plain_all : ∀ {es : List Expr} {ss : List Sem} {T : Tb} {xf : Nat → List Nm} {pos : Pos}, JEs X T xf W es ss → (backTo pos (starEach es X.env)).any (·.1) = false
  | _, _, _, _, _, .nil => rfl
  | _, _, _, _, _, .cons h j js => by
    rw [plain_star h]
    have q := plain_all (pos := ‹Pos›) js
    show (false || (backTo _ (starEach _ X.env)).any (·.1)) = false
    rw [q]; rfl
variable {x : PySem.Str} {f : Addr} {fd : FuncData} {ps : List PySem.Str} {c : Fd} {p pos : Pos} {e : Expr} {es : List Expr} {ss : List Sem}
theorem args_want (C : CxY X Y W N sc n) {σ : L2.St} {H : Hp} {Q : VK} (hl : ss.length = ps.length) (q : tVal Y.T Y.xf W true (many ss c) σ H Q) :
    tArg Y.T Y.xf W (args ss) σ H fun vs H1 => vs.length = ps.length ∧ Want Y.T Y.xf c vs H1 Q (L2.WE W σ) := by
  obtain ⟨env, st, ρ, Ow, en, sr, p⟩ := q
  refine ⟨env, st, ρ, Ow, en, sr, (Post.bind p).eqn.mono fun ds st1 H1 ρ1 e1 s1 q vs rs => ?_⟩
  refine ⟨by rw [rs.length, args_len q.1, hl], st1, ρ1, Ow, ds, s1, rs, ?_⟩
  have q2 := q.2
  cases hc : c ds st1 with
  | ok d st2 => rw [hc] at q2; exact q2
  | ex cc fs st2 => rw [hc] at q2; exact q2
  | bad => rw [hc] at q2; exact q2
theorem je_call (C : CxY X Y W N sc n) (F : FnG Y k f fd ps c) (hk : k ≤ n) (B : Fk Y x f fd ps) (hg : Gl X x) (hl : ss.length = ps.length) (js : JEs X Y.T Y.xf W es ss) :
    JE X Y.T Y.xf W (.Call (.Name x p) es [] pos) (Sem.of (many ss c)) true := by
  refine .of C.toCxG ⟨fun pins s σ H Q I q => ?_⟩
  have q1 := args_want C hl q
  have hm : X.mg x = some (.ref f) := by rw [C.em]; exact B.mg
  have hkp : PySem.W.keepIn X.K (.ref f) = true := by rw [C.eKY]; exact B.keep
  have bind : ∀ (s : Shared) (us : List Value), Y.K.In s.heap → us.length = ps.length → BindsTo s fd ⟨us, []⟩ (ps.zip us) := fun s us hK hu => by
    have b := B.binds s us hK (by rw [List.append_nil]; exact hu)
    rw [List.append_nil] at b
    exact b
  refine wpAny_Call_Name_kw (L2.ld_glob I hg hm ?_ B.ne)
  cases js with
  | nil =>
    obtain ⟨env, st, ρ, Ow, en, sr, po⟩ := q1
    obtain ⟨h1, h2⟩ := Post.ok sr po [] .nil
    exact PySem.W.callWith_K0 I.kIn hkp (run_fnG (us := []) C F hk (bind s [] (by rw [← C.eKY]; exact I.kIn) (by rw [← h1]; rfl)) I .nil h1 h2)
  | @cons e0 s0 es0 ss0 h j js =>
    refine PySem.W.callWith_K (h₀ := X.base) I.ok.mod.kin hkp (L2.thn ((pa_args (.cons h j js)).run pos pins s σ H _ I q1) fun us s1 ⟨vs, H1, I1, r, h1, h2⟩ => ⟨I1.kIn, ?_⟩) (plain_star h _ _) (plain_all js)
    exact run_fnG C F hk (bind s1 us (by rw [← C.eKY]; exact I1.kIn) (by rw [← r.length]; exact h1)) I1 r h1 h2
end
end G
/-! The engine's rules for built-ins, 2. -/
namespace G
open PySem PySem.Spec PyProof.Rows
open L2 (V Hp HO upd SqL SqT Rd VK TE TT TA TI WX XK Cx PE PT PA PI Inv OpR CallR RelV Vals R2 PC PW)
section
variable {X : Cx} {T : Tb}
theorem allDig {s : List Nat} (h : s.all isDig = true) : NumText.AllDigits s := fun c hc => by
  have := List.all_eq_true.mp h c hc
  unfold isDig at this
  simp at this
  exact this
theorem foldDig : ∀ (s : List Nat) (a : Nat), s.foldl (fun n c => 10 * n + (c - 48)) a = s.foldl (fun acc c => acc * 10 + (c - 48)) a
  | [], _ => rfl
  | c :: s, a => by
    simp only [List.foldl_cons]
    rw [foldDig s, Nat.mul_comm]
theorem cr_int : CallR X (.type "int") (rBi T (bi .int)) := by
  intro pins s σ H xs us Q I r ⟨st, ρ, Ow, ds, dz, sr, rs, e, k⟩
  simp only [bi] at e
  split at e <;> try contradiction
  · rename_i i _
    cases e
    obtain ⟨v, rfl, r1⟩ := rs.one
    have e1 := r1.u.int
    subst e1
    exact L2.call_int1 pins s σ H _ us Q I r (.inl ⟨_, rfl, k _ _ (.inl rfl) (.int _)⟩)
  · rename_i b _
    cases e
    obtain ⟨v, rfl, r1⟩ := rs.one
    have e1 := r1.u.bl
    subst e1
    exact L2.call_int1 pins s σ H _ us Q I r (.inr ⟨_, rfl, k _ _ (.inl rfl) (.int _)⟩)
  · rename_i x _
    obtain ⟨v, rfl, r1⟩ := rs.one
    obtain ⟨rfl, z, c⟩ := r1.u.str
    split at e
    · rename_i hl
      cases e
      refine L2.call_int_str pins s σ H _ us Q I r ⟨_, _, rfl, intText_digits (x := ⟨x.toArray⟩) (allDig hl.2.2) hl.1 (by have := hl.2.1; simp [Str.length]; omega), by have := hl.2.1; simp [Str.length]; omega, ?_⟩
      have e2 : digVal x = NumText.digitsVal x := foldDig x 0
      have q := k (.int (digVal x : Nat)) H (.inl rfl) (.int _)
      rw [e2] at q
      exact q
    · cases e
theorem cr_abs : CallR X (.builtin "abs") (rBi T (bi .abs)) := by
  intro pins s σ H xs us Q I r ⟨st, ρ, Ow, ds, dz, sr, rs, e, k⟩
  simp only [bi] at e
  split at e <;> try contradiction
  rename_i i _
  cases e
  obtain ⟨v, rfl, r1⟩ := rs.one
  have e1 := r1.u.int
  subst e1
  refine L2.call_abs pins s σ H _ us Q I r ⟨_, rfl, ?_⟩
  have q := k (.int (i.natAbs : Int)) H (.inl rfl) (.int _)
  have e3 : ((i.natAbs : Nat) : Int) = if i < 0 then -i else i := by split <;> omega
  rw [e3] at q
  exact q
theorem cr_bool : CallR X (.type "bool") (rBi T (bi .bool)) := by
  intro pins s σ H xs us Q I r ⟨st, ρ, Ow, ds, dz, sr, rs, e, k⟩
  simp only [bi] at e
  split at e <;> try contradiction
  · cases e
    obtain ⟨v, rfl, r1⟩ := rs.one
    have e1 := r1.u.bl
    subst e1
    exact L2.call_bool1 pins s σ H _ us Q I r (.inr ⟨_, rfl, k _ _ (.inl rfl) (.bl _)⟩)
  · cases e
    obtain ⟨v, rfl, r1⟩ := rs.one
    have e1 := r1.u.int
    subst e1
    exact L2.call_bool1 pins s σ H _ us Q I r (.inl ⟨_, rfl, k _ _ (.inl rfl) (.bl _)⟩)
theorem sqE (hK : X.K = T.K) {H : Hp} {a : Addr} {vs : List V} (q : SqL T.K H a vs ∨ SqT T.K H a vs) : SqL X.K H a vs ∨ SqT X.K H a vs := by rw [hK]; exact q
theorem RW.seqL {H : Hp} {ρ Ow : List Addr} {st : Store} {v : V} {d : D} {ds : List D} (s : StR T H ρ Ow st) (r : RW T H ρ Ow v d) (hn : ∀ zs, d ≠ .tup zs) (e : seqv st d = some ds) : ∃ a vs, v = .ref a ∧ SqL T.K H a vs ∧ vs.length ≤ LIM ∧ RVs T H ρ Ow vs ds := by
  cases d with
  | tup xs => exact absurd rfl (hn xs)
  | lst xs =>
    cases e
    obtain ⟨a, vs, h1, h2, h3, h4⟩ := r.u.lst
    exact ⟨a, vs, h1, .inl (.inl h2), h3, h4⟩
  | fl xs =>
    cases e
    rcases r with r | ⟨_, _, _, _, h, _⟩
    · cases r with
      | fl q z rs => exact ⟨_, _, rfl, q.sq, z, rs⟩
    · cases h
  | loc l =>
    have w := r.view s
    unfold seqv at e
    cases e2 : st[l]? with
    | none => simp [e2] at e
    | some o =>
      cases o with
      | ins c fs => simp [e2] at e
      | lst xs =>
        simp [e2] at e
        subst e
        rw [view_lst e2] at w
        obtain ⟨a, vs, h1, h2, h3, h4⟩ := w.lst
        exact ⟨a, vs, h1, .inl (.inl h2), h3, h4⟩
  | _ => cases e
theorem RW.list {H : Hp} {ρ Ow : List Addr} {st : Store} {v : V} {d : D} {ds : List D} (s : StR T H ρ Ow st) (r : RW T H ρ Ow v d) (e : listv st d = some ds) : ∃ a vs, v = .ref a ∧ SqL T.K H a vs ∧ vs.length ≤ LIM ∧ RVs T H ρ Ow vs ds := by
  cases d with
  | tup xs => cases e
  | _ => exact r.seqL s (fun zs h => by cases h) e
theorem cr_tuple (hK : X.K = T.K) : CallR X (.type "tuple") (rBi T (bi .tuple)) := by
  intro pins s σ H xs us Q I r ⟨st, ρ, Ow, ds, dz, sr, rs, e, k⟩
  simp only [bi] at e
  split at e <;> try contradiction
  obtain ⟨ys, hy, e2⟩ := Option.map_eq_some_iff.mp e
  subst e2
  obtain ⟨v, rfl, r1⟩ := rs.one
  rename_i d _
  by_cases ht : ∃ zs, d = .tup zs
  · obtain ⟨zs, rfl⟩ := ht
    cases hy
    obtain ⟨a, vs, rfl, q, z, rr⟩ := r1.u.tup
    exact L2.call_tuple_of pins s σ H _ us Q I r ⟨a, vs, rfl, .inr ⟨by rw [hK]; exact q.sq, k _ _ (.inl rfl) (.tup q z rr)⟩⟩
  · obtain ⟨a, vs, rfl, q, z, rr⟩ := r1.seqL sr (fun zs h => ht ⟨zs, h⟩) hy
    exact L2.call_tuple_of pins s σ H _ us Q I r ⟨a, vs, rfl, .inl ⟨by rw [hK]; exact q, fun l hl => k _ _ (.inr ⟨l, _, hl, rfl⟩) (rv_tup hl (sr.fresh hl).1 z rr)⟩⟩
theorem cr_list (hK : X.K = T.K) : CallR X (.type "list") (rBi T (bi .list)) := by
  intro pins s σ H xs us Q I r ⟨st, ρ, Ow, ds, dz, sr, rs, e, k⟩
  simp only [bi] at e
  split at e <;> try contradiction
  obtain ⟨ys, hy, e2⟩ := Option.map_eq_some_iff.mp e
  subst e2
  obtain ⟨v, rfl, r1⟩ := rs.one
  obtain ⟨a, vs, rfl, q, z, rr⟩ := r1.seq sr hy
  exact L2.call_list_of pins s σ H _ us Q I r ⟨a, vs, rfl, sqE hK q, fun l hl => k _ _ (.inr ⟨l, _, hl, rfl⟩) (rv_lst hl (sr.fresh hl).1 (sr.fresh hl).2 z rr)⟩
theorem cr_divmod : CallR X (.builtin "divmod") (rBi T (bi .divmod)) := by
  intro pins s σ H xs us Q I r ⟨st, ρ, Ow, ds, dz, sr, rs, e, k⟩
  simp only [bi] at e
  split at e <;> try contradiction
  rename_i i j _
  split at e
  · rename_i hd
    cases e
    obtain ⟨v, w, rfl, r1, r2⟩ := rs.two
    have e1 := r1.u.int
    have e2 := r2.u.int
    subst e1 e2
    have hw := okDiv_w (i := i) hd
    refine L2.call_divmodW pins s σ H _ us Q I r ⟨i, j, rfl, ⟨hw.1, ?_⟩, fun p hp => k _ _ (.inr ⟨p, _, hp, rfl⟩) (rv_tup hp (sr.fresh hp).1 (by rw [lim_line, sizeLine_eq]; simp) (.cons (.int _) (.cons (.int _) .nil)))⟩
    refine PyProof.noPylong_of_log2 ?_
    unfold okDiv DIV at hd
    rw [Bool.and_eq_true, decide_eq_true_eq, decide_eq_true_eq] at hd
    have h0 : j.natAbs ≠ 0 := by omega
    exact Nat.lt_trans ((Nat.log2_lt h0).mpr hd.2) (by decide)
  · cases e
theorem cr_min (hc : X.calm = true) (hK : X.K = T.K) : CallR X (.builtin "min") (rBi T (bi .min)) := by
  intro pins s σ H xs us Q I r ⟨st, ρ, Ow, ds, dz, sr, rs, e, k⟩
  simp only [bi] at e
  split at e <;> try contradiction
  · rename_i i j _
    cases e
    obtain ⟨v, w, rfl, r1, r2⟩ := rs.two
    have e1 := r1.u.int
    have e2 := r2.u.int
    subst e1 e2
    exact L2.call_min2 hc pins s σ H _ us Q I r ⟨_, _, rfl, k _ _ (.inl rfl) (.int _)⟩
  · rename_i d _
    obtain ⟨ys, hy, e2⟩ := Option.bind_eq_some_iff.mp e
    obtain ⟨is, hi, e3⟩ := Option.bind_eq_some_iff.mp e2
    obtain ⟨m, hm, e4⟩ := Option.map_eq_some_iff.mp e3
    subst e4
    obtain ⟨v, rfl, r1⟩ := rs.one
    obtain ⟨a, vs, rfl, q, z, rr⟩ := r1.list sr hy
    have ev := ints_vals hi rr
    subst ev
    obtain ⟨m1, m2⟩ := minI_ok hm
    refine L2.cr_min hc pins s σ H _ us Q I r ⟨a, is, rfl, by rw [hK]; exact q, List.length_pos_of_mem m1, fun m' h1 h2 => ?_⟩
    have : m' = m := by have := h2 m m1; have := m2 m' h1; omega
    subst this
    exact k _ _ (.inl rfl) (.int _)
theorem cr_max (hc : X.calm = true) (hK : X.K = T.K) : CallR X (.builtin "max") (rBi T (bi .max)) := by
  intro pins s σ H xs us Q I r ⟨st, ρ, Ow, ds, dz, sr, rs, e, k⟩
  simp only [bi] at e
  split at e <;> try contradiction
  · rename_i i j _
    cases e
    obtain ⟨v, w, rfl, r1, r2⟩ := rs.two
    have e1 := r1.u.int
    have e2 := r2.u.int
    subst e1 e2
    exact L2.call_max2 hc pins s σ H _ us Q I r ⟨_, _, rfl, k _ _ (.inl rfl) (.int _)⟩
  · rename_i d _
    obtain ⟨ys, hy, e2⟩ := Option.bind_eq_some_iff.mp e
    obtain ⟨is, hi, e3⟩ := Option.bind_eq_some_iff.mp e2
    obtain ⟨m, hm, e4⟩ := Option.map_eq_some_iff.mp e3
    subst e4
    obtain ⟨v, rfl, r1⟩ := rs.one
    obtain ⟨a, vs, rfl, q, z, rr⟩ := r1.list sr hy
    have ev := ints_vals hi rr
    subst ev
    obtain ⟨m1, m2⟩ := maxI_ok hm
    refine L2.cr_max hc pins s σ H _ us Q I r ⟨a, is, rfl, by rw [hK]; exact q, List.length_pos_of_mem m1, fun m' h1 h2 => ?_⟩
    have : m' = m := by have := h2 m m1; have := m2 m' h1; omega
    subst this
    exact k _ _ (.inl rfl) (.int _)
theorem cr_sum (hc : X.calm = true) (hK : X.K = T.K) : CallR X (.builtin "sum") (rBi T (bi .sum)) := by
  intro pins s σ H xs us Q I r ⟨st, ρ, Ow, ds, dz, sr, rs, e, k⟩
  simp only [bi] at e
  split at e <;> try contradiction
  rename_i d _
  obtain ⟨ys, hy, e2⟩ := Option.bind_eq_some_iff.mp e
  obtain ⟨is, hi, e4⟩ := Option.map_eq_some_iff.mp e2
  subst e4
  obtain ⟨v, rfl, r1⟩ := rs.one
  obtain ⟨a, vs, rfl, q, z, rr⟩ := r1.list sr hy
  have ev := ints_vals hi rr
  subst ev
  exact L2.cr_sum hc pins s σ H _ us Q I r ⟨a, is, rfl, by rw [hK]; exact q, k _ _ (.inl rfl) (.int _)⟩
theorem cr_all (hc : X.calm = true) (hK : X.K = T.K) : CallR X (.builtin "all") (rBi T (bi .all)) := by
  intro pins s σ H xs us Q I r ⟨st, ρ, Ow, ds, dz, sr, rs, e, k⟩
  simp only [bi] at e
  split at e <;> try contradiction
  rename_i d _
  obtain ⟨ys, hy, e2⟩ := Option.bind_eq_some_iff.mp e
  obtain ⟨bs, hi, e4⟩ := Option.map_eq_some_iff.mp e2
  subst e4
  obtain ⟨v, rfl, r1⟩ := rs.one
  obtain ⟨a, vs, rfl, q, z, rr⟩ := r1.list sr hy
  have ev := bls_vals hi rr
  subst ev
  exact L2.cr_all hc pins s σ H _ us Q I r ⟨a, bs, rfl, by rw [hK]; exact q, k _ _ (.inl rfl) (.bl _)⟩
theorem cr_any (hc : X.calm = true) (hK : X.K = T.K) : CallR X (.builtin "any") (rBi T (bi .any)) := by
  intro pins s σ H xs us Q I r ⟨st, ρ, Ow, ds, dz, sr, rs, e, k⟩
  simp only [bi] at e
  split at e <;> try contradiction
  rename_i d _
  obtain ⟨ys, hy, e2⟩ := Option.bind_eq_some_iff.mp e
  obtain ⟨bs, hi, e4⟩ := Option.map_eq_some_iff.mp e2
  subst e4
  obtain ⟨v, rfl, r1⟩ := rs.one
  obtain ⟨a, vs, rfl, q, z, rr⟩ := r1.list sr hy
  have ev := bls_vals hi rr
  subst ev
  exact L2.cr_any hc pins s σ H _ us Q I r ⟨a, bs, rfl, by rw [hK]; exact q, k _ _ (.inl rfl) (.bl _)⟩
theorem cr_sorted (hK : X.K = T.K) : CallR X (.builtin "sorted") (rBi T (bi .sorted)) := by
  intro pins s σ H xs us Q I r ⟨st, ρ, Ow, ds, dz, sr, rs, e, k⟩
  simp only [bi] at e
  split at e <;> try contradiction
  rename_i d _
  obtain ⟨ys, hy, e2⟩ := Option.bind_eq_some_iff.mp e
  obtain ⟨is, hi, e4⟩ := Option.map_eq_some_iff.mp e2
  subst e4
  obtain ⟨v, rfl, r1⟩ := rs.one
  obtain ⟨a, vs, rfl, q, z, rr⟩ := r1.list sr hy
  have ev := ints_vals hi rr
  subst ev
  refine L2.cr_sortedI pins s σ H _ us Q I r ⟨a, is, rfl, by rw [hK]; exact q, fun ns' p hp hs hn => ?_⟩
  have en : ns' = is.mergeSort leI := sorted_uniq hp hs
  subst en
  refine k _ _ (.inr ⟨p, _, hn, rfl⟩) (rv_lst hn (sr.fresh hn).1 (sr.fresh hn).2 ?_ (rvs_ints _))
  rw [List.length_map, hp.length_eq]
  simpa using z
theorem natStr_ok (n : Nat) : (natStr n).all okCode = true := List.all_eq_true.mpr fun c hc => by
  have := TL.numL_digits n c hc
  unfold okCode
  exact decide_eq_true (by omega)
theorem natStr_len {n : Nat} (h : n < 2 ^ 1900) : (natStr n).length ≤ 1900 := by
  unfold natStr
  rw [List.length_map]
  exact PySem.toDigits_len_pow (b := 10) (by decide) (by decide) (Nat.lt_of_lt_of_le h (Nat.pow_le_pow_left (by decide) _))
theorem intStr_ok (i : Int) : (intStr i).all okCode = true := by
  cases i with
  | ofNat n => exact natStr_ok n
  | negSucc n =>
    show (okCode 45 && (natStr (n + 1)).all okCode) = true
    rw [natStr_ok]; rfl
theorem intStr_len {i : Int} (h : i.natAbs < 2 ^ 1900) : (intStr i).length ≤ LIM := by
  rw [lim_line, sizeLine_eq]
  cases i with
  | ofNat n =>
    have := natStr_len (n := n) h
    show (natStr n).length ≤ _
    omega
  | negSucc n =>
    have := natStr_len (n := n + 1) h
    show (45 :: natStr (n + 1)).length ≤ _
    rw [List.length_cons]
    omega
theorem cr_str : CallR X (.type "str") (rBi T (bi .str)) := by
  intro pins s σ H xs us Q I r ⟨st, ρ, Ow, ds, dz, sr, rs, e, k⟩
  simp only [bi] at e
  split at e <;> try contradiction
  · rename_i i _
    split at e
    · rename_i hl
      cases e
      obtain ⟨v, rfl, r1⟩ := rs.one
      have e1 := r1.u.int
      subst e1
      refine L2.call_str_int pins s σ H _ us Q I r ⟨i, rfl, ?_, ?_⟩
      · by_cases h0 : i.natAbs = 0
        · rw [h0]; decide
        · exact Nat.lt_trans ((Nat.log2_lt h0).mpr hl) (by decide)
      · have q := k (.str ⟨(intStr i).toArray⟩) H (.inl rfl) (.str _ (intStr_len hl) (intStr_ok i))
        rw [← intStr_eq] at q
        exact q
    · cases e
  · rename_i x _
    cases e
    obtain ⟨v, rfl, r1⟩ := rs.one
    obtain ⟨rfl, z, c⟩ := r1.u.str
    exact SkE.call_str_str pins s σ H _ us Q I r ⟨_, rfl, k _ _ (.inl rfl) (.str _ z c)⟩
end
end G
/-! The engine's rules for built-ins, 3: their calls by name. -/
namespace G
open PySem PySem.Spec PyProof.Rows
open L2 (V Hp HO upd SqL SqT Rd VK TE TT TA TI WX XK Cx PE PT PA PI Inv OpR CallR RelV Vals R2 PC PW Gl)
section
variable {X : Cx} {T : Tb} {xf : Nat → List Nm} {W : WX} {N : List PySem.Str} {sc : Scope} {n : Nat}
inductive JWs (X : Cx) (T : Tb) (xf : Nat → List Nm) (W : WX) : List Expr → List Sem → Prop
  | nil : JWs X T xf W [] []
  | cons {e : Expr} {s : Sem} {str : Bool} {es : List Expr} {ss : List Sem} (h : plainE e = true) (j : JE X T xf W e s str) (js : JWs X T xf W es ss) : JWs X T xf W (e :: es) (s :: ss)
def tArgW (T : Tb) (xf : Nat → List Nm) (W : WX) (f : Env → Store → O (List D)) : TA := fun σ H Q => At T xf W f (fun ds ρ Ow H' => ∀ vs, RWs T H' ρ Ow vs ds → Q vs H') σ H
theorem RWs.ext {H H' : Hp} {ρ ρ' Ow : List Addr} (e : Ext H ρ H' ρ') {vs : List V} {ds : List D} (r : RWs T H ρ Ow vs ds) : RWs T H' ρ' Ow vs ds := by
  induction r with
  | nil => exact .nil
  | cons r rs ih => exact .cons (r.ext e) ih
theorem pa_argsW : ∀ {es : List Expr} {ss : List Sem}, JWs X T xf W es ss → PA X es (tArgW T xf W (args ss))
  | _, _, .nil => PA.imp L2.pa_nil fun σ H Q ⟨env, st, ρ, Ow, en, sr, p⟩ => Post.ok sr p [] .nil
  | _, _, .cons h j js => PA.imp (L2.pa_cons j.val (pa_argsW js) (plain_star h _ _)) fun σ H Q ⟨env, st, ρ, Ow, en, sr, p⟩ => by
    refine ⟨env, st, ρ, Ow, en, sr, (Post.bind p).mono fun d st1 H1 ρ1 e1 s1 q v r => ?_⟩
    refine ⟨env, st1, ρ1, Ow, en.ext e1 sr.disj, s1, (Post.bind q).mono fun ds st2 H2 ρ2 e2 s2 q2 vs rs => ?_⟩
    exact Post.ok s2 q2 _ (.cons (RW.ext e2 r.w) rs)
theorem plain_allW : ∀ {es : List Expr} {ss : List Sem} {pos : Pos}, JWs X T xf W es ss → (backTo pos (starEach es X.env)).any (·.1) = false
  | _, _, _, .nil => rfl
  | _, _, _, .cons h j js => by
    rw [plain_star h]
    have q := plain_allW (pos := ‹Pos›) js
    show (false || (backTo _ (starEach _ X.env)).any (·.1)) = false
    rw [q]; rfl
def biTy : Bi → Bool
  | .int | .str | .bool | .tuple | .list => true
  | _ => false
def biNm : Bi → String
  | .len => "len" | .int => "int" | .str => "str" | .repr => "repr" | .abs => "abs" | .bool => "bool" | .min => "min" | .max => "max" | .sum => "sum" | .sorted => "sorted"
  | .tuple => "tuple" | .list => "list" | .all => "all" | .any => "any" | .divmod => "divmod"
def biFn (f : Bi) : Value := if biTy f then .type (biNm f) else .builtin (biNm f)
theorem cr_bi (C : CxC X T N sc n) (f : Bi) (hf : f ≠ .repr) : CallR X (biFn f) (rBi T (bi f)) := by
  cases f with
  | len => exact cr_len C.eK
  | int => exact cr_int
  | str => exact cr_str
  | repr => exact absurd rfl hf
  | abs => exact cr_abs
  | bool => exact cr_bool
  | min => exact cr_min C.calm C.eK
  | max => exact cr_max C.calm C.eK
  | sum => exact cr_sum C.calm C.eK
  | sorted => exact cr_sorted C.eK
  | tuple => exact cr_tuple C.eK
  | list => exact cr_list C.eK
  | all => exact cr_all C.calm C.eK
  | any => exact cr_any C.calm C.eK
  | divmod => exact cr_divmod
theorem bi_blt (f : Bi) : bootBuiltins (biNm f) = some (biFn f) := by cases f <;> kernel_rfl
theorem bi_ne (f : Bi) : ((biNm f : PySem.Str)) ≠ "__name__" := by cases f <;> decide
theorem bi_nd (f : Bi) : (((biNm f : PySem.Str)) == ("__debug__" : PySem.Str)) = false := by cases f <;> decide
variable {p pos : Pos} {es : List Expr} {ss : List Sem}
theorem bi_imp {f : Bi} {σ : L2.St} {H : Hp} {Q : VK} (q : tVal T xf W true (many ss fun ds st => .of (bi f st ds) st) σ H Q) : tArgW T xf W (args ss) σ H fun vs H1 => rBi T (bi f) vs H1 Q := by
  obtain ⟨env, st, ρ, Ow, en, sr, p⟩ := q
  refine ⟨env, st, ρ, Ow, en, sr, (Post.bind p).mono fun ds st1 H1 ρ1 e1 s1 q vs rs => ?_⟩
  cases e : bi f st1 ds with
  | none => rw [e] at q; exact q.elim
  | some dz =>
    rw [e] at q
    exact ⟨st1, ρ1, Ow, ds, dz, s1, rs, e, fun v H' nw r => q H' ρ1 (nw.ext ρ1) (nw.st s1) v r⟩
theorem je_biR {f : Bi} (C : CxG X T N sc n) (hc : CallR X (biFn f) (rBi T (bi f))) (hg : Gl X (biNm f)) (hm : X.mg (biNm f) = none) (hne : es ≠ []) (js : JWs X T xf W es ss) :
    JE X T xf W (.Call (.Name (biNm f) p) es [] pos) (Sem.of (many ss fun ds st => .of (bi f st ds) st)) true := by
  refine .of C ?_
  cases js with
  | nil => exact absurd rfl hne
  | cons h j js =>
    unfold biFn at hc
    have hv := bi_blt f
    unfold biFn at hv
    split at hc
    · rename_i ht
      rw [if_pos ht] at hv
      exact PE.imp (L2.pe_callTy hc hg hm hv (pa_argsW (.cons h j js)) (bi_ne f) (bi_nd f) (plain_star h _ _) (plain_allW js)) fun σ H Q q => bi_imp q
    · rename_i ht
      rw [if_neg ht] at hv
      exact PE.imp (L2.pe_callB hc hg hm hv (pa_argsW (.cons h j js)) (bi_ne f) (bi_nd f) (plain_star h _ _) (plain_allW js)) fun σ H Q q => bi_imp q
theorem je_bi {f : Bi} (C : CxC X T N sc n) (hf : f ≠ .repr) (hg : Gl X (biNm f)) (hm : X.mg (biNm f) = none) (hne : es ≠ []) (js : JWs X T xf W es ss) :
    JE X T xf W (.Call (.Name (biNm f) p) es [] pos) (Sem.of (many ss fun ds st => .of (bi f st ds) st)) true := je_biR C.toCxG (cr_bi C f hf) hg hm hne js
end
end G
/-! The engine's rule for repr. -/
namespace G
open PySem PySem.Spec PyProof.Rows
open L2 (V Hp HO upd SqL SqT Rd VK TE TT TA TI WX XK Cx PE PT PA PI Inv OpR CallR RelV Vals R2 PC PW Gl)
section
variable {X : Cx} {T : Tb} {N : List PySem.Str} {sc : Scope} {n : Nat}
mutual
theorem okEq_dict : ∀ (n : Nat) (d : D), okEq n d = true → (toPy d).hasDict = false
  | _, .non, _ => rfl
  | _, .bl _, _ => rfl
  | _, .int _, _ => rfl
  | _, .str _, _ => rfl
  | 0, .tup _, h => by simp [okEq] at h
  | n + 1, .tup xs, h => okEqs_dict n xs (by simpa [okEq] using h)
  | 0, .lst _, h => by simp [okEq] at h
  | n + 1, .lst xs, h => okEqs_dict n xs (by simpa [okEq] using h)
  | _, .dct _ _, h => by simp [okEq] at h
  | _, .loc _, h => by simp [okEq] at h
  | _, .obj _ _, h => by simp [okEq] at h
  | _, .exc _ _, h => by simp [okEq] at h
  | _, .cls _, h => by simp [okEq] at h
  | _, .fl _, h => by simp [okEq] at h
theorem okEqs_dict : ∀ (n : Nat) (ds : List D), okEqs n ds = true → PyData.hasDictAll (toPys ds) = false
  | _, [], _ => rfl
  | n, d :: ds, h => by
    have h' : (okEq n d && okEqs n ds) = true := h
    rw [Bool.and_eq_true] at h'
    show ((toPy d).hasDict || PyData.hasDictAll (toPys ds)) = false
    rw [okEq_dict n d h'.1, okEqs_dict n ds h'.2]; rfl
end
theorem dp_ofU {H : Hp} {ρ Ow : List Addr} : ∀ (n : Nat) (d : D) (v : V), okEq n d = true → RU T H ρ Ow v d → L2.Dp T.K H v (toPy d) ∧ (toPy d).depth ≤ n := by
  intro n d v h r
  rcases r with r | ⟨a, vs, ds, rfl, rfl, h1, z, rs⟩
  · obtain ⟨h1, _, h3⟩ := dp_of n d v h r
    exact ⟨h1, h3⟩
  · cases n with
    | zero => simp [okEq] at h
    | succ n =>
      obtain ⟨g1, g2, g3⟩ := dps_of n ds vs (by simpa [okEq] using h) rs
      exact ⟨.lst (.inl (.inl h1)) g1, by simp [toPy, PyData.depth]; exact g3⟩
theorem cr_repr (C : CxG X T N sc n) : CallR X (.builtin "repr") (rBi T (bi .repr)) := by
  intro pins s σ H xs us Q I r ⟨st, ρ, Ow, ds, dz, sr, rs, e, k⟩
  simp only [bi] at e
  split at e <;> try contradiction
  rename_i d _
  obtain ⟨v, rfl, r1⟩ := rs.one
  have ru := r1.view sr
  split at e
  · rename_i hok
    cases e
    generalize G.view st d = x at ru hok k
    unfold okRep at hok
    simp only [Bool.and_eq_true, decide_eq_true_eq] at hok
    obtain ⟨⟨⟨h1, h2⟩, h3⟩, h4⟩ := hok
    have fin : ∀ {v : V} {H' : Hp}, v = .str (toPy x).shown → New1 H H' → Q v H' := fun {v H'} ev nw => by
      have q := k (.str ⟨(reprD x).toArray⟩) H' nw (.str _ h3 h4)
      have es : (⟨(reprD x).toArray⟩ : PySem.Str) = (toPy x).shown := by unfold reprD; simp
      rw [es] at q
      rw [ev]; exact q
    have hl : (toPy x).shown.length ≤ sizeLine := by
      rw [← lim_line]
      have : (toPy x).shown.length = (reprD x).length := by unfold reprD; simp [Str.length]
      rw [this]; exact h3
    obtain ⟨u, rfl, r0⟩ := r.one
    obtain ⟨hd, hdep⟩ := dp_ofU 32 x v h1 ru
    have hdict := okEq_dict 32 x h1
    generalize toPy x = p at hd hdep fin hl h2 hdict
    cases hd with
    | non =>
      have eu : u = .none := r0
      subst eu
      exact PySem.P.repr_of_none ⟨.str _, H, I.tok _, ⟨_, rfl⟩, fin rfl (.inl rfl)⟩
    | bl b =>
      have eu : u = .bool b := r0
      subst eu
      exact PySem.P.repr_of_bool ⟨.str _, H, I.tok _, ⟨_, rfl⟩, fin rfl (.inl rfl)⟩
    | int i =>
      obtain ⟨t, rfl⟩ := r0
      exact PySem.P.repr_of_int (by simpa [PyData.showable] using h2) ⟨.str _, H, I.tok _, ⟨_, rfl⟩, fin rfl (.inl rfl)⟩
    | str y =>
      obtain ⟨t, rfl⟩ := r0
      exact PySem.P.repr_of_str ⟨.str _, H, I.tok _, ⟨_, rfl⟩, fin rfl (.inl rfl)⟩ hl
    | tup q qs =>
      rename_i a vs xs
      have eu : u = .ref a := r0
      subst eu
      obtain ⟨as, rd⟩ := L2.Dp.reads I (.tuple xs) (.ref a) (.ref a) (by rw [C.eK]; exact .tup q qs) rfl
      refine repr_of_reads' (h₀ := s.heap) rd h2 (PyData.noDict_hsm hdict) C.guards ?_ (fun _ _ h => h) (fun h' u tk hk => ⟨.str _, H, I.kept hk, ⟨_, rfl⟩, fin rfl (.inl rfl)⟩) hl
      have := C.rm.un
      omega
    | lst q qs =>
      rename_i a vs xs
      have eu : u = .ref a := r0
      subst eu
      obtain ⟨as, rd⟩ := L2.Dp.reads I (.list xs) (.ref a) (.ref a) (by rw [C.eK]; exact .lst q qs) rfl
      refine repr_of_reads' (h₀ := s.heap) rd h2 (PyData.noDict_hsm hdict) C.guards ?_ (fun _ _ h => h) (fun h' u tk hk => ⟨.str _, H, I.kept hk, ⟨_, rfl⟩, fin rfl (.inl rfl)⟩) hl
      have := C.rm.un
      omega
  · cases e
end
end G
/-! The engine's comprehensions. -/
namespace G
open PySem PySem.Spec PyProof.Rows
open L2 (V Hp HO upd SqL SqT Rd VK XK TE TT TA TI TS TG TGs Ends WX Cx PE PT PA PI PS PSs PG PGs Inv OpR CallR RelV Vals R2 PC PW)
section
variable {T : Tb} {H H' H1 H2 : Hp} {ρ ρ' ρ1 ρ2 Ow Ow' Ow1 Ow2 Ow0 : List Addr} {σ : L2.St} {env : Env} {st st' : Store}
theorem wipe_len (env : Env) : ∀ is : List Nat, (wipe env is).length = env.length
  | [] => rfl
  | i :: is => by simp only [wipe]; rw [List.length_set, wipe_len env is]
theorem wipe_at {env : Env} {i : Nat} {s : Sl} : ∀ {is : List Nat}, (wipe env is)[i]? = some s → s = .em ∨ (env[i]? = some s ∧ i ∉ is)
  | [], h => .inr ⟨h, by simp⟩
  | j :: is, h => by
    simp only [wipe] at h
    by_cases hi : j = i
    · subst hi
      by_cases hj : j < (wipe env is).length
      · rw [List.getElem?_set_self hj] at h; cases h; exact .inl rfl
      · rw [List.getElem?_eq_none (by simpa using hj)] at h; cases h
    · rw [List.getElem?_set_ne hi] at h
      rcases wipe_at h with h | ⟨h1, h2⟩
      · exact .inl h
      · exact .inr ⟨h1, by simp only [List.mem_cons, not_or]; exact ⟨fun e => hi e.symm, h2⟩⟩
theorem SlR.em (o : Option (Option V)) : SlR T H ρ Ow o .em := by
  cases o with
  | none => trivial
  | some o => cases o <;> trivial
theorem EnR.wipe (en : EnR T H ρ Ow σ env) (is : List Nat) : EnR T H ρ Ow (L2.wipe σ is) (wipe env is) := by
  refine ⟨by rw [wipe_len, L2.wipe_length]; exact en.len, fun i s h => ?_, fun i j xs ys a h1 h2 h3 h4 => ?_⟩
  · rcases wipe_at h with rfl | ⟨h1, h2⟩
    · exact SlR.em _
    · rw [L2.wipe_out h2]; exact en.at_ i s h1
  · rcases wipe_at h1 with h | ⟨g1, g2⟩
    · cases h
    · rcases wipe_at h2 with h | ⟨k1, k2⟩
      · cases h
      · rw [L2.wipe_out g2] at h3
        rw [L2.wipe_out k2] at h4
        exact en.apart i j xs ys a g1 k1 h3 h4
theorem wipe_off {σ' : L2.St} {is js : List Nat} (h : Off js (L2.wipe σ is) σ') (hs : ∀ j ∈ js, j ∈ is) : L2.wipe σ' is = L2.wipe σ is := by
  have key : ∀ (is0 : List Nat) (a b : L2.St), a.length = b.length → (∀ j, j ∉ is0 → a[j]? = b[j]?) → L2.wipe a is0 = L2.wipe b is0 := by
    intro is0
    induction is0 with
    | nil =>
      intro a b hl h
      exact List.ext_getElem? fun j => h j (by simp)
    | cons i is0 ih =>
      intro a b hl h
      unfold L2.wipe
      have e1 : L2.wipe (a.set i none) is0 = L2.wipe (b.set i none) is0 := ih _ _ (by simp [hl]) fun j hj => by
        by_cases hi : i = j
        · subst hi
          by_cases hb : i < a.length
          · rw [List.getElem?_set_self hb, List.getElem?_set_self (by rw [← hl]; exact hb)]
          · rw [List.getElem?_eq_none (by simpa using hb), List.getElem?_eq_none (by rw [List.length_set, ← hl]; simpa using hb)]
        · rw [List.getElem?_set_ne hi, List.getElem?_set_ne hi]
          exact h j (by simp only [List.mem_cons, not_or]; exact ⟨fun e => hi e.symm, hj⟩)
      have comm : ∀ (c : L2.St) (ks : List Nat), (L2.wipe c ks).set i none = L2.wipe (c.set i none) ks := by
        intro c ks
        induction ks with
        | nil => rfl
        | cons k ks ihk =>
          unfold L2.wipe
          rw [← ihk]
          by_cases hk : k = i
          · subst hk; rfl
          · rw [List.set_comm _ _ hk]
      rw [comm, comm, e1]
  have h1 : L2.wipe σ' is = L2.wipe (L2.wipe σ is) is := key is _ _ h.1 fun j hj => h.2 j fun hm => hj (hs j hm)
  rw [h1]
  exact key is _ _ (L2.wipe_length _ _) fun j hj => L2.wipe_out hj
/-- a list that no slot holds is written -/
theorem StR.updOw (sr : StR T H ρ Ow st) {a : Addr} {us : List V} (m : a ∈ Ow) : StR T (upd H a (.lst us)) ρ Ow st := by
  have hn : a ∉ ρ := sr.disj a m
  refine ⟨sr.len, sr.nd, sr.apart, fun b hb => ?_, fun l b ob h1 h2 => (sr.at_ l b ob h1 h2).keeps (Keeps.upd m) sr.lists (L2.upd_ne fun e => hn (by rw [← e]; exact List.mem_of_getElem? h1)), fun i q h => ⟨(sr.tab i q h).1, (sr.tab i q h).2.keeps (Keeps.upd m) sr.lists (L2.upd_ne fun e => hn (by rw [← e]; exact List.mem_of_getElem? (sr.tab i q h).1))⟩⟩
  by_cases e : b = a
  · exact ⟨us, by rw [e, L2.upd_same]⟩
  · obtain ⟨vs, q⟩ := sr.lists b hb
    exact ⟨vs, by rw [L2.upd_ne e]; exact q⟩
theorem EnR.updOw (en : EnR T H ρ Ow σ env) (sr : StR T H ρ Ow st) {a : Addr} {us : List V} (m : a ∈ Ow) (na : ∀ (i : Nat) (xs : List D), env[i]? = some (.own xs) → σ[i]? ≠ some (some (.ref a))) : EnR T (upd H a (.lst us)) ρ Ow σ env := by
  refine ⟨en.len, fun i s h => ?_, en.apart⟩
  have q := en.at_ i s h
  cases s with
  | em => exact SlR.em _
  | v d =>
    cases hs : σ[i]? with
    | none => rw [hs] at q; exact q.elim
    | some o =>
      rw [hs] at q
      cases o with
      | none => exact q.elim
      | some v =>
        have q' : RV T H ρ Ow v d := q
        exact q'.keeps (Keeps.upd m) sr.lists
  | own zs =>
    obtain ⟨b, ws, g1, g2, g3, g4, g5⟩ := en.own h
    have ne : b ≠ a := fun e => na i zs h (by rw [g1, e])
    rw [g1]
    exact ⟨g2, ws, by rw [L2.upd_ne ne]; exact g3, g4, g5.keeps (Keeps.upd m) sr.lists⟩
  | xc c fs =>
    obtain ⟨b, dx, fl, g1, g2, g3⟩ := en.xc h
    rw [g1]
    exact ⟨dx, fl, g2, g3.keeps (Keeps.upd m) sr.lists⟩
theorem Post.bind0 {α β : Type} {w : Wo} {Q : β → Store → Hp → List Addr → Prop} {x : O α} {f : α → Store → O β} (e : Ext H ρ H1 ρ1) (h : Post w H ρ Ow Q (x.bind f)) : Post w H1 ρ1 Ow (fun a st _ _ => Post w H ρ Ow Q (f a st)) x := by
  cases x with
  | ok a st => exact fun _ _ _ _ => h
  | ex c fs st => exact Post.later e h
  | bad => exact h
end
section
variable {X : Cx} {T : Tb} {xf : Nat → List Nm} {W : WX} {N : List PySem.Str} {sc scope : Scope} {n : Nat} {elt tg iter : Expr} {pos : Pos} {sE sI : G.Sem} {rE rI : Bool}
/-- the block of a comprehension -/
def Blk (X : Cx) (scope : Scope) (X' : Cx) : Prop := ∃ (s : Shared) (H : Hp) (C : Addr) (cl : List (PySem.Str × Addr)) (fp : List Addr), X' = X.blk s H scope (compEnvC scope cl C X.env) fp
theorem Blk.cx {X' : Cx} (C : CxC X T N sc n) (b : Blk X scope X') : CxC X' T N (L2.relS scope sc) n := by
  obtain ⟨s, H, a, cl, fp, rfl⟩ := b
  refine ⟨⟨C.eK, C.eN, C.nd, ?_, C.rm, C.guards⟩, C.calm, C.room, C.hx0⟩
  show relabel scope X.env = _
  rw [← C.eS]; rfl
/-- the block lets nothing out -/
def W0 : WX := fun _ _ _ _ => False
inductive JIf (X : Cx) (T : Tb) (xf : Nat → List Nm) (W : WX) : List Expr → List G.Sem → Prop
  | nil : JIf X T xf W [] []
  | one {e : Expr} {s : G.Sem} {r : Bool} (j : JE X T xf W e s r) : JIf X T xf W [e] [s]
theorem jif_run {ifs : List Expr} {ss : List G.Sem} (h : JIf X T xf W ifs ss) : L2.PTs X ifs (tTst T xf W (testsV ss)) := by
  cases h with
  | nil =>
    refine ⟨fun pins s σ H Q I ⟨env, st, ρ, Ow, en, sr, p⟩ => L2.pts_nil.run pins s σ H Q I (Post.ok sr p)⟩
  | one j => exact L2.pts_one j.test
theorem ext_here {H H1 : Hp} {ρ ρ1 : List Addr} (e : Ext H ρ H1 ρ1) : Ext H ρ H1 ρ1 := e
/-- no exception comes out -/
theorem Post.calm {α : Type} {w w' : Wo} (hT : w.T = w'.T) {H : Hp} {ρ Ow : List Addr} {Q : α → Store → Hp → List Addr → Prop} {o : O α} (h : ∃ a st, o = .ok a st) (p : Post w H ρ Ow Q o) : Post w' H ρ Ow Q o := by
  obtain ⟨a, st, rfl⟩ := h
  intro H' ρ' e s
  exact p H' ρ' e (by rw [hT]; exact s)
theorem lc_imp {ss : List G.Sem} {p : Pt} {own : List (PySem.Str × Nat)} (hp : ∀ j ∈ ptSlots p, j ∈ own.map (·.2)) :
    ∀ σ H Q, tFre T xf W (lcV sI sE (own.map (·.2)) p ss) σ H Q → L2.tLc (tIt T xf W rI sI.items) (tPt T [] p) (tTst T xf W0 (testsV ss)) (tVal T xf W0 true sE.val) (own.map (·.2)) σ H Q := by
  intro σ H Q ⟨env, st, ρ, Ow, en, sr, po⟩
  refine ⟨env, st, ρ, Ow, en, sr, (Post.bind po).mono fun ds st1 H1 ρ1 e1 s1 q J wk D hD => ?_⟩
  have q1 := Post.bind q
  clear q
  have en1 := en.ext e1 sr.disj
  have nD : D ∉ ρ1 := (s1.fresh hD).1
  have slotNe : ∀ (i : Nat) (xs : List G.D), env[i]? = some (.own xs) → σ[i]? ≠ some (some (.ref D)) := fun i xs h e => by
    obtain ⟨b, ws, g1, g2, g3, g4, g5⟩ := en1.own h
    rw [e] at g1; cases g1
    rw [hD] at g3; cases g3
  refine ⟨fun i m H' => i ≤ ds.length ∧ m = ds.length - i ∧ ∃ st ρ' acc vs, Ext H1 ρ1 H' ρ' ∧ StR T H' ρ' (D :: Ow) st ∧ EnR T H' ρ' (D :: Ow) σ env ∧ H' D = some (.lst vs) ∧ vs.length ≤ LIM ∧ RVs T H' ρ' (D :: Ow) vs acc ∧
      Post ⟨T, xf, W, σ⟩ H1 ρ1 Ow (fun ds st H' ρ' => Post ⟨T, xf, W, σ⟩ H' ρ' Ow (fun (d : G.D) _ H'' ρ'' => ∃ xs, d = .lst xs ∧ ∀ p vs, H'' p = none → RVs T H'' ρ'' Ow vs xs → vs.length ≤ LIM → Q (.ref p) (upd H'' p (.lst vs))) (.ok (.lst ds) st)) (compL (turnV (own.map (·.2)) sE p ss env) (ds.drop i) acc st), ⟨ds.length, Nat.zero_le _, rfl, st1, ρ1, [], [], ?_⟩, ?_⟩
  · exact ⟨Ext.new hD, s1.newOw hD, en1.newOw s1 hD, L2.upd_same, Nat.zero_le _, .nil, q1⟩
  · rintro i m H2 ⟨hi2, rfl, st2, ρ2, acc, vs, e2, s2, n2, hD2, hl2, rs2, p2⟩
    have k2 : Keeps H2 ρ2 (D :: Ow) (fun b => if b = D then none else H2 b) ρ2 Ow := ⟨fun a o h m1 m2 => by
      have ne : a ≠ D := fun e => m2 (by simp [e])
      exact ⟨by rw [if_neg ne]; exact h, m1, fun hm => m2 (by simp [hm])⟩, [], by simp⟩
    have DOw : D ∉ Ow := (s1.fresh hD).2
    have Dρ2 : D ∉ ρ2 := s2.disj D (by simp)
    have per : Per rI H1 ρ1 Ow H2 ρ2 (D :: Ow) := by
      have out : ∀ a, H1 a ≠ none → a ∉ Ow → a ∉ D :: Ow := fun a h n hm => by
        rcases List.mem_cons.mp hm with e | hm
        · rw [e] at h; exact h hD
        · exact n hm
      cases rI with
      | true => exact ⟨fun a o h m1 m2 => ⟨(e2.keep a o h m1).1, (e2.keep a o h m1).2, out a (by rw [h]; simp) m2⟩, e2.pre⟩
      | false => exact ⟨e2, out⟩
    by_cases hl : i = ds.length
    · subst hl
      rw [List.drop_length] at p2
      refine .inl ⟨wk.stop H2 ρ2 (D :: Ow) per, ?_⟩
      -- the new list's place taken out, then put back
      have e3 : Ext H1 ρ1 (fun b => if b = D then none else H2 b) ρ2 := ⟨fun a o h m1 => by
        have ne : a ≠ D := fun e => by rw [e, hD] at h; cases h
        exact ⟨by rw [if_neg ne]; exact (e2.keep a o h m1).1, (e2.keep a o h m1).2⟩, e2.pre⟩
      have s3 : StR T (fun b => if b = D then none else H2 b) ρ2 Ow st2 := by
        refine ⟨s2.len, s2.nd, fun a ha hm => s2.apart a ha (by simp [hm]), fun a hm => ?_, fun l b ob h1 h2 => (s2.at_ l b ob h1 h2).keeps k2 s2.lists ?_, fun i q h => ⟨(s2.tab i q h).1, (s2.tab i q h).2.keeps k2 s2.lists (if_neg fun e => Dρ2 (by rw [← e]; exact List.mem_of_getElem? (s2.tab i q h).1))⟩⟩
        · obtain ⟨us, q⟩ := s2.lists a (by simp [hm])
          exact ⟨us, by rw [if_neg (fun e => DOw (by rw [← e]; exact hm))]; exact q⟩
        · exact if_neg fun e => Dρ2 (by rw [← e]; exact List.mem_of_getElem? h1)
      have p3 := p2 _ _ e3 s3
      obtain ⟨xs, ex, q3⟩ := Post.ok s3 p3
      cases ex
      have q4 := q3 D vs (if_pos rfl) (rs2.keeps k2 s2.lists) hl2
      have eH : upd (fun b => if b = D then none else H2 b) D (.lst vs) = H2 := by
        funext b
        by_cases hb : b = D
        · rw [hb, L2.upd_same, hD2]
        · rw [L2.upd_ne hb, if_neg hb]
      rw [eH] at q4
      exact q4
    · have hlt : i < ds.length := by omega
      obtain ⟨d, hd⟩ : ∃ d, ds[i]? = some d := ⟨ds[i], List.getElem?_eq_getElem hlt⟩
      have hdr : ds.drop i = d :: ds.drop (i + 1) := by
        rw [List.drop_eq_getElem_cons hlt]
        have := (List.getElem?_eq_some_iff.mp hd).2
        rw [this]
      rw [hdr] at p2
      obtain ⟨go, yl⟩ := wk.step i d H2 ρ2 (D :: Ow) st2 hd per s2
      refine .inr ⟨go, fun H' => ∃ st ρ' acc vs, Ext H1 ρ1 H' ρ' ∧ StR T H' ρ' (D :: Ow) st ∧ EnR T H' ρ' (D :: Ow) σ env ∧ H' D = some (.lst vs) ∧ vs.length ≤ LIM ∧ RVs T H' ρ' (D :: Ow) vs acc ∧
        Post ⟨T, xf, W, σ⟩ H1 ρ1 Ow (fun ds st H' ρ' => Post ⟨T, xf, W, σ⟩ H' ρ' Ow (fun (d : G.D) _ H'' ρ'' => ∃ xs, d = .lst xs ∧ ∀ p vs, H'' p = none → RVs T H'' ρ'' Ow vs xs → vs.length ≤ LIM → Q (.ref p) (upd H'' p (.lst vs))) (.ok (.lst ds) st)) (compL (turnV (own.map (·.2)) sE p ss env) (ds.drop (i + 1)) acc st), fun H' h => ⟨ds.length - (i + 1), by omega, by omega, rfl, h⟩, fun y H3 hy => ?_⟩
      obtain ⟨nw, ry⟩ := yl y H3 hy
      have e3 : Ext H1 ρ1 H3 ρ2 := e2.trans (nw.ext ρ2)
      have s3 : StR T H3 ρ2 (D :: Ow) st2 := nw.st s2
      have n3 : EnR T H3 ρ2 (D :: Ow) σ env := n2.ext (nw.ext ρ2) s2.disj
      have rs3 : RVs T H3 ρ2 (D :: Ow) vs acc := rs2.ext (nw.ext ρ2)
      have hD3 : H3 D = some (.lst vs) := ((nw.ext ρ2).keep D _ hD2 Dρ2).1
      have less : ∀ {H' : Hp} {ρ' : List Addr} {st : Store}, StR T H' ρ' (D :: Ow) st → StR T H' ρ' Ow st := fun z => z.ow (fun a _ _ n h => n (by simp [h])) (fun a ha hm => z.apart a ha (by simp [hm])) fun a hm => z.lists a (by simp [hm])
      have step : compL (turnV (own.map (·.2)) sE p ss env) (d :: ds.drop (i + 1)) acc st2 = (match turnV (own.map (·.2)) sE p ss env d st2 with
        | .ok (some y) st' => if acc.length < LIM then compL (turnV (own.map (·.2)) sE p ss env) (ds.drop (i + 1)) (acc ++ [y]) st' else .bad
        | .ok none st' => compL (turnV (own.map (·.2)) sE p ss env) (ds.drop (i + 1)) acc st'
        | _ => .bad) := rfl
      rw [step] at p2
      cases hs : setPt p d (wipe env (own.map (·.2))) with
      | none =>
        have e0 : turnV (own.map (·.2)) sE p ss env d st2 = .bad := by unfold turnV; rw [hs]
        rw [e0] at p2; exact p2.elim
      | some env3 =>
        have f3 : Fr T [] H3 ρ2 (D :: Ow) (L2.wipe σ (own.map (·.2))) (wipe env (own.map (·.2))) st2 := ⟨n3.wipe _, s3, fun a h => by simp at h, fun _ _ _ _ _ => by simp⟩
        refine ⟨_, st2, ρ2, D :: Ow, d, env3, f3, ry, hs, fun σ4 f4 off => ⟨wipe_off off hp, ?_⟩⟩
        -- the tests
        cases ht2 : testsV ss env3 st2 with
        | ok t st4 =>
          have e0 : turnV (own.map (·.2)) sE p ss env d st2 = (if t then (sE.val env3 st4).bind fun y st => .ok (some y) st else .ok none st4) := by unfold turnV; rw [hs]; simp only [ht2, O.bind]
          rw [e0] at p2
          refine ⟨env3, st2, ρ2, D :: Ow, f4.en, f4.sr, ?_⟩
          rw [ht2]
          intro H4 ρ4 e4 s4
          have hD4 : H4 D = some (.lst vs) := (e4.keep D _ hD3 Dρ2).1
          have n4 : EnR T H4 ρ4 (D :: Ow) σ env := n3.ext e4 s3.disj
          cases t with
          | false =>
            exact ⟨st4, ρ4, acc, vs, e3.trans e4, s4, n4, hD4, hl2, rs3.ext e4, p2⟩
          | true =>
            simp only [↓reduceIte]
            refine ⟨env3, st4, ρ4, D :: Ow, f4.en.ext e4 f4.sr.disj, s4, ?_⟩
            cases hv : sE.val env3 st4 with
            | ok y0 st5 =>
              have e5 : (if true = true then (sE.val env3 st4).bind fun y st => O.ok (some y) st else .ok none st4) = .ok (some y0) st5 := by rw [if_pos rfl, hv]; rfl
              rw [e5] at p2
              have p5 : Post ⟨T, xf, W, σ⟩ H1 ρ1 Ow _ (if acc.length < LIM then compL (turnV (own.map (·.2)) sE p ss env) (ds.drop (i + 1)) (acc ++ [y0]) st5 else .bad) := p2
              split at p5
              · rename_i hacc
                intro H5 ρ5 e5' s5 y ryy
                have hD5 : H5 D = some (.lst vs) := (e5'.keep D _ hD4 (s4.disj D (by simp))).1
                have rs5 : RVs T H5 ρ5 (D :: Ow) vs acc := (rs3.ext e4).ext e5'
                have hz : vs.length < LIM := by rw [rs5.length]; exact hacc
                have kk : Keeps H5 ρ5 (D :: Ow) (upd H5 D (.lst (vs ++ [y]))) ρ5 (D :: Ow) := Keeps.upd (by simp)
                refine ⟨vs, hD5, by rw [← lim_line]; exact hz, st5, ρ5, acc ++ [y0], vs ++ [y], ?_, s5.updOw (by simp), (n4.ext e5' s4.disj).updOw s5 (by simp) slotNe, L2.upd_same, by rw [List.length_append]; exact hz, ?_, p5⟩
                · have e15 := (e3.trans e4).trans e5'
                  refine ⟨fun a o h m1 => ⟨?_, (e15.keep a o h m1).2⟩, e15.pre⟩
                  rw [L2.upd_ne fun e => by rw [e, hD] at h; cases h]
                  exact (e15.keep a o h m1).1
                · exact (rs5.append (.cons ryy .nil)).keeps kk s5.lists
              · exact p5.elim
            | ex c fs st5 => rw [if_pos rfl, hv] at p2; exact p2.elim
            | bad => rw [if_pos rfl, hv] at p2; exact p2.elim
        | ex c fs st4 =>
          have e0 : turnV (own.map (·.2)) sE p ss env d st2 = .ex c fs st4 := by unfold turnV; rw [hs]; simp only [ht2, O.bind]
          rw [e0] at p2; exact p2.elim
        | bad =>
          have e0 : turnV (own.map (·.2)) sE p ss env d st2 = .bad := by unfold turnV; rw [hs]; simp only [ht2, O.bind]
          rw [e0] at p2; exact p2.elim
/-- the rule's conditions -/
structure LcOk (X : Cx) (T : Tb) (xf : Nat → List Nm) (W : WX) (N : List PySem.Str) (sc scope : Scope) (elt tg iter : Expr) (ifs : List Expr) (own : List (PySem.Str × Nat)) (sI sE : G.Sem) (p : Pt) (ss : List G.Sem) (rI : Bool) : Prop where
  fold : plainE iter = true
  blk : L2.BlkOk N sc scope own
  items : PI X tg iter (tIt T xf W rI sI.items)
  slots : ∀ j ∈ ptSlots p, j ∈ own.map (·.2)
  tgt : ∀ X', Blk X scope X' → PG X' tg (tPt T [] p)
  ifs : ∀ X', Blk X scope X' → JIf X' T xf W0 ifs ss
  elt : ∀ X', Blk X scope X' → JE X' T xf W0 elt sE true
theorem jf_lc {ifs : List Expr} {ss : List G.Sem} {p : Pt} {own : List (PySem.Str × Nat)} (C : CxC X T N sc n) (L : LcOk X T xf W N sc scope elt tg iter ifs own sI sE p ss rI) :
    JF X T xf W (.ListComp elt [⟨tg, iter, ifs, 0⟩] scope pos) (G.Sem.of (lcV sI sE (own.map (·.2)) p ss)) :=
  PE.imp (L2.pe_lc C.calm (by rw [C.eN]; exact C.nd) L.items (by rw [C.eN, C.eS]; exact L.blk) (fun s H a cl fp => L.tgt _ ⟨s, H, a, cl, fp, rfl⟩) (fun s H a cl fp => jif_run (L.ifs _ ⟨s, H, a, cl, fp, rfl⟩)) (fun s H a cl fp => (L.elt _ ⟨s, H, a, cl, fp, rfl⟩).val) (fun x => plain_fold L.fold _ _)) (lc_imp L.slots)
theorem lcV_sh {own : List Nat} {p : Pt} {ss : List G.Sem} : ∀ env st d st', (G.Sem.of (lcV sI sE own p ss)).val env st = .ok d st' → ∃ xs, d = .lst xs := by
  intro env st d st' h
  have h' : lcV sI sE own p ss env st = .ok d st' := h
  unfold lcV at h'
  cases h1 : sI.items env st with
  | ok xs st1 =>
    rw [h1] at h'
    have h2 : ((compL (turnV own sE p ss env) xs [] st1).bind fun ds st => O.ok (G.D.lst ds) st) = .ok d st' := h'
    cases h3 : compL (turnV own sE p ss env) xs [] st1 with
    | ok ys st2 => rw [h3] at h2; cases h2; exact ⟨_, rfl⟩
    | ex _ _ _ => rw [h3] at h2; cases h2
    | bad => rw [h3] at h2; cases h2
  | ex _ _ _ => rw [h1] at h'; cases h'
  | bad => rw [h1] at h'; cases h'
/-- a new list is a value -/
theorem fre_val {f : Env → Store → O G.D} {e : Expr} (sh : ∀ env st d st', f env st = .ok d st' → ∃ xs, d = .lst xs) (h : PE X e (tFre T xf W f)) : PE X e (tVal T xf W true f) :=
  PE.imp h fun σ H Q ⟨env, st, ρ, Ow, en, sr, po⟩ => by
    refine ⟨env, st, ρ, Ow, en, sr, ?_⟩
    cases hf : f env st with
    | ok d st1 =>
      rw [hf] at po
      intro H1 ρ1 e1 s1
      obtain ⟨xs, rfl⟩ := sh _ _ _ _ hf
      exact ⟨xs, rfl, fun p vs hp rs z => po _ ρ1 (e1.trans (Ext.new hp)) (s1.new hp) _ (rv_lst hp (s1.fresh hp).1 (s1.fresh hp).2 z rs)⟩
    | ex c fs st1 => rw [hf] at po; exact po
    | bad => rw [hf] at po; exact po
theorem je_lc {ifs : List Expr} {ss : List G.Sem} {p : Pt} {own : List (PySem.Str × Nat)} (C : CxC X T N sc n) (L : LcOk X T xf W N sc scope elt tg iter ifs own sI sE p ss rI) :
    JE X T xf W (.ListComp elt [⟨tg, iter, ifs, 0⟩] scope pos) (G.Sem.of (lcV sI sE (own.map (·.2)) p ss)) true := .of C.toCxG (fre_val lcV_sh (jf_lc C L))
/-- name = [..], on one line: the list goes to the name within the block's end -/
theorem js_lcN {Y : WS} {i : Nat} {y : PySem.Str} {py spos : Pos} {ifs : List Expr} {ss : List G.Sem} {p : Pt} {own : List (PySem.Str × Nat)} (C : CxC X Y.T N sc n) (h : NmL X y i) (hl : X.env.scope.names.lookup y = some .local)
    (hsw : swapsWith (.ListComp elt [⟨tg, iter, ifs, 0⟩] scope pos) (some (.Name y py)) spos.line X.env = pure true) (L : LcOk X Y.T Y.xf Y.W N sc scope elt tg iter ifs own sI sE p ss rI) :
    JS X Y (.Assign [.Name y py] (.ListComp elt [⟨tg, iter, ifs, 0⟩] scope pos) spos) fun env st => ((G.Sem.of (lcV sI sE (own.map (·.2)) p ss)).val env st).run env fun d st => .nx (env.set i (.v d)) st :=
  PS.imp (L2.ps_setLc C.calm h.nd h.at_ hl hsw L.items (by rw [C.eN, C.eS]; exact L.blk) (fun s H a cl fp => L.tgt _ ⟨s, H, a, cl, fp, rfl⟩) (fun s H a cl fp => jif_run (L.ifs _ ⟨s, H, a, cl, fp, rfl⟩)) (fun s H a cl fp => (L.elt _ ⟨s, H, a, cl, fp, rfl⟩).val) (fun x => plain_fold L.fold _ _)) fun Z σ H ⟨env, st, ρ, Ow, fr, po⟩ => by
    refine lc_imp L.slots σ H _ ⟨env, st, ρ, Ow, fr.en, fr.sr, ?_⟩
    cases hf : lcV sI sE (own.map (·.2)) p ss env st with
    | ok d st1 =>
      have po' : PostR Y H ρ Ow Z (.nx (env.set i (.v d)) st1) := by
        have q : PostR Y H ρ Ow Z ((lcV sI sE (own.map (·.2)) p ss env st).run env fun d st => .nx (env.set i (.v d)) st) := po
        rw [hf] at q; exact q
      intro H1 ρ1 e1 s1
      obtain ⟨xs, rfl⟩ := lcV_sh env st d st1 hf
      refine ⟨xs, rfl, fun p vs hp rs z => ?_⟩
      have e2 := e1.trans (Ext.new (o := .lst vs) hp)
      have f2 := fr.ext e2 (s1.new hp)
      exact po' _ _ _ _ (fr.step e2) (f2.set i (rv_lst hp (s1.fresh hp).1 (s1.fresh hp).2 z rs))
    | ex c fs st1 =>
      have q : PostR Y H ρ Ow Z ((lcV sI sE (own.map (·.2)) p ss env st).run env fun d st => .nx (env.set i (.v d)) st) := po
      rw [hf] at q
      exact fun cls dx H1 ρ1 e1 s1 x => q cls dx σ H1 ρ1 Ow (fr.step e1) (fr.ext e1 s1) x
    | bad =>
      have q : PostR Y H ρ Ow Z ((lcV sI sE (own.map (·.2)) p ss env st).run env fun d st => .nx (env.set i (.v d)) st) := po
      rw [hf] at q; exact q
theorem js_lcO {Y : WS} {i : Nat} {y : PySem.Str} {py spos : Pos} {ifs : List Expr} {ss : List G.Sem} {p : Pt} {own : List (PySem.Str × Nat)} (C : CxC X Y.T N sc n) (h : NmL X y i) (hl : X.env.scope.names.lookup y = some .local)
    (hsw : swapsWith (.ListComp elt [⟨tg, iter, ifs, 0⟩] scope pos) (some (.Name y py)) spos.line X.env = pure true) (L : LcOk X Y.T Y.xf Y.W N sc scope elt tg iter ifs own sI sE p ss rI) :
    JS X Y (.Assign [.Name y py] (.ListComp elt [⟨tg, iter, ifs, 0⟩] scope pos) spos) fun env st => ((G.Sem.of (lcV sI sE (own.map (·.2)) p ss)).val env st).run env fun d st => ownR i d env st :=
  PS.imp (L2.ps_setLc C.calm h.nd h.at_ hl hsw L.items (by rw [C.eN, C.eS]; exact L.blk) (fun s H a cl fp => L.tgt _ ⟨s, H, a, cl, fp, rfl⟩) (fun s H a cl fp => jif_run (L.ifs _ ⟨s, H, a, cl, fp, rfl⟩)) (fun s H a cl fp => (L.elt _ ⟨s, H, a, cl, fp, rfl⟩).val) (fun x => plain_fold L.fold _ _)) fun Z σ H ⟨env, st, ρ, Ow, fr, po⟩ => by
    refine lc_imp L.slots σ H _ ⟨env, st, ρ, Ow, fr.en, fr.sr, (PostR.run fr po).mono fun d st1 H1 ρ1 e1 s1 q => ?_⟩
    obtain ⟨f1, q⟩ := q
    cases d with
    | lst xs =>
      refine ⟨xs, rfl, fun p vs hp rs z => ?_⟩
      obtain ⟨g1, g2, g3⟩ := f1.newOw (vs := vs) hp
      exact q _ _ _ _ g1 (g2.setOwn i (List.mem_cons_self) g3 L2.upd_same z ((rs.new hp).ext (Ext.new hp)) fun j ys _ h => f1.slotNe hp j ys h)
    | _ => exact q.elim
end
end G
/-! The engine's iterables: range, enumerate, zip. -/
namespace G
open PySem PySem.Spec PyProof.Rows
open L2 (V Hp HO upd SqL SqT Rd VK XK TE TT TA TI TS TG TGs Ends WX Cx PE PT PA PI PS PSs PG PGs Inv OpR CallR RelV Vals R2 PC PW Gl)
section
variable {X : Cx} {T : Tb} {xf : Nat → List Nm} {W : WX} {N : List PySem.Str} {sc : Scope} {n : Nat} {tg a b : Expr} {p pos tpos : Pos} {str : Bool}
/-- what is walked -/
def JI (X : Cx) (T : Tb) (xf : Nat → List Nm) (W : WX) (tg e : Expr) (s : G.Sem) (str : Bool) : Prop := PI X tg e (tIt T xf W str s.items)
theorem ji_of {e : Expr} {s : G.Sem} (j : JE X T xf W e s str) : JI X T xf W tg e s str := j.items tg
theorem walk_rng {H : Hp} {ρ Ow : List Addr} (lo hi : Int) : Walk str T (L2.Itr lo (hi - lo).toNat) H ρ Ow (rangeD lo hi) := by
  refine ⟨fun i d H' ρ' Ow' st hd p s => ?_, fun H' ρ' Ow' p => ?_⟩
  · have hi2 : i < (hi - lo).toNat := by
      have := (List.getElem?_eq_some_iff.mp hd).1
      simpa [rangeD] using this
    refine ⟨hi2, fun x H'' h => ?_⟩
    obtain ⟨rfl, rfl⟩ := h
    have hd' : (rangeD lo hi)[i]? = some (D.int (lo + (i : Int))) := by
      unfold rangeD
      rw [List.getElem?_map, List.getElem?_range hi2]; rfl
    rw [hd] at hd'
    cases hd'
    exact ⟨.inl rfl, .int _⟩
  · show (hi - lo).toNat ≤ (rangeD lo hi).length
    simp [rangeD]
theorem lim_int : (LIM : Int) < 2 ^ 62 := by rw [lim_line, sizeLine_eq]; decide
theorem ji_rng1 {s : G.Sem} (C : CxG X T N sc n) (hg : Gl X "range") (hm : X.mg "range" = none) (h : plainE a = true) (j : JE X T xf W a s true) :
    JI X T xf W tg (.Call (.Name "range" p) [a] [] pos) (.walk fun env st => (args [s] env st).bind fun ds st => rngI ds st) str :=
  PI.imp (L2.pi_range1 hg hm (pa_args (.cons h j .nil)) (by rw [plain_star h]; rfl)) fun σ H R ⟨env, st, ρ, Ow, en, sr, po⟩ => by
    refine ⟨env, st, ρ, Ow, en, sr, (Post.bind po).eqn.mono fun ds st1 H1 ρ1 e1 s1 q vs rs => ?_⟩
    obtain ⟨eq, q⟩ := q
    have hl := args_len eq
    match ds, rs, q, hl with
    | [d], .cons r .nil, q, _ =>
      cases d with
      | int j =>
        cases r
        have q' : Post ⟨T, xf, W, σ⟩ H1 ρ1 Ow _ (if -(LIM : Int) ≤ j ∧ j ≤ LIM then .ok (rangeD 0 j) st1 else .bad) := q
        split at q'
        · rename_i hj
          have w := walk_rng (T := T) (str := str) (H := H1) (ρ := ρ1) (Ow := Ow) 0 j
          rw [Int.sub_zero] at w
          have hb := lim_int
          exact ⟨j, rfl, by omega, by omega, Post.ok s1 q' _ w⟩
        · exact q'.elim
      | _ => exact q.elim
theorem ji_rng2 {s t : G.Sem} (C : CxG X T N sc n) (hg : Gl X "range") (hm : X.mg "range" = none) (h : plainE a = true) (h2 : plainE b = true) (j : JE X T xf W a s true) (j2 : JE X T xf W b t true) :
    JI X T xf W tg (.Call (.Name "range" p) [a, b] [] pos) (.walk fun env st => (args [s, t] env st).bind fun ds st => rngI ds st) str :=
  PI.imp (L2.pi_range2 hg hm (pa_args (.cons h j (.cons h2 j2 .nil))) (by rw [plain_star h, plain_star h2]; rfl) (by rw [plain_star h2]; rfl)) fun σ H R ⟨env, st, ρ, Ow, en, sr, po⟩ => by
    refine ⟨env, st, ρ, Ow, en, sr, (Post.bind po).eqn.mono fun ds st1 H1 ρ1 e1 s1 q vs rs => ?_⟩
    obtain ⟨eq, q⟩ := q
    have hl := args_len eq
    match ds, rs, q, hl with
    | [d, d2], .cons r (.cons r2 .nil), q, _ =>
      cases d with
      | int i =>
        cases d2 with
        | int j =>
          cases r; cases r2
          have q' : Post ⟨T, xf, W, σ⟩ H1 ρ1 Ow _ (if -(LIM : Int) ≤ i ∧ i ≤ LIM ∧ -(LIM : Int) ≤ j ∧ j ≤ LIM then .ok (rangeD i j) st1 else .bad) := q
          split at q'
          · rename_i hj
            have w := walk_rng (T := T) (str := str) (H := H1) (ρ := ρ1) (Ow := Ow) i j
            have hb := lim_int
            exact ⟨i, j, rfl, ⟨by omega, by omega, by omega, by omega⟩, Post.ok s1 q' _ w⟩
          · exact q'.elim
        | _ => exact q.elim
      | _ => cases d2 <;> exact q.elim
/-- an item's tuple -/
theorem lst_key {H : Hp} {ρ Ow : List Addr} {st : Store} {v : V} {ds : List D} (s : StR T H ρ Ow st) (r : RX str T H ρ Ow v (.lst ds)) : ∃ a, v = .ref a ∧ ∀ H' ρ' Ow', Per str H ρ Ow H' ρ' Ow' → ∃ vs, SqL T.K H' a vs ∧ RVs T H' ρ' Ow' vs ds := by
  have hv : ∃ a, v = .ref a := by
    rcases r.w with r2 | ⟨a, vs, es, e1, e2, h1, h2, z, rs⟩
    · cases r2; exact ⟨_, rfl⟩
    · exact ⟨a, e1⟩
  obtain ⟨a, rfl⟩ := hv
  refine ⟨a, rfl, fun H' ρ' Ow' p => ?_⟩
  cases str with
  | true =>
    have r' : RV T H ρ Ow (.ref a) (.lst ds) := r
    have r2 := r'.keeps p s.lists
    cases r2 with
    | lst q n1 n2 z rs => exact ⟨_, .inl (.inl q), rs⟩
  | false =>
    obtain ⟨e, ho⟩ := p
    rcases RW.ext e (RW.ow (fun a h _ n => ho a h n) r) with r2 | ⟨b, vs, es, e1, e2, h1, h2, z, rs⟩
    · cases r2 with
      | lst q n1 n2 z rs => exact ⟨_, .inl (.inl q), rs⟩
    · cases e1; cases e2
      exact ⟨vs, .inl (.inl h1), rs⟩
theorem tup_key {H : Hp} {ρ Ow : List Addr} {st : Store} {v : V} {ds : List D} (s : StR T H ρ Ow st) (r : RX str T H ρ Ow v (.tup ds)) : ∃ a, v = .ref a ∧ ∀ H' ρ' Ow', Per str H ρ Ow H' ρ' Ow' → ∃ vs, SqT T.K H' a vs ∧ RVs T H' ρ' Ow' vs ds := by
  have hv : ∃ a, v = .ref a := by
    rcases r.w with r2 | ⟨a, vs, es, e1, e2, h1, h2, z, rs⟩
    · cases r2; exact ⟨_, rfl⟩
    · exact ⟨a, e1⟩
  obtain ⟨a, rfl⟩ := hv
  refine ⟨a, rfl, fun H' ρ' Ow' p => ?_⟩
  cases str with
  | true =>
    have r' : RV T H ρ Ow (.ref a) (.tup ds) := r
    have r2 := r'.keeps p s.lists
    cases r2 with
    | tup q z rs => exact ⟨_, q.sq, rs⟩
  | false =>
    obtain ⟨e, ho⟩ := p
    rcases RW.ext e (RW.ow (fun a h _ n => ho a h n) r) with r2 | ⟨b, vs, es, e1, e2, h1, h2, z, rs⟩
    · cases r2 with
      | tup q z rs => exact ⟨_, q.sq, rs⟩
    · cases e2
theorem pair_lim : 2 ≤ LIM := by rw [lim_line, sizeLine_eq]; decide
theorem enumD_at {ds : List D} {i : Nat} {e : D} (h : (enumD ds)[i]? = some e) : ∃ d, ds[i]? = some d ∧ e = .tup [.int i, d] := by
  unfold enumD at h
  rw [List.getElem?_map, List.getElem?_zipIdx] at h
  cases hd : ds[i]? with
  | none => rw [hd] at h; cases h
  | some d =>
    rw [hd] at h
    cases h
    exact ⟨d, rfl, by simp⟩
theorem walk_enL {H : Hp} {ρ Ow : List Addr} {ds : List D} {a : Addr} (key : ∀ H' ρ' Ow', Per str H ρ Ow H' ρ' Ow' → ∃ vs, SqL T.K H' a vs ∧ RVs T H' ρ' Ow' vs ds) : Walk str T (L2.Ite T.K a) H ρ Ow (enumD ds) := by
  refine ⟨fun i e H' ρ' Ow' st h0 p s => ?_, fun H' ρ' Ow' p => ?_⟩
  · obtain ⟨d, hd, rfl⟩ := enumD_at h0
    obtain ⟨vs, q, rs⟩ := key H' ρ' Ow' p
    obtain ⟨v, hv, rv⟩ := rs.get hd
    refine ⟨⟨vs, v, q, hv⟩, fun x H2 y => ?_⟩
    obtain ⟨t, y0, rfl, ht, rfl, hy⟩ := y
    have e := hy vs q
    rw [hv] at e; cases e
    exact ⟨.inr ⟨t, _, ht, rfl⟩, rv_tup ht (s.fresh ht).1 pair_lim (.cons (.int _) (.cons rv .nil))⟩
  · obtain ⟨vs, q, rs⟩ := key H' ρ' Ow' p
    exact ⟨vs, q, by rw [rs.length]; simp [enumD]⟩
theorem zipD_at {ds es : List D} {i : Nat} {e : D} (h : (zipD ds es)[i]? = some e) : ∃ d d2, ds[i]? = some d ∧ es[i]? = some d2 ∧ e = .tup [d, d2] := by
  unfold zipD at h
  rw [List.getElem?_map] at h
  cases hz : (ds.zip es)[i]? with
  | none => rw [hz] at h; cases h
  | some q =>
    rw [hz] at h
    cases h
    obtain ⟨h1, h2⟩ := List.getElem?_zip_eq_some.mp hz
    exact ⟨_, _, h1, h2, rfl⟩
theorem walk_zipL {H : Hp} {ρ Ow : List Addr} {ds es : List D} {a b : Addr} (key : ∀ H' ρ' Ow', Per str H ρ Ow H' ρ' Ow' → ∃ vs, SqL T.K H' a vs ∧ RVs T H' ρ' Ow' vs ds) (key2 : ∀ H' ρ' Ow', Per str H ρ Ow H' ρ' Ow' → ∃ vs, SqL T.K H' b vs ∧ RVs T H' ρ' Ow' vs es) :
    Walk str T (L2.Itz T.K a b) H ρ Ow (zipD ds es) := by
  refine ⟨fun i e H' ρ' Ow' st h0 p s => ?_, fun H' ρ' Ow' p => ?_⟩
  · obtain ⟨d, d2, hd, hd2, rfl⟩ := zipD_at h0
    obtain ⟨vs, q, rs⟩ := key H' ρ' Ow' p
    obtain ⟨us, q2, rs2⟩ := key2 H' ρ' Ow' p
    obtain ⟨v, hv, rv⟩ := rs.get hd
    obtain ⟨u, hu, ru⟩ := rs2.get hd2
    refine ⟨⟨vs, us, v, u, q, q2, hv, hu⟩, fun x H2 y => ?_⟩
    obtain ⟨t, y0, z0, rfl, ht, rfl, hy, hz⟩ := y
    have e := hy vs q
    rw [hv] at e; cases e
    have e := hz us q2
    rw [hu] at e; cases e
    exact ⟨.inr ⟨t, _, ht, rfl⟩, rv_tup ht (s.fresh ht).1 pair_lim (.cons rv (.cons ru .nil))⟩
  · obtain ⟨vs, q, rs⟩ := key H' ρ' Ow' p
    obtain ⟨us, q2, rs2⟩ := key2 H' ρ' Ow' p
    refine ⟨vs, us, q, q2, ?_⟩
    rw [rs.length, rs2.length]
    simp only [zipD, List.length_map, List.length_zip]
    omega
theorem walk_zipT {H : Hp} {ρ Ow : List Addr} {ds es : List D} {a b : Addr} (key : ∀ H' ρ' Ow', Per str H ρ Ow H' ρ' Ow' → ∃ vs, SqT T.K H' a vs ∧ RVs T H' ρ' Ow' vs ds) (key2 : ∀ H' ρ' Ow', Per str H ρ Ow H' ρ' Ow' → ∃ vs, SqT T.K H' b vs ∧ RVs T H' ρ' Ow' vs es) :
    Walk str T (RZ.ItzT T.K a b) H ρ Ow (zipD ds es) := by
  refine ⟨fun i e H' ρ' Ow' st h0 p s => ?_, fun H' ρ' Ow' p => ?_⟩
  · obtain ⟨d, d2, hd, hd2, rfl⟩ := zipD_at h0
    obtain ⟨vs, q, rs⟩ := key H' ρ' Ow' p
    obtain ⟨us, q2, rs2⟩ := key2 H' ρ' Ow' p
    obtain ⟨v, hv, rv⟩ := rs.get hd
    obtain ⟨u, hu, ru⟩ := rs2.get hd2
    refine ⟨⟨vs, us, v, u, q, q2, hv, hu⟩, fun x H2 y => ?_⟩
    obtain ⟨t, y0, z0, rfl, ht, rfl, hy, hz⟩ := y
    have e := hy vs q
    rw [hv] at e; cases e
    have e := hz us q2
    rw [hu] at e; cases e
    exact ⟨.inr ⟨t, _, ht, rfl⟩, rv_tup ht (s.fresh ht).1 pair_lim (.cons rv (.cons ru .nil))⟩
  · obtain ⟨vs, q, rs⟩ := key H' ρ' Ow' p
    obtain ⟨us, q2, rs2⟩ := key2 H' ρ' Ow' p
    refine ⟨vs, us, q, q2, ?_⟩
    rw [rs.length, rs2.length]
    simp only [zipD, List.length_map, List.length_zip]
    omega
end
end G
/-! enumerate of tuples. -/
namespace G
open PySem PySem.Spec PyProof.Rows
open L2 (V Hp HO upd SqL SqT Rd VK XK TE TT TA TI TS TG TGs Ends WX Cx PE PT PA PI PS PSs PG PGs Inv OpR CallR RelV Vals R2 PC PW Gl It Turn FpOk)
theorem meets_enum1 {v : Value} {o : PySem.Obj} {P : Heap → Prop} (B : Begins v o P) :
    Meets (Builtin.«enumerate.__new__» ⟨[.type "enumerate", v], []⟩) (fun _ R s => P s.heap ∧
      R (.ok (.ret (.ref (s.heap.push o).objs.size))) { s with heap := (s.heap.push o).push { cls := .type "enumerate", data := .fields #[.none, .bool false, .ref s.heap.objs.size, rawInt 0, .none, .none] } }) :=
  .of_wp fun prog w A R s h => by
    obtain ⟨hp, g, d, tk, os⟩ := s; obtain ⟨h1, h⟩ := h
    have hsub := sub_enumerate
    have q1 : ∀ {A' : Around} {E : Value → Shared → Prop} {Q : Value → Shared → Prop}, Q (.ref hp.objs.size) ⟨(hp.push o), g, d, tk, os⟩ → wpAny (model prog w) A' (pyIter v) Q E ⟨hp, g, d, tk, os⟩ :=
      fun q => B.iter prog w _ _ ⟨hp, g, d, tk, os⟩ _ h1 q
    wp_walk using q1
    refine wpAny_stack_any fun st => wpAny_pure ?_
    split
    · rename_i c _ _ _ _ _
      cases (c == Value.type "enumerate")
      · wp_walk using q1
        exact ⟨_, rfl, h⟩
      · wp_walk using q1
        exact ⟨_, rfl, h⟩
    · wp_walk using q1
      exact ⟨_, rfl, h⟩
theorem call_enum1 {prog : Program} {w : World} {A : Around} {E : Value → Shared → Prop} {s : Shared} {v : Value} {o : PySem.Obj} {P : Heap → Prop} {Q : Value → Shared → Prop} (B : Begins v o P) (h1 : P s.heap)
    (h : ∀ h', IsEnum h' (s.heap.objs.size + 1) s.heap.objs.size 0 .none → h'.get? s.heap.objs.size = some o → h'.objs.size = s.heap.objs.size + 2 →
      (∀ b o, s.heap.get? b = some o → h'.get? b = some o) → Q (.ref (s.heap.objs.size + 1)) { s with heap := h' }) :
    wpAny (model prog w) A (PySem.call (.type "enumerate") [v]) Q E s := by
  refine callType_new F.called_enumerate (by decide) (F.typeCall_enumerate_1 _) (F.newCall_enumerate_1 _) (fun obj => F.args_object_init_2 obj _) F.entry_enumerate_new (meets_enum1 B) ⟨h1, ?_⟩
  have hz : (s.heap.push o).objs.size = s.heap.objs.size + 1 := Heap.size_push ..
  show _ ∧ _
  rw [hz]
  have he : IsEnum ((s.heap.push o).push { cls := .type "enumerate", data := .fields #[.none, .bool false, .ref s.heap.objs.size, rawInt 0, .none, .none] }) (s.heap.objs.size + 1) s.heap.objs.size 0 .none := by
    have := Heap.get?_push_size (s.heap.push o) (o := { cls := .type "enumerate", data := .fields #[.none, .bool false, .ref s.heap.objs.size, rawInt 0, .none, .none] }) rfl
    rw [hz] at this; exact this
  exact ⟨⟨_, he, rfl⟩, h _ he (Heap.get?_push_of_some _ (Heap.get?_push_size _ B.free)) (by rw [Heap.size_push, hz]) fun b o' x => Heap.get?_push_of_some _ (Heap.get?_push_of_some _ x)⟩
/-- the tuple at a, each item in a new pair -/
def IteT (K : PySem.W.Frag) (a : Addr) : It :=
  ⟨fun i H => ∃ (xs : List V) (x : V), SqT K H a xs ∧ xs[i]? = some x, fun i H v H' => ∃ T x, v = .ref T ∧ H T = none ∧ H' = upd H T (.tup [.int (i : Nat), x]) ∧ ∀ xs, SqT K H a xs → xs[i]? = some x, fun i H => ∃ xs : List V, SqT K H a xs ∧ xs.length = i⟩
theorem turn_enumT {P : Program} {w : World} {K : PySem.W.Frag} {elts : List Expr} {kk : Nat} {tpos : Pos} (a e it : Addr) :
    Turn P w K (.Tuple elts kk tpos) (IteT K a) [e, it] e (fun i h => (∃ old, IsEnum h e it ((i : Nat) : Int) old) ∧ h.IsTupleIter it a i ∧ e ≠ it ∧ a ≠ it) where
  mem := by simp
  obj := fun i h st b hb => by
    obtain ⟨⟨old, he⟩, ⟨o, ho, hc, hd⟩, _⟩ := st
    have e' : b = e ∨ b = it := by simpa using hb
    rcases e' with z | z
    · rw [z]; exact ⟨_, he, fun v q => nomatch q⟩
    · rw [z]; exact ⟨o, ho, fun v q => by rw [hd] at q; cases q⟩
  keep := fun i h h' st k => let ⟨⟨old, he⟩, hi, hne⟩ := st; ⟨⟨old, k e (by simp) _ he⟩, hi.at fun o q => k it (by simp) o q, hne⟩
  item := by
    intro X hP hw hK hc i pins s σ H E I hf st hg
    subst hP hw hK
    obtain ⟨⟨old, he⟩, hit, hne, hai⟩ := st
    obtain ⟨xs, x, hq, hx⟩ := hg
    obtain ⟨its, rv, p, hz⟩ := I.tuple hq
    obtain ⟨u, hu, ru⟩ := rv.get hx
    have p' : s.heap.IsTuple a its.toArray := p
    have hel : e < s.heap.objs.size := Heap.lt_size he
    have hil : it < s.heap.objs.size := by obtain ⟨_, q, _⟩ := hit; exact Heap.lt_size q
    have hea : e ≠ a := fun z => by
      obtain ⟨o, ho, hc2, _⟩ := p'
      rw [← z] at ho
      have he' := he
      unfold IsEnum at he'
      rw [ho] at he'
      cases he'
      exact absurd (Value.type.inj (show Value.type "enumerate" = Value.type "tuple" from hc2)) (by decide)
    have D := Draws.tuple (prog := X.prog) (w := X.w) (A := X.A.in1) (show X.A.in1.handled = none from I.ok.hd hc) it a hai its.toArray
    have hlt : i < its.toArray.size := by
      have := (List.getElem?_eq_some_iff.mp hu).1
      simpa using this
    refine wpAny_pyNext_enum_itemD D he ⟨hit, p'⟩ hlt hne (by simp [hne, hea]) fun x2 h' tk hx2 ho hst hT hsz hk => ?_
    have eu : x2 = u := by
      have h1 : its.toArray[i]? = some u := by simpa using hu
      rw [h1] at hx2
      exact (Option.some.inj hx2).symm
    subst eu
    refine ⟨_, rfl, wpAny_letOwnedTupleGo_enum (s := { s with heap := h', toks := tk + 1 }) ho fun h'' he' sb => ?_⟩
    have hT2 : h''.get? s.heap.objs.size = some { cls := .type "tuple", data := .seq #[.int i tk, x2] } := (sb.2 _ (Nat.ne_of_gt hel)).trans hT
    have new : L2.ObjOk X.prog X.w (upd H s.heap.objs.size (.tup [.int (i : Nat), x])) h'' s.heap.objs.size (.tup [.int (i : Nat), x]) :=
      ⟨by show 2 ≤ sizeLine; decide, [.int i tk, x2], .cons ⟨_, rfl⟩ (.cons ru .nil), ⟨_, hT2, rfl, _, rfl⟩⟩
    have I1 : Inv X pins σ (upd H s.heap.objs.size (.tup [.int (i : Nat), x])) { s with heap := h'', toks := tk + 1 } :=
      I.turnedNew (ch := [e, it]) (fun b ob hb q => (sb.2 b (fun z => hb (by simp [z]))).trans (hk b ob (fun z => hb (by simp [z])) (fun z => hb (by simp [z])) q)) hf (Nat.le_refl _) new
    refine ⟨.ref s.heap.objs.size, _, I1, rfl, ⟨_, x, rfl, I.hok.fresh (Nat.le_refl _), rfl, fun ys hy => by rw [I.tuple_inj hy hq]; exact hx⟩, ⟨⟨x2, ?_⟩, hst.1.at fun o q => (sb.2 it (Ne.symm hne)).trans q, hne, hai⟩, fun b hb => ?_⟩
    · have e1 : ((i + 1 : Nat) : Int) = (i : Int) + 1 := by omega
      rw [e1]; exact he'
    · have hb' : b < s.heap.objs.size := by
        have e' : b = e ∨ b = it := by simpa using hb
        rcases e' with z | z
        · rw [z]; exact hel
        · rw [z]; exact hil
      rw [L2.upd_ne (Nat.ne_of_lt hb')]
      exact (hf b hb).1
  done := by
    intro X hP hw hK hc i pins s σ H E I hf st hg
    subst hP hw hK
    obtain ⟨⟨old, he⟩, hit, hne, hai⟩ := st
    obtain ⟨xs, hq, hx⟩ := hg
    obtain ⟨its, rv, p, hz⟩ := I.tuple hq
    obtain ⟨f0, f1, f2, f3, f4, f5⟩ := hf it (by simp)
    have hl := rv.length
    have p' : s.heap.IsTuple a its.toArray := p
    have D := Draws.tuple (prog := X.prog) (w := X.w) (A := X.A.in1) (show X.A.in1.handled = none from I.ok.hd hc) it a hai its.toArray
    have ei : i = its.toArray.size := by rw [List.size_toArray, ← hl, hx]
    subst ei
    exact wpAny_pyNext_enum_endD D he ⟨hit, p'⟩ fun h' eb => ⟨rfl, I.turned (t' := s.toks) (fun b o hb q => eb b o hb q) f0 f1 f3 f4 f5⟩
  self := fun A i s Q E st h => let ⟨⟨_, he⟩, _⟩ := st; wpAny_pyIter_enum he h
section
variable {X : Cx} {T : Tb} {xf : Nat → List Nm} {W : WX} {N : List PySem.Str} {sc : Scope} {n : Nat} {tg e e2 : Expr} {p pos tpos : Pos} {str : Bool} {elts : List Expr} {kk : Nat} {ta : TA}
def iEnumA (K : PySem.W.Frag) (ta : TA) : TI := fun σ H R => ta σ H fun vs H1 => ∃ a xs, vs = [.ref a] ∧ ((SqL K H1 a xs ∧ R (L2.Ite K a) H1) ∨ (SqT K H1 a xs ∧ R (IteT K a) H1))
theorem pi_enumA (hg : Gl X "enumerate") (hm : X.mg "enumerate" = none) (ha : PA X [e] ta) (hs : starEach [e] X.env = [(false, eval e X.env)]) :
    PI X (.Tuple elts kk tpos) (.Call (.Name "enumerate" p) [e] [] pos) (iEnumA X.K ta) := by
  refine ⟨fun pins s σ H R I h => ?_⟩
  refine Call_ (L2.ld_blt I hg hm boot_enumerate (PyProof.Rows.callWith_type1 (L2.thn (ha.run pos pins s σ H _ I h) fun us s1 ⟨vs, H1, I1, r1, q1⟩ => ?_) hs rfl))
  obtain ⟨a, xs, ex, q1⟩ := q1
  subst ex
  cases r1 with
  | cons r rr =>
    cases rr
    cases r
    have hf0 : ∀ b ∈ [s1.heap.objs.size + 1, s1.heap.objs.size], FpOk X pins H1 b := fun b hb => by
      have e' : b = s1.heap.objs.size + 1 ∨ b = s1.heap.objs.size := by simpa using hb
      rcases e' with z | z
      · rw [z]; exact I1.fpOk (Nat.le_succ _) (I1.hok.fresh (Nat.le_succ _))
      · rw [z]; exact I1.fpOk (Nat.le_refl _) (I1.hok.fresh (Nat.le_refl _))
    rcases q1 with ⟨hq, q⟩ | ⟨hq, q⟩
    · obtain ⟨its, rv, p', hz⟩ := I1.list hq
      refine call_enumerate_list p'.isList fun h' he hit hsz hk => wpAny_pyIter_enum he ?_
      have I2 : Inv X pins σ H1 { s1 with heap := h' } := I1.kept (t' := s1.toks) hk
      exact ⟨_, [s1.heap.objs.size + 1, s1.heap.objs.size], _, _, H1, rfl, I2, L2.turn_enum a _ _, ⟨⟨.none, he⟩, hit, Nat.succ_ne_self _⟩, hf0, q⟩
    · obtain ⟨its, rv, p', hz⟩ := I1.tuple hq
      have p2 : s1.heap.IsTuple a its.toArray := p'
      refine call_enum1 (begins_tuple a its.toArray) p2 fun h' he hit hsz hk => wpAny_pyIter_enum he ?_
      have I2 : Inv X pins σ H1 { s1 with heap := h' } := I1.kept (t' := s1.toks) hk
      have hlt : a < s1.heap.objs.size := by obtain ⟨o, ho, _⟩ := p2; exact Heap.lt_size ho
      exact ⟨_, [s1.heap.objs.size + 1, s1.heap.objs.size], _, _, H1, rfl, I2, turn_enumT a _ _, ⟨⟨.none, he⟩, ⟨_, hit, rfl, rfl⟩, Nat.succ_ne_self _, Nat.ne_of_lt hlt⟩, hf0, q⟩
theorem walk_enT {H : Hp} {ρ Ow : List Addr} {ds : List D} {a : Addr} (key : ∀ H' ρ' Ow', Per str H ρ Ow H' ρ' Ow' → ∃ vs, SqT T.K H' a vs ∧ RVs T H' ρ' Ow' vs ds) : Walk str T (IteT T.K a) H ρ Ow (enumD ds) := by
  refine ⟨fun i e H' ρ' Ow' st h0 p s => ?_, fun H' ρ' Ow' p => ?_⟩
  · obtain ⟨d, hd, rfl⟩ := enumD_at h0
    obtain ⟨vs, q, rs⟩ := key H' ρ' Ow' p
    obtain ⟨v, hv, rv⟩ := rs.get hd
    refine ⟨⟨vs, v, q, hv⟩, fun x H2 y => ?_⟩
    obtain ⟨t, y0, rfl, ht, rfl, hy⟩ := y
    have e := hy vs q
    rw [hv] at e; cases e
    exact ⟨.inr ⟨t, _, ht, rfl⟩, rv_tup ht (s.fresh ht).1 pair_lim (.cons (.int _) (.cons rv .nil))⟩
  · obtain ⟨vs, q, rs⟩ := key H' ρ' Ow' p
    exact ⟨vs, q, by rw [rs.length]; simp [enumD]⟩
theorem ji_enum {s : G.Sem} (C : CxG X T N sc n) (hg : Gl X "enumerate") (hm : X.mg "enumerate" = none) (h : plainE e = true) (j : JE X T xf W e s str) :
    JI X T xf W (.Tuple elts kk tpos) (.Call (.Name "enumerate" p) [e] [] pos) (.walk fun env st => (s.val env st).bind fun x st => .of ((seqF x).map enumD) st) str :=
  PI.imp (pi_enumA hg hm (L2.pa_cons j.val L2.pa_nil (plain_star h _ _)) (by rw [plain_star h]; rfl)) fun σ H R ⟨env, st, ρ, Ow, en, sr, po⟩ => by
    refine ⟨env, st, ρ, Ow, en, sr, (Post.bind po).mono fun d st1 H1 ρ1 e1 s1 q v r => ?_⟩
    obtain ⟨ds, hds, q⟩ := Post.of s1 q
    rw [C.eK]
    cases d with
    | lst xs =>
      cases hds
      obtain ⟨a, rfl, key⟩ := lst_key s1 r
      obtain ⟨vs, hq, _⟩ := key H1 ρ1 Ow (Ext.per (Ext.refl _ _) str Ow)
      exact ⟨a, vs, rfl, .inl ⟨hq, q _ (walk_enL key)⟩⟩
    | tup xs =>
      cases hds
      obtain ⟨a, rfl, key⟩ := tup_key s1 r
      obtain ⟨vs, hq, _⟩ := key H1 ρ1 Ow (Ext.per (Ext.refl _ _) str Ow)
      exact ⟨a, vs, rfl, .inr ⟨hq, q _ (walk_enT key)⟩⟩
    | _ => cases hds
theorem ji_zip {s t : G.Sem} (C : CxG X T N sc n) (hg : Gl X "zip") (hm : X.mg "zip" = none) (h : plainE e = true) (h2 : plainE e2 = true) (j : JE X T xf W e s str) (j2 : JE X T xf W e2 t str) :
    JI X T xf W (.Tuple elts kk tpos) (.Call (.Name "zip" p) [e, e2] [] pos) (.walk fun env st => (s.val env st).bind fun x st => (t.val env st).bind fun y st => .of (zipV x y) st) str :=
  PI.imp (RZ.pi_zipA hg hm (L2.pa_cons j.val (L2.pa_cons j2.val L2.pa_nil (plain_star h2 _ _)) (plain_star h _ _)) (plain_star h _ _) (by rw [plain_star h2]; rfl)) fun σ H R ⟨env, st, ρ, Ow, en, sr, po⟩ => by
    refine ⟨env, st, ρ, Ow, en, sr, (Post.bind po).mono fun d st1 H1 ρ1 e1 s1 q v r => ?_⟩
    refine ⟨env, st1, ρ1, Ow, en.ext e1 sr.disj, s1, (Post.bind q).mono fun d2 st2 H2 ρ2 e2 s2 q2 v2 r2 => ?_⟩
    obtain ⟨ds, hds, q2⟩ := Post.of s2 q2
    rw [C.eK]
    have r1 : RX str T H2 ρ2 Ow v d := RX.ext e2 r
    cases d with
    | lst xs =>
      cases d2 with
      | lst ys =>
        cases hds
        obtain ⟨a, rfl, key⟩ := lst_key s2 r1
        obtain ⟨b, rfl, key2⟩ := lst_key s2 r2
        obtain ⟨vs, hq, _⟩ := key H2 ρ2 Ow (Ext.per (Ext.refl _ _) str Ow)
        obtain ⟨us, hq2, _⟩ := key2 H2 ρ2 Ow (Ext.per (Ext.refl _ _) str Ow)
        exact ⟨a, b, vs, us, rfl, .inl ⟨hq, hq2, q2 _ (walk_zipL key key2)⟩⟩
      | _ => cases hds
    | tup xs =>
      cases d2 with
      | tup ys =>
        cases hds
        obtain ⟨a, rfl, key⟩ := tup_key s2 r1
        obtain ⟨b, rfl, key2⟩ := tup_key s2 r2
        obtain ⟨vs, hq, _⟩ := key H2 ρ2 Ow (Ext.per (Ext.refl _ _) str Ow)
        obtain ⟨us, hq2, _⟩ := key2 H2 ρ2 Ow (Ext.per (Ext.refl _ _) str Ow)
        exact ⟨a, b, vs, us, rfl, .inr ⟨hq, hq2, q2 _ (walk_zipT key key2)⟩⟩
      | _ => cases hds
    | _ => cases d2 <;> cases hds
end
end G
/-! The engine's objects: attributes, properties, methods, instances. -/
namespace G
open PySem PySem.Spec PyProof.Rows
open L2 (V Hp HO upd SqL SqT Rd VK XK TE TT TA TI TS TG TGs Ends WX Cx PE PT PA PI PS PSs PG PGs Inv OpR CallR RelV Vals R2 PC PW Gl Room)
theorem look_zip {α β : Type} [BEq α] [LawfulBEq α] : ∀ {fs : List α} {ds : List β} {f : α} {d : β}, (fs.zip ds).lookup f = some d → ∃ i : Nat, fs[i]? = some f ∧ ds[i]? = some d
  | [], _, _, _, h => by simp at h
  | _ :: _, [], _, _, h => by simp at h
  | g :: fs, e :: ds, f, d, h => by
    rw [List.zip_cons_cons, List.lookup_cons] at h
    split at h
    · rename_i hb
      have e1 := eq_of_beq hb
      cases h
      exact ⟨0, by simp [e1], by simp⟩
    · obtain ⟨i, h1, h2⟩ := look_zip h
      exact ⟨i + 1, by simpa using h1, by simpa using h2⟩
theorem zip_look {α β : Type} [BEq α] [LawfulBEq α] : ∀ {fs : List α} {ds : List β} {f : α} {d : β} {i : Nat}, fs.Nodup → fs[i]? = some f → ds[i]? = some d → (fs.zip ds).lookup f = some d
  | [], _, _, _, _, _, h, _ => by simp at h
  | _ :: _, [], _, _, _, _, _, h => by simp at h
  | g :: fs, e :: ds, f, d, 0, _, h1, h2 => by
    simp at h1 h2
    subst h1 h2
    simp [List.lookup_cons]
  | g :: fs, e :: ds, f, d, i + 1, nd, h1, h2 => by
    have h1' : fs[i]? = some f := by simpa using h1
    have ne : ¬ f = g := fun e => (List.nodup_cons.mp nd).1 (by rw [← e]; exact List.mem_of_getElem? h1')
    rw [List.zip_cons_cons, List.lookup_cons, beq_false_of_ne ne]
    exact zip_look (i := i) (List.nodup_cons.mp nd).2 h1' (by simpa using h2)
/-- what the class c must be -/
structure ClOk (K : PySem.W.Frag) (T : Tb) (c : Nat) : Prop where
  cls : L2.Cls K (T.cls c)
  nd : ((T.flds c).map T.nm).Nodup
  no : ∀ f ∈ T.flds c, L2.NoAttr K (T.cls c) (T.nm f)
section
variable {X : Cx} {Y : Wd} {T : Tb} {xf : Nat → List Nm} {W : WX} {N : List PySem.Str} {sc : Scope} {n k : Nat} {e o : Expr} {pos apos p : Pos} {s : G.Sem} {str : Bool} {Γ : Ctx}
/-- the field of an object -/
theorem obj_fld {H : Hp} {ρ Ow : List Addr} {v : V} {c : Nat} {fs : List D} {f : Nm} {d : D} (hc : ClOk T.K T c) (r : RV T H ρ Ow v (.obj c fs)) (h : ((T.flds c).zip fs).lookup f = some d) :
    ∃ a dx gs w, v = .ref a ∧ H a = some (.ins (T.cls c) dx gs) ∧ gs.lookup (T.nm f) = some w ∧ RV T H ρ Ow w d ∧ L2.NoAttr T.K (T.cls c) (T.nm f) := by
  cases r with
  | obj q n1 n2 z rs =>
    obtain ⟨i, h1, h2⟩ := look_zip h
    obtain ⟨w, hw, rw'⟩ := rs.get h2
    exact ⟨_, _, _, w, rfl, q, zip_look (i := i) hc.nd (by rw [List.getElem?_map, h1]; rfl) hw, rw', hc.no f (List.mem_of_getElem? h1)⟩
/-- .. of one of the store -/
theorem loc_fld {H : Hp} {ρ Ow : List Addr} {a : Addr} {l c : Nat} {fs : List (Nm × D)} {f : Nm} {d : D} (hn : ∀ g ∈ fs, T.nm g.1 = T.nm f → g.1 = f) (r : ObR T H ρ Ow l a (.ins c fs)) (h : fs.lookup f = some d) :
    ∃ dx gs w, H a = some (.ins (T.cls c) dx gs) ∧ gs.lookup (T.nm f) = some w ∧ RV T H ρ Ow w d := by
  obtain ⟨_, dx, vs, q, z, _, rs⟩ := r
  suffices hh : ∀ (fs : List (Nm × D)) (vs : List V), (∀ g ∈ fs, T.nm g.1 = T.nm f → g.1 = f) → RVs T H ρ Ow vs (fs.map (·.2)) → fs.lookup f = some d → ∃ w, (((fs.map fun p => T.nm p.1).zip vs).lookup (T.nm f) = some w) ∧ RV T H ρ Ow w d by
    obtain ⟨w, h1, h2⟩ := hh fs vs hn rs h
    exact ⟨dx, _, w, q, h1, h2⟩
  clear z q rs h hn
  intro fs
  induction fs with
  | nil => intro vs _ _ h; simp at h
  | cons g fs ih =>
    intro vs hn rs h
    cases rs with
    | @cons v vs _ _ r rs =>
      rw [List.lookup_cons] at h
      rw [List.map_cons, List.zip_cons_cons, List.lookup_cons]
      by_cases e : f = g.1
      · subst e
        simp only [beq_self_eq_true] at h ⊢
        cases h
        exact ⟨v, rfl, r⟩
      · rw [beq_false_of_ne e] at h
        have ne : ¬ T.nm f = T.nm g.1 := fun e2 => e (hn g (by simp) e2.symm).symm
        rw [beq_false_of_ne ne]
        exact ih vs (fun x hx => hn x (by simp [hx])) rs h
/-- a getter -/
structure PropG (Y : Wd) (k : Nat) (c : Nat) (f : Nm) (call : Fd) : Prop where
  ex : ∃ (p g : Addr) (fd : FuncData) (x : PySem.Str), L2.PropOf Y.K (Y.T.cls c) (Y.T.nm f) p g ∧ FnG Y k g fd [x] call ∧ L2.Binds Y.K fd [x] []
theorem getprop_G {C : Addr} {f : PySem.Str} {pa g : Addr} {fd : FuncData} {x : PySem.Str} {call : Fd} {pins : List (Addr × PySem.Obj)} {σ : L2.St} {H : Hp} {s : Shared} {Q : VK} {b : Bool} {E' : Value → Shared → Prop} {a dx : Addr} {fs : List (PySem.Str × V)} (M : CxY X Y W N sc n) (I : Inv X pins σ H s)
    (ea : H a = some (.ins C dx fs)) (c : L2.Cls X.K C) (hp : L2.PropOf X.K C f pa g) (F : FnG Y k g fd [x] call) (hk : k + 1 ≤ n) (hb : L2.Binds Y.K fd [x] [])
    (h : Want Y.T Y.xf call [.ref a] H Q (fun _ _ _ => False)) : wpAny (model X.prog X.w) X.A (getAttr (.ref a) f b) (L2.EP X pins σ Q) E' s := by
  obtain ⟨mA, O, _, _, _, _⟩ := L2.ins_get I.hok ea
  obtain ⟨od, J, _⟩ := O.look
  obtain ⟨rest, hrec⟩ := hp.rec_
  have I1 := I.tok (s.toks + 1)
  have hc : (PySem.W.clsIn X.K C).isSome = true := by
    obtain ⟨cd, hc, _⟩ := PySem.W.any_some c.hd
    rw [hc]; rfl
  have e0 : L2.Env0 Y.P Y.w Y.K Y.mg Y.base X.A.in1 X.stack { s with toks := s.toks + 1 } H := by
    have q := I1.env0.in1
    rw [M.eP, M.ew, M.eKY, M.em, M.eb] at q
    exact q
  have b0 : BindsTo { s with toks := s.toks + 1 } fd ⟨[.ref a], []⟩ ([x].zip [.ref a]) := by
    have q := hb { s with toks := s.toks + 1 } [.ref a] (by rw [← M.eKY]; exact I1.kIn) rfl
    exact q
  have hr : Room (k + 1) X.A := M.room.mono hk
  have go := F.run X.A.in1 X.stack { s with toks := s.toks + 1 } H ⟨[.ref a], []⟩ [.ref a] [.ref a] Q (fun _ _ _ => False) hr.in1 M.guards e0 b0 (.cons rfl .nil) rfl h
  rw [← M.eP, ← M.ew] at go
  refine PySem.W.get_bind I.kIn J (PySem.W.plainGet_of (c.get f)).1 (PySem.W.findObj_data hc hp.at_ hp.get hp.tak) (PySem.W.plainGet_of (c.get f)).2 (wpAny_call (PySem.W.prop_get (s := { s with toks := s.toks + 1 }) I.kIn hrec (codeAny_mono go fun r s' hq => ?_)))
  cases r with
  | error er =>
    obtain ⟨_, _, _, _, _, _, _, _, _, _, _, _, z⟩ := hq
    exact z.elim
  | ok fl =>
    cases fl with
    | ret u =>
      obtain ⟨v, H', I3, rv, q3⟩ := I1.after hq
      show wpAny _ _ (handedOut u) _ _ _
      rw [PySem.W.handedOut_of (L2.handed_of rv)]
      exact wpAny_pure ⟨v, H', I3, rv, q3⟩
    | _ => exact hq.elim
/-- a method, found by name -/
structure MethG (Y : Wd) (k : Nat) (c : Nat) (m : Nm) (call : Fd) : Prop where
  ex : ∃ (f : Addr) (fd : FuncData) (ps : List PySem.Str), L2.Meth Y.K (Y.T.cls c) (Y.T.nm m) f ∧ FnG Y k f fd ps call ∧ L2.Binds Y.K fd ps [] ∧ m ∉ Y.T.flds c
/-- what the evaluator's context must be -/
structure GamOk (Y : Wd) (Γ : Ctx) (k : Nat) : Prop where
  inj : ∀ f g, Y.T.nm f = Y.T.nm g → f = g
  cls : ∀ c q, Γ.cls c = some q → Y.T.flds c = q.fields ∧ ClOk Y.K Y.T c
  prop : ∀ c q f g, Γ.cls c = some q → q.props.lookup f = some g → PropG Y k c f (Γ.call g)
theorem je_at {f : Nm} {x : PySem.Str} (M : CxY X Y W N sc n) (O : GamOk Y Γ k) (hk : k + 1 ≤ n) (hx : Y.T.nm f = x) (hp : plainO e = true) (j : JE X Y.T Y.xf W e s true) :
    JE X Y.T Y.xf W (.Attribute e x pos) (G.Sem.of (one s fun d st => atV Γ f d st)) true := by
  subst hx
  refine .of M.toCxG ⟨fun pins s0 σ H Q I ⟨env, st, ρ, Ow, en, sr, po⟩ => ?_⟩
  refine L2.attr_of (base_plain hp _ _ _) ?_
  have h1 : tVal Y.T Y.xf W true s.val σ H fun v H1 => ∃ st ρ Ow d, StR Y.T H1 ρ Ow st ∧ RV Y.T H1 ρ Ow v d ∧ Post ⟨Y.T, Y.xf, W, σ⟩ H1 ρ Ow (fun d _ H' ρ' => ∀ v, RX true Y.T H' ρ' Ow v d → Q v H') (atV Γ f d st) :=
    ⟨env, st, ρ, Ow, en, sr, (Post.bind po).mono fun d st1 H1 ρ1 e1 s1 q v r => ⟨st1, ρ1, Ow, d, s1, r, q⟩⟩
  refine L2.thn (j.val.run pins s0 σ H _ I h1) fun u s1 ⟨v, H1, I1, ru, st1, ρ1, Ow1, d, sr1, r, q⟩ => ?_
  clear h1
  unfold atV at q
  have eu : ∀ a, v = .ref a → u = .ref a := fun a e => by subst e; exact ru
  cases hf : fldv Γ st1 f d with
  | some d' =>
    rw [hf] at q
    have fld : ∃ a C dx gs w, v = .ref a ∧ H1 a = some (.ins C dx gs) ∧ gs.lookup (Y.T.nm f) = some w ∧ RV Y.T H1 ρ1 Ow1 w d' ∧ L2.NoAttr Y.K C (Y.T.nm f) ∧ L2.Cls Y.K C := by
      cases d with
      | obj c fs =>
        obtain ⟨k0, h1, h2⟩ := Option.bind_eq_some_iff.mp hf
        obtain ⟨h3, h4⟩ := O.cls c k0 h1
        rw [← h3] at h2
        have h4' : ClOk Y.T.K Y.T c := by rw [← M.eK, M.eKY]; exact h4
        obtain ⟨a, dx, gs, w, q1, q2, q3, q4, q5⟩ := obj_fld h4' r h2
        exact ⟨a, _, dx, gs, w, q1, q2, q3, q4, by rw [← M.eKY, M.eK]; exact q5, h4.cls⟩
      | loc l =>
        unfold fldv at hf
        cases hs : st1[l]? with
        | none => simp [hs] at hf
        | some ob =>
          cases ob with
          | lst xs => simp [hs] at hf
          | ins c fs =>
            simp only [hs] at hf
            obtain ⟨k0, h1, h2⟩ := Option.bind_eq_some_iff.mp hf
            obtain ⟨h3, h4⟩ := O.cls c k0 h1
            split at h2
            · rename_i hm
              cases r with
              | loc ha =>
                obtain ⟨dx, gs, w, q2, q3, q4⟩ := loc_fld (fun g _ e => O.inj _ _ e) (sr1.at_ l _ _ ha hs) h2
                exact ⟨_, _, dx, gs, w, rfl, q2, q3, q4, h4.no f (by rw [h3]; exact hm), h4.cls⟩
            · cases h2
      | _ => cases hf
    obtain ⟨a, C, dx, gs, w, rfl, q2, q3, q4, q5, q6⟩ := fld
    rw [eu a rfl]
    refine L2.getattr_ok I1 q2 (by rw [M.eKY]; exact q6) (by rw [M.eKY]; exact q5) q3 fun u' s2 I2 ru' => ⟨w, H1, I2, ru', ?_⟩
    exact Post.ok sr1 q w q4
  | none =>
    rw [hf] at q
    have q' : Post ⟨Y.T, Y.xf, W, σ⟩ H1 ρ1 Ow1 (fun d _ H' ρ' => ∀ v, RX true Y.T H' ρ' Ow1 v d → Q v H') (match (objv st1 d).bind fun p => (Γ.cls p.1).bind fun k => k.props.lookup f with
      | some g => (Γ.call g [d] st1).hush
      | none => .bad) := q
    cases ho : (objv st1 d).bind fun p => (Γ.cls p.1).bind fun k => k.props.lookup f with
    | none => rw [ho] at q'; exact q'.elim
    | some g =>
      rw [ho] at q'
      replace q' : Post ⟨Y.T, Y.xf, W, σ⟩ H1 ρ1 Ow1 (fun d _ H' ρ' => ∀ v, RX true Y.T H' ρ' Ow1 v d → Q v H') (Γ.call g [d] st1).hush := q'
      obtain ⟨⟨c, fs⟩, h1, h2⟩ := Option.bind_eq_some_iff.mp ho
      obtain ⟨k0, h3, h4⟩ := Option.bind_eq_some_iff.mp h2
      obtain ⟨h5, h6⟩ := O.cls c k0 h3
      obtain ⟨pa, g0, fd, x, pp, F, hb⟩ := (O.prop c k0 f g h3 h4).ex
      have at_ : ∃ a dx gs, v = .ref a ∧ H1 a = some (.ins (Y.T.cls c) dx gs) := by
        cases d with
        | obj c2 fs2 =>
          cases h1
          cases r with
          | obj q n1 n2 z rs => exact ⟨_, _, _, rfl, q⟩
        | loc l =>
          unfold objv at h1
          cases hs : st1[l]? with
          | none => simp [hs] at h1
          | some ob =>
            cases ob with
            | lst xs => simp [hs] at h1
            | ins c2 fs2 =>
              simp [hs] at h1
              obtain ⟨rfl, _⟩ := h1
              cases r with
              | loc ha =>
                obtain ⟨_, dx, vs, q, _⟩ := sr1.at_ l _ _ ha hs
                exact ⟨_, dx, _, rfl, q⟩
        | _ => cases h1
      obtain ⟨a, dx, gs, rfl, q2⟩ := at_
      rw [eu a rfl]
      refine getprop_G M I1 q2 (by rw [M.eKY]; exact h6.cls) (by rw [M.eKY]; exact pp) F hk hb ⟨st1, ρ1, Ow1, [d], sr1, .cons r .nil, ?_⟩
      cases hc : Γ.call g [d] st1 with
      | ok d2 st2 => rw [hc] at q'; exact q'
      | ex c2 fs2 st2 => rw [hc] at q'; exact q'.elim
      | bad => rw [hc] at q'; exact q'.elim
end
end G
/-! The engine's instances: C(..). -/
namespace G
open PySem PySem.Spec PyProof.Rows
open L2 (V Hp HO upd SqL SqT Rd VK XK TE TT TA TI TS TG TGs Ends WX Cx PE PT PA PI PS PSs PG PGs Inv OpR CallR RelV Vals R2 PC PW Gl Room)
section
variable {T : Tb} {H H' : Hp} {ρ Ow : List Addr} {p : Addr}
mutual
/-- the last place of the store is taken out -/
theorem RV.shrink : ∀ {d : D} {v : V}, ltLoc (ρ.length - T.tabs.length) d = true → RV T H (ρ ++ [p]) Ow v d → RV T H ρ Ow v d
  | _, _, _, .non => .non
  | _, _, _, .bl b => .bl b
  | _, _, _, .int i => .int i
  | _, _, _, .str s h c => .str s h c
  | _, _, h, .tup q z r => .tup (by
      rcases q with ⟨q, n⟩ | q
      · exact .inl ⟨q, fun m => n (by simp [m])⟩
      · exact .inr q) z (RVs.shrink (by simpa [ltLoc] using h) r)
  | _, _, h, .lst q n1 n2 z r => .lst q (fun m => n1 (by simp [m])) n2 z (RVs.shrink (by simpa [ltLoc] using h) r)
  | _, _, h, .fl q z r => .fl (by
      rcases q with ⟨q, n⟩ | q
      · exact .inl ⟨q, fun m => n (by simp [m])⟩
      · exact .inr q) z (RVs.shrink (by simpa [ltLoc] using h) r)
  | .loc l, _, h, .loc q => .loc (by
      have hl : l < ρ.length - T.tabs.length := by simpa [ltLoc] using h
      rw [List.getElem?_append_left (by omega)] at q
      exact q)
  | _, _, h, .obj q n1 n2 z r => .obj q (fun m => n1 (by simp [m])) n2 z (RVs.shrink (by simpa [ltLoc] using h) r)
  | _, _, _, .cls c => .cls c
  | _, _, h, .dct q n1 n2 hk r => .dct q (fun m => n1 (by simp [m])) n2 hk (RVs.shrink (by
      have h' : (ltLocs (ρ.length - T.tabs.length) _ && ltLocs (ρ.length - T.tabs.length) _) = true := h
      rw [Bool.and_eq_true] at h'
      exact h'.2) r)
theorem RVs.shrink : ∀ {ds : List D} {vs : List V}, ltLocs (ρ.length - T.tabs.length) ds = true → RVs T H (ρ ++ [p]) Ow vs ds → RVs T H ρ Ow vs ds
  | _, _, _, .nil => .nil
  | d :: ds, _, h, .cons r rs => by
    have h' : (ltLoc (ρ.length - T.tabs.length) d && ltLocs (ρ.length - T.tabs.length) ds) = true := h
    rw [Bool.and_eq_true] at h'
    exact .cons (RV.shrink h'.1 r) (RVs.shrink h'.2 rs)
end
mutual
theorem ltLoc_mono {m n : Nat} (hmn : m ≤ n) : ∀ (d : D), ltLoc m d = true → ltLoc n d = true
  | .non, _ => rfl
  | .bl _, _ => rfl
  | .int _, _ => rfl
  | .str _, _ => rfl
  | .tup xs, h => ltLocs_mono hmn xs h
  | .lst xs, h => ltLocs_mono hmn xs h
  | .dct ks vs, h => by
    simp only [ltLoc, Bool.and_eq_true] at h ⊢
    exact ⟨ltLocs_mono hmn ks h.1, ltLocs_mono hmn vs h.2⟩
  | .loc l, h => by simp only [ltLoc, decide_eq_true_eq] at h ⊢; omega
  | .obj _ fs, h => ltLocs_mono hmn fs h
  | .exc _ fs, h => ltLocs_mono hmn fs h
  | .cls _, _ => rfl
  | .fl xs, h => ltLocs_mono hmn xs h
theorem ltLocs_mono {m n : Nat} (hmn : m ≤ n) : ∀ (ds : List D), ltLocs m ds = true → ltLocs n ds = true
  | [], _ => rfl
  | d :: ds, h => by
    have h' : (ltLoc m d && ltLocs m ds) = true := h
    rw [Bool.and_eq_true] at h'
    show (ltLoc n d && ltLocs n ds) = true
    rw [ltLoc_mono hmn d h'.1, ltLocs_mono hmn ds h'.2]; rfl
end
theorem StR.shrink {st : Store} {n : Nat} (hn : ρ.length = n + T.tabs.length) (s : StR T H (ρ ++ [p]) Ow st) (hl : st.length = n + 1) : StR T H ρ Ow (st.take n) := by
  refine ⟨by rw [List.length_take]; omega, (List.nodup_append.mp s.nd).1, fun a ha => s.apart a (by simp [ha]), s.lists, fun l a ob h1 h2 => ?_, fun i q hq => ?_⟩
  rotate_left
  · obtain ⟨h1, ps, h2, h3, h4⟩ := s.tab i q hq
    have := (List.getElem?_eq_some_iff.mp hq).1
    rw [List.getElem?_append_left (by omega)] at h1
    refine ⟨h1, ps, h2, h3, fun pos cv hc => ?_⟩
    obtain ⟨c, e1, e2, e3⟩ := h4 pos cv hc
    exact ⟨c, e1, e2, fun hm => e3 (by simp [hm])⟩
  have hll : l < n := by
    have := (List.getElem?_eq_some_iff.mp h2).1
    rw [List.length_take] at this
    omega
  rw [List.getElem?_take_of_lt hll] at h2
  have q := s.at_ l a ob (by rw [List.getElem?_append_left (by omega)]; exact h1) h2
  cases ob with
  | lst ds =>
    obtain ⟨q1, vs, q2, q3, q4⟩ := q
    exact ⟨q1, vs, q2, q3, q4.shrink (ltLocs_mono (by omega) ds q1)⟩
  | ins c fs =>
    obtain ⟨q1, dx, vs, q2, q3, q5, q4⟩ := q
    exact ⟨q1, dx, vs, q2, q3, q5, q4.shrink (ltLocs_mono (by omega) _ q1)⟩
end
/-- a class that may be made -/
structure MkG (Y : Wd) (k : Nat) (c : Nat) (call : Fd) (ps : List PySem.Str) : Prop where
  ex : ∃ (f : Addr) (fd : FuncData) (x : PySem.Str), L2.Mk Y.K (Y.T.cls c) f ∧ FnG Y k f fd (x :: ps) call ∧ L2.Binds Y.K fd (x :: ps) []
section
variable {X : Cx} {Y : Wd} {W : WX} {N : List PySem.Str} {sc : Scope} {n k : Nat} {Γ : Ctx}
theorem make_guards {A : Around} {C : Addr} {us : List Value} {kw : List (PySem.Str × Value)} (h : A.guards = some []) : (A.under (.builtin "type.__call__" ⟨.ref C :: us, kw⟩)).guards = some [] := by
  first | exact h | simpa [Around.under, Code.guards, Code.isGuard, guardIds, pushGuards] using h
theorem run_makeG {c : Nat} {q : Cl} {ps : List PySem.Str} {pins : List (Addr × PySem.Obj)} {σ : L2.St} {H : Hp} {s : Shared} {Q : VK} {us : List Value} {vs : List V} (M : CxY X Y W N sc n) (hq : Γ.cls c = some q) (hfl : Y.T.flds c = q.fields) (G0 : MkG Y k c (Γ.call q.init) ps) (hk : k + 1 ≤ n)
    (I : Inv X pins σ H s) (r : Vals vs us) (hl : vs.length = ps.length)
    (h : ∃ st ρ Ow ds, StR Y.T H ρ Ow st ∧ RVs Y.T H ρ Ow vs ds ∧ Post ⟨Y.T, Y.xf, W, σ⟩ H ρ Ow (fun d _ H' ρ' => ∀ v, RX true Y.T H' ρ' Ow v d → Q v H') (mkObj Γ c ds st)) :
    wpAny (model X.prog X.w) X.A (PySem.call (.ref (Y.T.cls c)) us) (L2.EP X pins σ Q) X.xe s := by
  obtain ⟨f, fd, x, Mk, F, hb⟩ := G0.ex
  obtain ⟨st, ρ, Ow, ds, sr, rs, po⟩ := h
  have I2 := L2.Inv.made (C := Y.T.cls c) I
  have na : H (s.heap.objs.size + 1) = none := I.hok.fresh (Nat.le_succ _)
  have nx : H s.heap.objs.size = none := I.hok.fresh (Nat.le_refl _)
  have ne : s.heap.objs.size ≠ s.heap.objs.size + 1 := Nat.ne_of_lt (Nat.lt_succ_self _)
  generalize hp : s.heap.objs.size + 1 = p at I2 na ne
  generalize hx0 : s.heap.objs.size = x0 at I2 nx ne
  have na1 : upd H x0 (.own p) p = none := by rw [L2.upd_ne (Ne.symm ne)]; exact na
  have e1 : Ext H ρ (upd H x0 (.own p)) ρ := Ext.new nx
  have s1 : StR Y.T (upd H x0 (.own p)) ρ Ow st := sr.new nx
  have e2 : Ext (upd H x0 (.own p)) ρ (upd (upd H x0 (.own p)) p (.ins (Y.T.cls c) x0 [])) (ρ ++ [p]) := Ext.newS na1
  have s2 : StR Y.T (upd (upd H x0 (.own p)) p (.ins (Y.T.cls c) x0 [])) (ρ ++ [p]) Ow (st ++ [.ins c []]) := s1.push na1 ⟨rfl, x0, [], L2.upd_same, rfl, by decide, .nil⟩
  have rs2 := (rs.ext e1).ext e2
  have here : RV Y.T (upd (upd H x0 (.own p)) p (.ins (Y.T.cls c) x0 [])) (ρ ++ [p]) Ow (.ref p) (.loc st.length) := .loc (by rw [← sr.len, List.getElem?_concat_length])
  have want : Want Y.T Y.xf (Γ.call q.init) (.ref p :: vs) (upd (upd H x0 (.own p)) p (.ins (Y.T.cls c) x0 [])) (fun v H2 => v = .non ∧ Q (.ref p) H2) (L2.WE W σ) := by
    refine ⟨_, _, _, _, s2, .cons here rs2, ?_⟩
    have e12 := e1.trans e2
    have po' : Post ⟨Y.T, Y.xf, W, σ⟩ H ρ Ow (fun d _ H' ρ' => ∀ v, RX true Y.T H' ρ' Ow v d → Q v H') (match Γ.call q.init (.loc st.length :: ds) (st ++ [.ins c []]) with
      | .ok .non st' => if q.frozen then (match st'[st.length]? with
          | some (.ins b fs) => if b = c ∧ fs.map (·.1) = q.fields ∧ st'.length = st.length + 1 then .ok (.obj c (fs.map (·.2))) (st'.take st.length) else .bad
          | _ => .bad) else .ok (.loc st.length) st'
      | .ex b fs st' => .ex b fs st'
      | _ => .bad) := by
      unfold mkObj at po
      rw [hq] at po
      exact po
    cases hc : Γ.call q.init (.loc st.length :: ds) (st ++ [.ins c []]) with
    | bad => rw [hc] at po'; exact po'.elim
    | ex b fs st' =>
      rw [hc] at po'
      exact fun cls dx H' ρ' e s' x => po' cls dx H' ρ' (e12.trans e) s' x
    | ok d st' =>
      rw [hc] at po'
      cases d with
      | non =>
        have po2 : Post ⟨Y.T, Y.xf, W, σ⟩ H ρ Ow (fun d _ H' ρ' => ∀ v, RX true Y.T H' ρ' Ow v d → Q v H') (if q.frozen then (match st'[st.length]? with
          | some (.ins b fs) => if b = c ∧ fs.map (·.1) = q.fields ∧ st'.length = st.length + 1 then .ok (.obj c (fs.map (·.2))) (st'.take st.length) else .bad
          | _ => .bad) else .ok (.loc st.length) st') := po'
        intro H' ρ' e s' v rv
        cases rv
        refine ⟨rfl, ?_⟩
        obtain ⟨more, hpre⟩ := e.pre
        split at po2
        · cases hst : st'[st.length]? with
          | none => rw [hst] at po2; exact po2.elim
          | some ob =>
            cases ob with
            | lst xs => rw [hst] at po2; exact po2.elim
            | ins b fs =>
              rw [hst] at po2
              have po3 : Post ⟨Y.T, Y.xf, W, σ⟩ H ρ Ow (fun d _ H' ρ' => ∀ v, RX true Y.T H' ρ' Ow v d → Q v H') (if b = c ∧ fs.map (·.1) = q.fields ∧ st'.length = st.length + 1 then .ok (.obj c (fs.map (·.2))) (st'.take st.length) else .bad) := po2
              split at po3
              · rename_i hh
                obtain ⟨rfl, hf, hl'⟩ := hh
                -- the store did not grow
                have hm : more = [] := by
                  have h1 := s'.len
                  rw [hpre, hl'] at h1
                  simp only [List.length_append, List.length_singleton, sr.len] at h1
                  exact List.eq_nil_of_length_eq_zero (by omega)
                subst hm
                rw [List.append_nil] at hpre
                subst hpre
                have at_ := s'.at_ st.length p _ (by rw [← sr.len, List.getElem?_concat_length]) hst
                obtain ⟨lt, dx, ws, q1, q2, q3, q4⟩ := at_
                have lt' : ltLocs (ρ.length - Y.T.tabs.length) (fs.map (·.2)) = true := by rw [sr.len, Nat.add_sub_cancel]; exact lt
                have nρ : p ∉ ρ := (sr.fresh na).1
                have e3 : Ext H ρ H' ρ := ⟨fun a o h m => ⟨((e12.trans e).keep a o h m).1, m⟩, [], by simp⟩
                refine po3 H' ρ e3 (s'.shrink sr.len hl') (.ref p) (RV.obj (dx := dx) (by rw [hfl, ← hf, List.map_map]; exact q1) nρ (s'.apart p (by simp)) (by rw [q2, hfl, ← hf, List.length_map]) (q4.shrink lt'))
              · exact po3.elim
        · exact po2 H' ρ' (e12.trans e) s' (.ref p) (.loc (by rw [hpre, List.getElem?_append_left (by simp [sr.len]), ← sr.len, List.getElem?_concat_length]))
      | _ => exact po'.elim
  have hr : Room (k + 1) X.A := M.room.mono hk
  have e0 : L2.Env0 Y.P Y.w Y.K Y.mg Y.base (X.A.under (.builtin "type.__call__" ⟨.ref (Y.T.cls c) :: us, []⟩)) X.stack { s with heap := (s.heap.push PySem.W.emptyDict).push (PySem.W.instObj (Y.T.cls c) x0) } (upd (upd H x0 (.own p)) p (.ins (Y.T.cls c) x0 [])) := by
    have z := I2.env0.make (Y.T.cls c) us []
    rw [M.eP, M.ew, M.eKY, M.em, M.eb] at z
    exact z
  have hlen : (Value.ref p :: us).length = (x :: ps).length := by rw [List.length_cons, List.length_cons, ← r.length, hl]
  have b0 : BindsTo { s with heap := (s.heap.push PySem.W.emptyDict).push (PySem.W.instObj (Y.T.cls c) x0) } fd ⟨.ref p :: us, []⟩ ((x :: ps).zip (.ref p :: us)) := by
    have z := hb { s with heap := (s.heap.push PySem.W.emptyDict).push (PySem.W.instObj (Y.T.cls c) x0) } (.ref p :: us) (by rw [← M.eKY]; exact I2.kIn) (by rw [List.append_nil]; exact hlen)
    rw [List.append_nil] at z
    exact z
  have go := F.run (X.A.under (.builtin "type.__call__" ⟨.ref (Y.T.cls c) :: us, []⟩)) X.stack _ _ ⟨.ref p :: us, []⟩ (.ref p :: us) (.ref p :: vs) _ (L2.WE W σ) (hr.make (Y.T.cls c) us []) (make_guards M.guards) e0 b0 (.cons rfl r) (by rw [List.length_cons, List.length_cons, hl]) want
  rw [← M.eP, ← M.ew] at go
  subst hx0 hp
  refine wpAny_call (L2.make_map (f := f) I.kIn (by rw [M.eKY]; exact Mk.makes) (by rw [M.eKY]; exact Mk.init) (beq_iff_eq.mp (by rw [M.eKY]; exact Mk.fn)) (codeAny_mono go fun res s' hq' => ?_))
  cases res with
  | error e => exact M.pass σ pins _ _ e s' I2 hq'
  | ok fl =>
    cases fl with
    | ret u =>
      obtain ⟨v, H', I3, rv, ev, q3⟩ := I2.after hq'
      subst ev
      exact ⟨rv, ⟨V.ref (s.heap.objs.size + 1), H', I3, rfl, q3⟩⟩
    | _ => exact hq'.elim
end
end G
/-! The engine's objects, 2: calls of classes and methods by name, stores of attributes. -/
namespace G
open PySem PySem.Spec PyProof.Rows
open L2 (V Hp HO upd SqL SqT Rd VK XK TE TT TA TI TS TG TGs Ends WX Cx PE PT PA PI PS PSs PG PGs Inv OpR CallR RelV Vals R2 PC PW Gl Room)
section
variable {X : Cx} {Y : Wd} {W : WX} {N : List PySem.Str} {sc : Scope} {n k : Nat} {Γ : Ctx} {x : PySem.Str} {ps : List PySem.Str} {e o value : Expr} {es : List Expr} {ss : List G.Sem} {p pos apos pos' : Pos} {s so : G.Sem} {str : Bool}
/-- arguments for an operation that ends as f says -/
theorem args_do {T : Tb} {xf : Nat → List Nm} {σ : L2.St} {H : Hp} {Q : VK} {f : List D → Store → O D} {m : Nat} (hl : ss.length = m) (q : tVal T xf W true (many ss f) σ H Q) :
    tArg T xf W (args ss) σ H fun vs H1 => vs.length = m ∧ ∃ st ρ Ow ds, StR T H1 ρ Ow st ∧ RVs T H1 ρ Ow vs ds ∧ Post ⟨T, xf, W, σ⟩ H1 ρ Ow (fun d _ H' ρ' => ∀ v, RX true T H' ρ' Ow v d → Q v H') (f ds st) := by
  obtain ⟨env, st, ρ, Ow, en, sr, p⟩ := q
  exact ⟨env, st, ρ, Ow, en, sr, (Post.bind p).eqn.mono fun ds st1 H1 ρ1 e1 s1 q vs rs => ⟨by rw [rs.length, args_len q.1, hl], st1, ρ1, Ow, ds, s1, rs, q.2⟩⟩
/-- C(..) -/
theorem je_mk {c : Nat} {q : Cl} (M : CxY X Y W N sc n) (hq : Γ.cls c = some q) (hfl : Y.T.flds c = q.fields) (G0 : MkG Y k c (Γ.call q.init) ps) (hk : k + 1 ≤ n) (hm : Y.mg x = some (.ref (Y.T.cls c))) (hd : (x == ("__debug__" : PySem.Str)) = false) (hg : Gl X x)
    (hl : ss.length = ps.length) (js : JEs X Y.T Y.xf W es ss) : JE X Y.T Y.xf W (.Call (.Name x p) es [] pos) (G.Sem.of (many ss (mkObj Γ c))) true := by
  refine .of M.toCxG ⟨fun pins s σ H Q I q0 => ?_⟩
  have q1 := args_do hl q0
  obtain ⟨f, fd, x0, Mk, F, hb⟩ := id G0.ex
  have hkp : PySem.W.keepIn X.K (.ref (Y.T.cls c)) = true := by rw [M.eKY]; exact Mk.kp
  refine wpAny_Call_Name_kw (L2.ld_glob I hg (by rw [M.em]; exact hm) ?_ hd)
  cases js with
  | nil =>
    obtain ⟨env, st, ρ, Ow, en, sr, po⟩ := q1
    obtain ⟨h1, h2⟩ := Post.ok sr po [] .nil
    exact PySem.W.callWith_K0 I.kIn hkp (run_makeG (us := []) M hq hfl G0 hk I .nil h1 h2)
  | @cons e0 s0 es0 ss0 h j js =>
    refine PySem.W.callWith_K (h₀ := X.base) I.ok.mod.kin hkp (L2.thn ((pa_args (.cons h j js)).run pos pins s σ H _ I q1) fun us s1 ⟨vs, H1, I1, r, h1, h2⟩ => ⟨I1.kIn, ?_⟩) (plain_star h _ _) (plain_all js)
    exact run_makeG M hq hfl G0 hk I1 r h1 h2
/-- cls(..), cls a parameter -/
theorem je_mkc {c : Nat} {q : Cl} {i : Nat} (M : CxY X Y W N sc n) (hq : Γ.cls c = some q) (hfl : Y.T.flds c = q.fields) (G0 : MkG Y k c (Γ.call q.init) ps) (hk : k + 1 ≤ n) (hx : PE X (.Name x p) (L2.tVar i))
    (hl : ss.length = ps.length) (js : JEs X Y.T Y.xf W es ss) : JE X Y.T Y.xf W (.Call (.Name x p) es [] pos) (G.Sem.of fun env st => match env.get i with
      | some (.cls d) => if d = c then many ss (mkObj Γ c) env st else .bad
      | _ => .bad) true := by
  refine .of M.toCxG ⟨fun pins s σ H Q I q0 => ?_⟩
  obtain ⟨env, st, ρ, Ow, en, sr, po⟩ := q0
  cases hget : env.get i with
  | none => simp only [hget] at po; exact po.elim
  | some d =>
    cases d with
    | cls d =>
      simp only [hget] at po
      split at po
      · rename_i hdc
        subst hdc
        have q1 := args_do hl ⟨env, st, ρ, Ow, en, sr, po⟩
        obtain ⟨f, fd, x0, Mk, F, hb⟩ := id G0.ex
        have hkp : PySem.W.keepIn X.K (.ref (Y.T.cls d)) = true := by rw [M.eKY]; exact Mk.kp
        obtain ⟨v, hv, rv⟩ := en.get hget
        cases rv
        refine wpAny_Call_Name_kw (L2.thn (hx.run pins s σ H (fun v H1 => v = .ref (Y.T.cls d) ∧ H1 = H) I ⟨_, hv, rfl, rfl⟩) fun u s1 ⟨v, H1, I1, r1, e1, e2⟩ => ?_)
        subst e1 e2
        cases r1
        cases js with
        | nil =>
          obtain ⟨env, st, ρ, Ow, en, sr, po⟩ := q1
          obtain ⟨h1, h2⟩ := Post.ok sr po [] .nil
          exact PySem.W.callWith_K0 I1.kIn hkp (run_makeG (us := []) M hq hfl G0 hk I1 .nil h1 h2)
        | @cons e0 s0 es0 ss0 h j js =>
          refine PySem.W.callWith_K (h₀ := X.base) I.ok.mod.kin hkp (L2.thn ((pa_args (.cons h j js)).run pos pins s1 σ _ _ I1 q1) fun us s2 ⟨vs, H1, I2, r, h1, h2⟩ => ⟨I2.kIn, ?_⟩) (plain_star h _ _) (plain_all js)
          exact run_makeG M hq hfl G0 hk I2 r h1 h2
      · exact po.elim
    | _ => simp only [hget] at po; exact po.elim
theorem put_zip {T : Tb} {H : Hp} {ρ Ow : List Addr} {f : Nm} {v : V} {d : D} (inj : ∀ f g, T.nm f = T.nm g → f = g) (r : RV T H ρ Ow v d) : ∀ {fs : List (Nm × D)} {vs : List V}, RVs T H ρ Ow vs (fs.map (·.2)) →
    ∃ us, L2.putF (T.nm f) v ((fs.map fun p => T.nm p.1).zip vs) = (((putF f d fs).map fun p => T.nm p.1).zip us) ∧ RVs T H ρ Ow us ((putF f d fs).map (·.2)) ∧ us.length = (putF f d fs).length ∧ (putF f d fs).length ≤ fs.length + 1
  | [], _, .nil => ⟨[v], rfl, .cons r .nil, rfl, Nat.le_refl _⟩
  | (g, e) :: fs, _, .cons (v := w) (vs := vs) q rs => by
    by_cases hg : g = f
    · subst hg
      refine ⟨v :: vs, ?_, ?_, ?_, ?_⟩
      · simp [L2.putF, putF]
      · simp only [putF, if_true, List.map_cons]; exact .cons r rs
      · have hl := rs.length
        simp only [putF, if_true, List.length_cons]
        rw [hl, List.length_map]
      · simp [putF]
    · obtain ⟨us, h1, h2, h3, h4⟩ := put_zip inj r (f := f) rs
      have ne : ¬ T.nm g = T.nm f := fun e => hg (inj _ _ e)
      refine ⟨w :: us, ?_, ?_, ?_, ?_⟩
      · simp only [putF, if_neg hg, List.map_cons, List.zip_cons_cons, L2.putF]
        first
        | rw [if_neg ne, h1]
        | simp [ne, h1]
        | simp [Ne.symm ne, h1]
      · simp only [putF, if_neg hg, List.map_cons]; exact .cons q h2
      · simp only [putF, if_neg hg, List.length_cons, h3]
      · simp only [putF, if_neg hg, List.length_cons]; omega
theorem ltLocs_put {l : Nat} {f : Nm} {d : D} (h : ltLoc l d = true) : ∀ {fs : List (Nm × D)}, ltLocs l (fs.map (·.2)) = true → ltLocs l ((putF f d fs).map (·.2)) = true
  | [], _ => by simp [putF, ltLocs, h]
  | (g, e) :: fs, q => by
    have q' : (ltLoc l e && ltLocs l (fs.map (·.2))) = true := q
    rw [Bool.and_eq_true] at q'
    by_cases hg : g = f
    · simp only [putF, if_pos hg, List.map_cons, ltLocs, h, q'.2, Bool.and_true]
    · simp only [putF, if_neg hg, List.map_cons, ltLocs, q'.1, ltLocs_put h q'.2, Bool.and_true]
theorem js_fld {w : WS} {f : Nm} (C : CxG X w.T N sc n) (eT : w.T = Y.T) (eK : X.K = Y.K) (O : GamOk Y Γ k) (hx : w.T.nm f = x) (hsw : swapsWith value (some (.Attribute o x pos')) pos.line X.env = pure false) (jo : JE X w.T w.xf w.W o so true) (j : JE X w.T w.xf w.W value s true) :
    JS X w (.Assign [.Attribute o x pos'] value pos) fun env st => (s.val env st).run env fun d st => fldR Γ f so d env st := by
  subst hx
  refine PS.imp (L2.ps_fld jo.val j.val hsw) fun Z σ H ⟨env, st, ρ, Ow, fr, po⟩ => ?_
  refine ⟨env, st, ρ, Ow, fr.en, fr.sr, (PostR.run fr po).mono fun d st1 H1 ρ1 e1 s1 q y ry => ?_⟩
  obtain ⟨f1, q⟩ := q
  refine ⟨env, st1, ρ1, Ow, f1.en, f1.sr, (PostR.run f1 q).mono fun dx st2 H2 ρ2 e2 s2 q2 v rv => ?_⟩
  obtain ⟨f2, q2⟩ := q2
  cases dx with
  | loc l =>
    have rv' : RV w.T H2 ρ2 Ow v (.loc l) := rv
    cases rv' with
    | loc ha =>
      rename_i pa
      cases hst : st2[l]? with
      | none => simp only [hst] at q2; exact q2.elim
      | some ob =>
        cases ob with
        | lst xs => simp only [hst] at q2; exact q2.elim
        | ins c fs =>
          simp only [hst] at q2
          split at q2
          · rename_i hh
            obtain ⟨h1, h2, h3⟩ := hh
            unfold isFld at h3
            cases hc : Γ.cls c with
            | none => rw [hc] at h3; cases h3
            | some k0 =>
              rw [hc] at h3
              obtain ⟨h5, h6⟩ := O.cls c k0 hc
              have hm : f ∈ Y.T.flds c := by rw [h5]; simpa using h3
              obtain ⟨lt, dx, vs, q3, q4, q5, q6⟩ := f2.sr.at_ l pa _ ha hst
              have ry2 : RV w.T H2 ρ2 Ow y d := RV.ext e2 ry
              obtain ⟨us, z1, z2, z3, z4⟩ := put_zip (by rw [eT]; exact O.inj) ry2 q6
              have hlen : ((fs.map fun p => w.T.nm p.1).zip vs).length < 1000 := by rw [List.length_zip, List.length_map]; omega
              refine ⟨pa, w.T.cls c, dx, _, rfl, q3, by rw [eK, eT]; exact h6.cls, by rw [eK, eT]; exact h6.no f hm, hlen, ?_⟩
              rw [z1]
              have es : Ext H2 ρ2 (upd H2 pa (.ins (w.T.cls c) dx (((putF f d fs).map fun p => w.T.nm p.1).zip us))) ρ2 := Ext.set (List.mem_of_getElem? ha)
              obtain ⟨stp, f3⟩ := f2.updSt (o := .ins (w.T.cls c) dx (((putF f d fs).map fun p => w.T.nm p.1).zip us)) (ob := .ins c (putF f d fs)) ha ⟨ltLocs_put h1 lt, dx, us, L2.upd_same, z3, by omega, z2.ext es⟩
              exact q2 _ _ _ _ stp f3
          · exact q2.elim
  | _ => exact q2.elim
end
end G
/-! The engine's method calls. -/
namespace G
open PySem PySem.Spec PyProof.Rows
open L2 (V Hp HO upd SqL SqT Rd VK XK TE TT TA TI TS TG TGs Ends WX Cx PE PT PA PI PS PSs PG PGs Inv OpR CallR RelV Vals R2 PC PW Gl Room)
section
variable {X : Cx} {Y : Wd} {W : WX} {N : List PySem.Str} {sc : Scope} {n k : Nat} {Γ : Ctx} {x : PySem.Str} {e o : Expr} {es : List Expr} {ss : List G.Sem} {pos apos : Pos} {so : G.Sem}
/-- how a method call goes -/
theorem call_attr (hp : plainO o = true) (m : PySem.Str) (es : List Expr) (env : PySem.Env) : eval (.Call (.Attribute o m apos) es [] pos) env = eval (.Call (.Attribute o m apos) es [] pos) env := rfl
structure MeOk (Y : Wd) (k : Nat) (c : Nat) (m : Nm) (call : Fd) (np : Nat) : Prop where
  ex : ∃ (f : Addr) (fd : FuncData) (ps : List PySem.Str), L2.Meth Y.K (Y.T.cls c) (Y.T.nm m) f ∧ FnG Y k f fd ps call ∧ L2.Binds Y.K fd ps [] ∧ ps.length = np
theorem je_me {c : Nat} {m : Nm} {q : Cl} {f : Nat} {pl : PySem.Sem Bool} (M : CxY X Y W N sc n) (O : GamOk Y Γ k) (hq : Γ.cls c = some q) (hm : q.meths.lookup m = some f) (G0 : MeOk Y k c m (Γ.call f) (ss.length + 1)) (hno : m ∉ q.fields) (hk : k ≤ n) (hx : Y.T.nm m = x)
    (jo : JE X Y.T Y.xf W o so true) (js : JEs X Y.T Y.xf W es ss)
    (ht : eval (.Call (.Attribute o x apos) es [] pos) X.env = (do
      let ov ← eval o X.env
      standAt apos.atName
      let (f, first) ← holding [ov] (getMethod ov x pl)
      callWith pos f first (backTo pos (starEach es X.env)) (backToKw pos (keywordEach [] X.env)))) :
    JE X Y.T Y.xf W (.Call (.Attribute o x apos) es [] pos) (G.Sem.of (meV Γ c m so ss)) true := by
  subst hx
  refine .of M.toCxG ⟨fun pins s0 σ H Q I ⟨env, st, ρ, Ow, en, sr, po⟩ => ?_⟩
  obtain ⟨h5, h6⟩ := O.cls c q hq
  obtain ⟨fa, fd, ps, hM, F, hb, hnp⟩ := G0.ex
  have h1 : tVal Y.T Y.xf W true so.val σ H fun v H1 => ∃ a dx fs, v = .ref a ∧ H1 a = some (.ins (Y.T.cls c) dx fs) ∧ fs.lookup (Y.T.nm m) = none ∧
      tArg Y.T Y.xf W (args ss) σ H1 fun vs H2 => vs.length = ss.length ∧ Want Y.T Y.xf (Γ.call f) (.ref a :: vs) H2 Q (L2.WE W σ) := by
    refine ⟨env, st, ρ, Ow, en, sr, (Post.bind po).mono fun d st1 H1 ρ1 e1 s1 q1 v r => ?_⟩
    have r' : RV Y.T H1 ρ1 Ow v d := r
    cases ho : objv st1 d with
    | none => rw [ho] at q1; exact q1.elim
    | some bf =>
      obtain ⟨b, fs⟩ := bf
      rw [ho] at q1
      have q2 : Post ⟨Y.T, Y.xf, W, σ⟩ H1 ρ1 Ow _ (if b = c ∧ noFld st1 m d = true then (match (Γ.cls c).bind fun k => k.meths.lookup m with
        | some f => (args ss env st1).bind fun ds st => Γ.call f (d :: ds) st
        | none => .bad) else .bad) := q1
      split at q2
      · rename_i hbc
        obtain ⟨hbc, hnf⟩ := hbc
        subst hbc
        have em : ((Γ.cls b).bind fun k => k.meths.lookup m) = some f := by rw [hq]; exact hm
        rw [em] at q2
        have nolook : ∀ (gs : List PySem.Str) (vs : List V), (∀ g ∈ gs, g ≠ Y.T.nm m) → (gs.zip vs).lookup (Y.T.nm m) = none := by
          intro gs
          induction gs with
          | nil => intro vs _; rfl
          | cons g gs ih =>
            intro vs hg
            cases vs with
            | nil => rfl
            | cons v vs =>
              rw [List.zip_cons_cons, List.lookup_cons, beq_false_of_ne (Ne.symm (hg g (by simp)))]
              exact ih vs fun z hz => hg z (by simp [hz])
        have at_ : ∃ a dx gs, v = .ref a ∧ H1 a = some (.ins (Y.T.cls b) dx gs) ∧ gs.lookup (Y.T.nm m) = none := by
          cases d with
          | obj c2 fs2 =>
            cases ho
            cases r' with
            | obj q n1 n2 z rs =>
              refine ⟨_, _, _, rfl, q, nolook _ _ fun g hg e => ?_⟩
              obtain ⟨f0, hf0, rfl⟩ := List.mem_map.mp hg
              rw [O.inj _ _ e] at hf0
              rw [h5] at hf0
              exact hno hf0
          | loc l =>
            unfold objv at ho
            unfold noFld at hnf
            cases hs : st1[l]? with
            | none => simp [hs] at ho
            | some ob =>
              cases ob with
              | lst xs => simp [hs] at ho
              | ins c2 fs2 =>
                simp only [hs] at ho hnf
                cases ho
                cases r' with
                | loc hl =>
                  obtain ⟨_, dx, vs, z1, z2, _⟩ := s1.at_ l _ _ hl hs
                  refine ⟨_, dx, _, rfl, z1, nolook _ _ fun g hg e => ?_⟩
                  obtain ⟨f0, hf0, rfl⟩ := List.mem_map.mp hg
                  have := List.all_eq_true.mp hnf f0 hf0
                  rw [O.inj _ _ e] at this
                  simp at this
          | _ => cases ho
        obtain ⟨a, dx, gs, rfl, g1, g2⟩ := at_
        refine ⟨a, dx, gs, rfl, g1, g2, env, st1, ρ1, Ow, en.ext e1 sr.disj, s1, (Post.bind q2).eqn.mono fun ds st2 H2 ρ2 e2 s2 q3 vs rs => ?_⟩
        obtain ⟨eq, q3⟩ := q3
        refine ⟨by rw [rs.length, args_len eq], st2, ρ2, Ow, d :: ds, s2, .cons (r'.ext e2) rs, ?_⟩
        cases hc : Γ.call f (d :: ds) st2 with
        | ok d2 st3 => rw [hc] at q3; exact q3
        | ex c2 fs2 st3 => rw [hc] at q3; exact q3
        | bad => rw [hc] at q3; exact q3
      · exact q2.elim
  refine PySem.W.methodCall_KW (pl := pl) (L2.thn (jo.val.run pins s0 σ H _ I h1) fun u s1 ⟨v, H1, I1, rv, a, dx, fs, ev, ha, hl, q⟩ => ?_) ht
  subst ev
  obtain rfl : u = Value.ref a := rv
  have hM' : L2.Meth X.K (Y.T.cls c) (Y.T.nm m) fa := by rw [M.eKY]; exact hM
  have bind : ∀ (s : Shared) (us : List Value), Y.K.In s.heap → us.length = ps.length → BindsTo s fd ⟨us, []⟩ (ps.zip us) := fun s us hK hu => by
    have b := hb s us hK (by rw [List.append_nil]; exact hu)
    rw [List.append_nil] at b
    exact b
  refine L2.getmeth_ok I1 ha (by rw [M.eKY]; exact h6.cls) hM' hl ?_
  cases js with
  | nil =>
    obtain ⟨env, st, ρ, Ow, en, sr, po⟩ := q
    obtain ⟨z1, z2⟩ := Post.ok sr po [] .nil
    exact PySem.W.callWith_K0 (first := [.ref a]) I1.kIn hM'.kp (run_fnG (us := [.ref a]) (vs := [.ref a]) M F hk (bind s1 [.ref a] (by rw [← M.eKY]; exact I1.kIn) (by rw [hnp]; rfl)) I1 (.cons rfl .nil) (by rw [hnp]; rfl) z2)
  | @cons e0 s0' es0 ss0 h j js =>
    refine PySem.W.callWith_K (first := [.ref a]) (h₀ := X.base) I.ok.mod.kin hM'.kp (L2.thn ((pa_args (.cons h j js)).run pos pins s1 σ H1 _ I1 q) fun us s2 ⟨vs, H2, I2, r, z1, z2⟩ => ⟨I2.kIn, ?_⟩) (plain_star h _ _) (plain_all js)
    exact run_fnG (us := .ref a :: us) (vs := .ref a :: vs) M F hk (bind s2 (.ref a :: us) (by rw [← M.eKY]; exact I2.kIn) (by rw [List.length_cons, ← r.length, z1, hnp])) I2 (.cons rfl r) (by rw [List.length_cons, z1, hnp]) z2
/-- a class method of a class that is named -/
structure CmOk (Y : Wd) (k : Nat) (c : Nat) (m : PySem.Str) (call : Fd) (np : Nat) : Prop where
  ex : ∃ (mc : Value) (p g : Addr) (fd : FuncData) (ps : List PySem.Str), ClX.CRead Y.K (Y.T.cls c) mc ∧ ClX.CMet Y.K (Y.T.cls c) mc m p g ∧ FnG Y k g fd ps call ∧ L2.Binds Y.K fd ps [] ∧ ps.length = np
theorem je_cm {c : Nat} {cx : PySem.Str} {call : Fd} {pl : PySem.Sem Bool} {px : Pos} {e0 : Expr} (M : CxY X Y W N sc n) (G0 : CmOk Y k c x call (ss.length + 1)) (hk : k ≤ n) (hm : Y.mg cx = some (.ref (Y.T.cls c))) (hd : (cx == ("__debug__" : PySem.Str)) = false) (hg : Gl X cx) (js : JEs X Y.T Y.xf W (e0 :: es) ss)
    (ht : eval (.Call (.Attribute (.Name cx px) x apos) (e0 :: es) [] pos) X.env = (do
      let ov ← eval (.Name cx px) X.env
      standAt apos.atName
      let (f, first) ← holding [ov] (getMethod ov x pl)
      callWith pos f first (backTo pos (starEach (e0 :: es) X.env)) (backToKw pos (keywordEach [] X.env)))) :
    JE X Y.T Y.xf W (.Call (.Attribute (.Name cx px) x apos) (e0 :: es) [] pos) (G.Sem.of (many ss fun ds st => call (.cls c :: ds) st)) true := by
  refine .of M.toCxG ⟨fun pins s0 σ H Q I ⟨env, st, ρ, Ow, en, sr, po⟩ => ?_⟩
  obtain ⟨mc, pa, g, fd, ps, hR, hM, F, hb, hnp⟩ := G0.ex
  have h1 : tArg Y.T Y.xf W (args ss) σ H fun vs H2 => vs.length = ss.length ∧ Want Y.T Y.xf call (.ref (Y.T.cls c) :: vs) H2 Q (L2.WE W σ) := by
    refine ⟨env, st, ρ, Ow, en, sr, (Post.bind po).eqn.mono fun ds st2 H2 ρ2 e2 s2 q3 vs rs => ?_⟩
    obtain ⟨eq, q3⟩ := q3
    refine ⟨by rw [rs.length, args_len eq], st2, ρ2, Ow, .cls c :: ds, s2, .cons (.cls c) rs, ?_⟩
    cases hc : call (.cls c :: ds) st2 with
    | ok d2 st3 => rw [hc] at q3; exact q3
    | ex c2 fs2 st3 => rw [hc] at q3; exact q3
    | bad => rw [hc] at q3; exact q3
  refine PySem.W.methodCall_KW (pl := pl) (L2.ld_glob I hg (by rw [M.em]; exact hm) ?_ hd) ht
  have hR' : ClX.CRead X.K (Y.T.cls c) mc := by rw [M.eKY]; exact hR
  have hM' : ClX.CMet X.K (Y.T.cls c) mc x pa g := by rw [M.eKY]; exact hM
  refine ClX.getmethcm_ok I hR' hM' fun s2 I2 => ?_
  cases js with
  | @cons _ sa _ ss0 h j js =>
    refine ClX.callwith_cm I2 (ClX.base_none I (Nat.le_refl _)) hM'.fi (L2.thn ((pa_args (.cons h j js)).run pos _ s2 σ H _ I2 h1) fun us s3 ⟨vs, H2, I3, rv, z1, z2⟩ => ⟨⟨ClX.pin_at I3, I3.kIn⟩, ?_⟩) (plain_star h _ _) (plain_all js)
    have b : BindsTo s3 fd ⟨.ref (Y.T.cls c) :: us, []⟩ (ps.zip (.ref (Y.T.cls c) :: us)) := by
      have b := hb s3 (.ref (Y.T.cls c) :: us) (by rw [← M.eKY]; exact I3.kIn) (by rw [List.append_nil, List.length_cons, ← rv.length, z1, hnp])
      rw [List.append_nil] at b
      exact b
    exact L2.thn (wpAny_call (PySem.W.method_call (ClX.pin_at I3) (code_fnG (us := .ref (Y.T.cls c) :: us) (vs := .ref (Y.T.cls c) :: vs) M F hk b I3 (.cons rfl rv) (by rw [List.length_cons, z1, hnp]) z2))) fun _ _ y => ClX.unpinE y
end
end G
/-! The engine's isinstance. -/
namespace G
open PySem PySem.Spec PyProof.Rows
open L2 (V Hp HO upd SqL SqT Rd VK XK TE TT TA TI TS TG TGs Ends WX Cx PE PT PA PI PS PSs PG PGs Inv OpR CallR RelV Vals R2 PC PW Gl Room)
/-- what is asked of a class's instances -/
structure ClTy (K : PySem.W.Frag) (C : Addr) : Prop where
  cl : L2.Cls K C
  ha : PySem.W.findIn K (.ref C) "__class__" = some (some (.builtin "object.__class__"))
  hn : PySem.W.specialIn K (.builtin "object.__class__") "__get__" = some (some (.builtin "getset_descriptor.__get__"))
  htk : PySem.W.takesIn K (.builtin "object.__class__") = some true
  hm : PySem.W.mroIn K C (.type "object") = some true
/-- the answers of a class u that the type τ means -/
structure IsOk (K : PySem.W.Frag) (T : Tb) (Γ : Ctx) (τ : Ty) (u : Value) : Prop where
  non : PySem.W.kitOne K (.type "NoneType") u = some false
  bl : PySem.W.kitOne K (.type "bool") u = some τ.isBl
  int : PySem.W.kitOne K (.type "int") u = some τ.isInt
  str : PySem.W.kitOne K (.type "str") u = some τ.isStr
  tup : PySem.W.kitOne K (.type "tuple") u = some τ.isTup
  lst : PySem.W.kitOne K (.type "list") u = some false
  dct : PySem.W.kitOne K (.type "dict") u = some false
  ins : ∀ c q, Γ.cls c = some q → ClTy K (T.cls c) ∧ PySem.W.kitOne K (.ref (T.cls c)) u = some (τ.isOwn c)
section
variable {X : Cx} {Y : Wd} {T : Tb} {xf : Nat → List Nm} {W : WX} {N : List PySem.Str} {sc : Scope} {n k : Nat} {Γ : Ctx} {x : PySem.Str} {e : Expr} {p p2 pos apos : Pos} {s : G.Sem} {str : Bool}
theorem isi_ty {K : PySem.W.Frag} (eK : T.K = K) {τ : Ty} {u : Value} (O : IsOk K T Γ τ u) {H : Hp} {ρ Ow : List Addr} {st : Store} {v : V} {d : D} {b : Bool} (sr : StR T H ρ Ow st) (r : RW T H ρ Ow v d) (h : isiV Γ st d τ = some b) : ∃ t, L2.TyX K H v t ∧ PySem.W.kitOne K t u = some b := by
  have own : ∀ {a : Addr} {dx : Addr} {gs : List (PySem.Str × V)} {c : Nat}, H a = some (.ins (T.cls c) dx gs) → (if (Γ.cls c).isSome = true then some (τ.isOwn c) else none) = some b → ∃ t, L2.TyX K H (.ref a) t ∧ PySem.W.kitOne K t u = some b := by
    intro a dx gs c ha h
    split at h
    · rename_i hc
      cases h
      obtain ⟨q, hq⟩ := Option.isSome_iff_exists.mp hc
      obtain ⟨h1, h2⟩ := O.ins c q hq
      exact ⟨_, .base (.ins ha h1.cl h1.ha h1.hn h1.htk h1.hm), h2⟩
    · cases h
  have tupC : ∀ {a : Addr} {vs : List V}, StT T.K H ρ a vs → L2.TyX K H (.ref a) (.type "tuple") := by
    intro a vs q
    rw [eK] at q
    rcases q with ⟨q, _⟩ | q
    · rcases q with q | ⟨o, q⟩
      · exact .base (.tup q)
      · exact .fTuple q
    · rcases q (fun _ => none) with (q | ⟨o, q⟩) | ⟨o, its, m, h1, h2, _⟩
      · cases q
      · cases q
      · exact .kTuple h1 h2
  rcases r with r | ⟨a, vs, ds, rfl, rfl, h1, h2, z, rs⟩
  · cases r with
    | non => cases h; exact ⟨_, .base .non, O.non⟩
    | bl y => cases h; exact ⟨_, .base (.bl y), O.bl⟩
    | int i => cases h; exact ⟨_, .base (.int i), O.int⟩
    | str y _ _ => cases h; exact ⟨_, .base (.str _), O.str⟩
    | tup q z rs => cases h; exact ⟨_, tupC q, O.tup⟩
    | lst q n1 n2 z rs => cases h; exact ⟨_, .base (.lst q), O.lst⟩
    | fl q z rs =>
      cases h
      refine ⟨.type "list", ?_, O.lst⟩
      rw [eK] at q
      rcases q with ⟨⟨o, q⟩, _⟩ | q
      · exact .base (.frz q)
      · rcases q (fun _ => none) with (q | ⟨o, q⟩) | ⟨o, its, m, h1, h2, _⟩
        · cases q
        · cases q
        · exact .kList h1 h2
    | @loc a l hl =>
      unfold isiV at h
      cases hs : st[l]? with
      | none => simp [hs] at h
      | some ob =>
        cases ob with
        | lst xs =>
          simp only [hs] at h
          cases h
          obtain ⟨_, vs, q, _⟩ := sr.at_ l a _ hl hs
          exact ⟨_, .base (.lst q), O.lst⟩
        | ins c fs =>
          simp only [hs] at h
          obtain ⟨_, dx, vs, q, _⟩ := sr.at_ l a _ hl hs
          exact own q h
    | obj q n1 n2 z rs => exact own q h
    | cls c => cases h
    | dct q n1 n2 hk r =>
      cases h
      exact ⟨_, .base (.dK q), O.dct⟩
  · cases h
    exact ⟨_, .base (.lst h1), O.lst⟩
/-- isinstance(e, C) -/
theorem je_isi {τ : Ty} {u : Value} {c : V} (M : CxY X Y W N sc n) (O : IsOk Y.K Y.T Γ τ u) (hv : L2.ClsV c u) (hg : Gl X "isinstance") (hm : X.mg "isinstance" = none) (h : plainE e = true) (hc : PE X (.Name x p2) (L2.tC c)) (j : JE X Y.T Y.xf W e s str) :
    JE X Y.T Y.xf W (.Call (.Name "isinstance" p) [e, .Name x p2] [] pos) (G.Sem.of (one s fun d st => .of ((isiV Γ st d τ).map .bl) st)) true := by
  refine .of M.toCxG (PE.imp (L2.pe_callB L2.call_isi hg hm PyProof.Rows.boot_isinstance (L2.pa_cons j.val (L2.pa_cons hc L2.pa_nil (by rfl)) (plain_star h _ _)) (by decide) (by decide) (plain_star h _ _) (by rfl)) fun σ H Q ⟨env, st, ρ, Ow, en, sr, po⟩ => ?_)
  refine ⟨env, st, ρ, Ow, en, sr, (Post.bind po).mono fun d st1 H1 ρ1 e1 s1 q v r => ?_⟩
  cases hi : isiV Γ st1 d τ with
  | none => rw [hi] at q; exact q.elim
  | some b =>
    rw [hi] at q
    obtain ⟨t, h1, h2⟩ := isi_ty (K := Y.K) (by rw [← M.eK, M.eKY]) O s1 r.w hi
    have eK : X.K = Y.K := M.eKY
    exact ⟨v, c, t, u, b, rfl, hv, by rw [eK]; exact h1, by rw [eK]; exact h2, Post.ok s1 q _ (.bl b)⟩
end
end G
/-! The engine's texts: f-strings, split, join. -/
namespace G
open PySem PySem.Spec PyProof.Rows
open L2 (V Hp HO upd SqL SqT Rd VK XK TE TT TA TI TS TG TGs Ends WX Cx PE PT PA PI PS PSs PG PGs Inv OpR CallR RelV Vals R2 PC PW Gl Room)
section
variable {X : Cx} {Y : Wd} {T : Tb} {xf : Nat → List Nm} {W : WX} {N : List PySem.Str} {sc : Scope} {n k : Nat} {e : Expr} {es : List Expr} {p p2 pos apos cpos : Pos} {s : G.Sem} {ss : List G.Sem} {str : Bool}
theorem je_fmt (C : CxG X T N sc n) (j : JE X T xf W e s str) : JE X T xf W (.FormattedValue e (-1) none pos) (G.Sem.of (one s fun d st => .of (fmtD d) st)) true :=
  .of C (PE.imp (L2.pe_fmt j.val) fun σ H Q ⟨env, st, ρ, Ow, en, sr, po⟩ => by
    refine ⟨env, st, ρ, Ow, en, sr, (Post.bind po).mono fun d st1 H1 ρ1 e1 s1 q v r => ?_⟩
    obtain ⟨dz, hd, q⟩ := Post.of s1 q
    cases d with
    | str x =>
      cases hd
      obtain ⟨rfl, z, c⟩ := r.w.u.str
      exact .inl ⟨_, rfl, by rw [← lim_line]; simpa [Str.length] using z, q _ (.str x z c)⟩
    | int i =>
      have hd' : (if i.natAbs < 2 ^ 1900 then some (D.str (intStr i)) else none) = some dz := hd
      split at hd'
      · rename_i hl
        cases hd'
        have ei := r.w.u.int
        subst ei
        refine .inr ⟨i, rfl, ?_, ?_⟩
        · by_cases h0 : i.natAbs = 0
          · rw [h0]; decide
          · exact Nat.lt_trans ((Nat.log2_lt h0).mpr hl) (by decide)
        · have q2 := q (.str ⟨(intStr i).toArray⟩) (.str _ (intStr_len hl) (intStr_ok i))
          rw [← intStr_eq] at q2
          exact q2
      · cases hd'
    | _ => cases hd)
inductive JSt (X : Cx) (T : Tb) (xf : Nat → List Nm) (W : WX) : List Expr → List G.Sem → Prop
  | nil : JSt X T xf W [] []
  | cons {e : Expr} {s : G.Sem} {es : List Expr} {ss : List G.Sem} (j : JE X T xf W e s true) (js : JSt X T xf W es ss) : JSt X T xf W (e :: es) (s :: ss)
def tsOf (T : Tb) (xf : Nat → List Nm) (W : WX) (ss : List G.Sem) : List TE := ss.map fun s => tVal T xf W true s.val
theorem jst_run {es : List Expr} {ss : List G.Sem} (h : JSt X T xf W es ss) : L2.PJ X es (tsOf T xf W ss) := by
  induction h with
  | nil => exact .nil
  | cons j js ih => exact .cons j.val ih
theorem joined_imp : ∀ {ss : List G.Sem} {acc : List Nat} {σ : L2.St} {H : Hp} {ρ Ow : List Addr} {env : Env} {st : Store} {Q : PySem.Str → Hp → Prop}, acc.length ≤ LIM → acc.all okCode = true → EnR T H ρ Ow σ env → StR T H ρ Ow st →
    Post ⟨T, xf, W, σ⟩ H ρ Ow (fun d _ H' ρ' => ∀ x, RV T H' ρ' Ow (.str x) d → Q x H') (joinedV ss acc env st) → L2.tJs (tsOf T xf W ss) ⟨acc.toArray⟩ σ H Q
  | [], acc, σ, H, ρ, Ow, env, st, Q, hz, hc, en, sr, po => Post.ok sr po _ (.str acc hz hc)
  | s :: ss, acc, σ, H, ρ, Ow, env, st, Q, hz, hc, en, sr, po => by
    refine ⟨env, st, ρ, Ow, en, sr, (Post.bind po).mono fun d st1 H1 ρ1 e1 s1 q v r => ?_⟩
    cases d with
    | str y =>
      have q' : Post ⟨T, xf, W, σ⟩ H1 ρ1 Ow _ (if acc.length + y.length ≤ LIM then joinedV ss (acc ++ y) env st1 else .bad) := q
      split at q'
      · rename_i hl
        obtain ⟨rfl, z, c⟩ := r.w.u.str
        have ea : (⟨acc.toArray⟩ : PySem.Str) ++ ⟨y.toArray⟩ = ⟨(acc ++ y).toArray⟩ := by
          rw [← List.append_toArray]; rfl
        refine ⟨_, rfl, ?_, ?_⟩
        · rw [ea, ← lim_line]; simp [Str.length]; exact hl
        · rw [ea]
          exact joined_imp (by rw [List.length_append]; exact hl) (by rw [List.all_append, hc, c]; rfl) (en.ext e1 sr.disj) s1 q'
      · exact q'.elim
    | _ => exact q.elim
theorem je_joined {v1 v2 : Expr} {rest : List Expr} (C : CxG X T N sc n) (js : JSt X T xf W (v1 :: v2 :: rest) ss) : JE X T xf W (.JoinedStr (v1 :: v2 :: rest) pos) (G.Sem.of (joinedV ss [])) true :=
  .of C (PE.imp (L2.pe_joined (jst_run js)) fun σ H Q ⟨env, st, ρ, Ow, en, sr, po⟩ => joined_imp (acc := []) (Nat.zero_le _) rfl en sr (po.mono fun d st1 H1 ρ1 e1 s1 q x r => q _ r))

/-! ### split, join -/
theorem spl_one (c : Nat) : ∀ (x acc : List Nat), TL.spl [c] 0 acc x = (match splitOn c x with
    | [] => [acc]
    | w :: ws => (acc ++ w) :: ws)
  | [], acc => by simp [TL.spl, splitOn]
  | d :: r, acc => by
    have hp : TL.pre [c] (d :: r) = decide (d = c) := by
      show ((d :: r).take [c].length == [c]) = decide (d = c)
      by_cases h : d = c
      · rw [decide_eq_true h]
        subst h
        exact beq_self_eq_true [d]
      · rw [decide_eq_false h]
        exact beq_eq_false_iff_ne.mpr fun e => h (List.cons.inj e).1
    unfold TL.spl splitOn
    rw [hp]
    by_cases hd : d = c
    · simp only [hd, decide_true, if_true]
      have := spl_one c r []
      simp only [List.length_singleton, Nat.sub_self]
      rw [this]
      cases hs : splitOn c r with
      | nil =>
        exfalso
        cases r with
        | nil => simp [splitOn] at hs
        | cons a r => simp only [splitOn] at hs; split at hs <;> first | cases hs | (split at hs <;> cases hs)
      | cons w ws => simp
    · simp only [hd, decide_false, Bool.false_eq_true, if_false]
      rw [spl_one c r (acc ++ [d])]
      cases hs : splitOn c r with
      | nil => simp
      | cons w ws => simp
theorem kind_ge (x : PySem.Str) : 1 ≤ Builtin.Str.strKind x := by
  unfold Builtin.Str.strKind
  split
  · decide
  · split <;> decide
theorem split_eq {x : List Nat} {c : Nat} (hc : c < 256) : Txt.split ⟨x.toArray⟩ ⟨#[c]⟩ = (splitOn c x).map fun w => (⟨w.toArray⟩ : PySem.Str) := by
  have hk : ¬ Builtin.Str.strKind (⟨x.toArray⟩ : PySem.Str) < Builtin.Str.strKind (⟨#[c]⟩ : PySem.Str) := by
    have h1 : Builtin.Str.strKind (⟨#[c]⟩ : PySem.Str) = 1 := by
      unfold Builtin.Str.strKind
      rw [if_pos]
      simp [hc]
    have := kind_ge ⟨x.toArray⟩
    omega
  have h := TL.split_spl ⟨x.toArray⟩ ⟨#[c]⟩ (by simp [TL.tl]) hk
  have h2 : (Txt.split ⟨x.toArray⟩ ⟨#[c]⟩).map TL.tl = splitOn c x := by
    rw [h]
    show TL.spl [c] 0 [] x = _
    rw [spl_one]
    cases hs : splitOn c x with
    | nil =>
      exfalso
      cases x with
      | nil => simp [splitOn] at hs
      | cons a r => simp only [splitOn] at hs; split at hs <;> first | cases hs | (split at hs <;> cases hs)
    | cons w ws => simp
  refine TL.map_tl_inj ?_
  rw [h2, List.map_map]
  have : (TL.tl ∘ fun w : List Nat => (⟨w.toArray⟩ : PySem.Str)) = id := by funext w; rfl
  rw [this, List.map_id]
theorem join_strs (sep : List Nat) : ∀ ss : List (List Nat), PySem.Str.join ⟨sep.toArray⟩ (ss.map fun w => (⟨w.toArray⟩ : PySem.Str)) = ⟨(joinS sep ss).toArray⟩
  | [] => rfl
  | [x] => rfl
  | x :: y :: r => by
    have ih := join_strs sep (y :: r)
    show (⟨x.toArray⟩ : PySem.Str) ++ ⟨sep.toArray⟩ ++ PySem.Str.join ⟨sep.toArray⟩ ((y :: r).map fun w => (⟨w.toArray⟩ : PySem.Str)) = _
    rw [ih]
    have e1 : ∀ a b : List Nat, (⟨a.toArray⟩ : PySem.Str) ++ ⟨b.toArray⟩ = ⟨(a ++ b).toArray⟩ := fun a b => by rw [← List.append_toArray]; rfl
    rw [e1, e1]
    rfl
theorem splitOn_sub (c : Nat) : ∀ (x : List Nat) (w : List Nat), w ∈ splitOn c x → w.length ≤ x.length ∧ ∀ d ∈ w, d ∈ x
  | [], w, h => by
    simp [splitOn] at h
    subst h
    exact ⟨Nat.le_refl _, fun d hd => by cases hd⟩
  | a :: r, w, h => by
    unfold splitOn at h
    split at h
    · rcases List.mem_cons.mp h with e | h
      · subst e; exact ⟨Nat.zero_le _, fun d hd => by cases hd⟩
      · obtain ⟨h1, h2⟩ := splitOn_sub c r w h
        exact ⟨by rw [List.length_cons]; omega, fun d hd => by simp [h2 d hd]⟩
    · cases hs : splitOn c r with
      | nil =>
        rw [hs] at h
        simp at h
        subst h
        exact ⟨by simp, fun d hd => by simp at hd; simp [hd]⟩
      | cons v vs =>
        rw [hs] at h
        rcases List.mem_cons.mp h with e | h
        · subst e
          obtain ⟨h1, h2⟩ := splitOn_sub c r v (by rw [hs]; simp)
          refine ⟨by rw [List.length_cons, List.length_cons]; omega, fun d hd => ?_⟩
          rcases List.mem_cons.mp hd with e | hd
          · simp [e]
          · simp [h2 d hd]
        · obtain ⟨h1, h2⟩ := splitOn_sub c r w (by rw [hs]; simp [h])
          exact ⟨by rw [List.length_cons]; omega, fun d hd => by simp [h2 d hd]⟩
theorem splitOn_len (c : Nat) : ∀ x : List Nat, (splitOn c x).length ≤ x.length + 1
  | [] => by simp [splitOn]
  | a :: r => by
    have ih := splitOn_len c r
    unfold splitOn
    split
    · simp only [List.length_cons]; omega
    · cases hs : splitOn c r with
      | nil => simp
      | cons v vs =>
        rw [hs] at ih
        simp only [List.length_cons] at ih ⊢
        omega
end
end G
/-! The engine's texts, 2: methods of texts; slices; globals. -/
namespace G
open PySem PySem.Spec PyProof.Rows
open L2 (V Hp HO upd SqL SqT Rd VK XK TE TT TA TI TS TG TGs Ends WX Cx PE PT PA PI PS PSs PG PGs Inv OpR CallR RelV Vals R2 PC PW Gl Room)
section
variable {X : Cx} {Y : Wd} {T : Tb} {xf : Nat → List Nm} {W : WX} {N : List PySem.Str} {sc : Scope} {n k : Nat} {e o : Expr} {es : List Expr} {p p2 pos apos cpos : Pos} {s t : G.Sem} {ss : List G.Sem} {str str2 : Bool}
theorem je_split {c : Nat} {j0 : Nat} (C : CxG X T N sc n) (hc : c < 256) (hp : plainO o = true) (hl : (apos.endLine == pos.line) = true) (jo : JE X T xf W o s str) :
    JE X T xf W (.Call (.Attribute o "split" apos) [.Constant (.str ⟨#[c]⟩) j0 p] [] pos) (G.Sem.of (one s fun d st => .of (mt .split st d [.str [c]]) st)) true :=
  .of C (PE.imp (L2.pe_split jo.val L2.pe_str (by rfl) (base_plain hp _ _ _) hl) fun σ H Q ⟨env, st, ρ, Ow, en, sr, po⟩ => by
    refine ⟨env, st, ρ, Ow, en, sr, (Post.bind po).mono fun d st1 H1 ρ1 e1 s1 q v r => ?_⟩
    obtain ⟨dz, hd, q'⟩ := Post.of s1 q
    cases d with
    | str x =>
      have hd' : (if x.length + 2 ≤ LIM then some (D.lst ((splitOn c x).map .str)) else none) = some dz := hd
      split at hd'
      · rename_i hz
        cases hd'
        obtain ⟨rfl, z, cc⟩ := r.w.u.str
        refine ⟨⟨_, rfl⟩, ⟨x.toArray⟩, ⟨#[c]⟩, rfl, rfl, rfl, by rw [← lim_line]; simpa [Str.length] using hz, fun p hp => ?_⟩
        rw [split_eq hc, List.map_map]
        have rs : RVs T H1 ρ1 Ow ((splitOn c x).map fun w => V.str (⟨w.toArray⟩ : PySem.Str)) ((splitOn c x).map .str) := by
          have hall : ∀ w ∈ splitOn c x, w.length ≤ LIM ∧ w.all okCode = true := fun w hw => by
            obtain ⟨h1, h2⟩ := splitOn_sub c x w hw
            exact ⟨by omega, List.all_eq_true.mpr fun d hd => List.all_eq_true.mp cc d (h2 d hd)⟩
          have q := rvs_strs (T := T) (H := H1) (ρ := ρ1) (Ow := Ow) (splitOn c x) hall
          rw [List.map_map] at q
          exact q
        have zl : ((splitOn c x).map fun w => V.str (⟨w.toArray⟩ : PySem.Str)).length ≤ LIM := by
          rw [List.length_map]
          have := splitOn_len c x
          omega
        have q2 : Post ⟨T, xf, W, σ⟩ H1 ρ1 Ow (fun d _ H' ρ' => ∀ v, RX true T H' ρ' Ow v d → Q v H') (O.of (some (D.lst ((splitOn c x).map .str))) st1) := by
          have hd2 : mt .split st1 (.str x) [.str [c]] = some (D.lst ((splitOn c x).map .str)) := hd
          rw [← hd2]; exact q
        exact q2 _ ρ1 (Ext.new hp) (s1.new hp) _ (rv_lst hp (s1.fresh hp).1 (s1.fresh hp).2 zl rs)
      · cases hd'
    | _ => cases hd)
theorem je_join {x : List Nat} (C : CxG X T N sc n) {j0 : Nat} (hx : x.length ≤ LIM ∧ x.all okCode = true) (hl : (apos.endLine == pos.line) = true) (h : plainE e = true) (j : JE X T xf W e s str) :
    JE X T xf W (.Call (.Attribute (.Constant (.str ⟨x.toArray⟩) j0 p) "join" apos) [e] [] pos) (G.Sem.of (one s fun d st => .of (mt .join st (.str x) [d]) st)) true :=
  .of C (PE.imp (L2.pe_join L2.pe_str j.val (by rw [plain_star h]; rfl) (base_plain rfl _ _ _) hl) fun σ H Q ⟨env, st, ρ, Ow, en, sr, po⟩ => by
    refine ⟨⟨_, rfl⟩, env, st, ρ, Ow, en, sr, (Post.bind po).mono fun d st1 H1 ρ1 e1 s1 q v r => ?_⟩
    obtain ⟨dz, hd, q⟩ := Post.of s1 q
    have hd' : ((seqv st1 d).bind fun xs => (G.dStrs xs).bind fun ss => if lenSum ss + x.length * ss.length ≤ LIM then some (D.str (joinS x ss)) else none) = some dz := hd
    obtain ⟨xs, h1, h2⟩ := Option.bind_eq_some_iff.mp hd'
    obtain ⟨ys, h3, h4⟩ := Option.bind_eq_some_iff.mp h2
    split at h4
    · rename_i hz
      cases h4
      obtain ⟨a, vs, rfl, hq, z, rs⟩ := r.w.seq s1 h1
      obtain ⟨rfl, hall⟩ := strs_vals h3 rs
      have hsum : ((ys.map fun w => (⟨w.toArray⟩ : PySem.Str)).map (·.length)).sum = lenSum ys := by
        clear hz h3 hall rs z hq q hd hd' h2
        induction ys with
        | nil => rfl
        | cons y ys ih => simp [lenSum, Str.length] at ih ⊢; exact ih
      refine ⟨⟨x.toArray⟩, a, _, rfl, rfl, by rw [C.eK]; exact hq, ?_, ?_⟩
      · rw [hsum, List.length_map, Nat.mul_comm]
        unfold LIM at hz
        simpa [Str.length] using hz
      · rw [TL.join_eq, join_strs]
        refine q _ (.str _ ?_ ?_)
        · refine Nat.le_trans ?_ hz
          clear hz h3 hall rs z hq q hd hd' h2 hsum
          induction ys with
          | nil => simp [joinS]
          | cons y ys ih =>
            cases ys with
            | nil => simp [joinS, lenSum]
            | cons y2 ys =>
              simp only [joinS, lenSum, List.length_append, List.length_cons] at ih ⊢
              have : x.length * (ys.length + 1 + 1) = x.length * (ys.length + 1) + x.length := Nat.mul_succ _ _
              omega
        · clear hz h3 rs z hq q hd hd' h2 hsum
          induction ys with
          | nil => rfl
          | cons y ys ih =>
            cases ys with
            | nil => exact (hall y (by simp)).2
            | cons y2 ys =>
              simp only [joinS, List.all_append, Bool.and_eq_true]
              exact ⟨⟨(hall y (by simp)).2, hx.2⟩, ih fun s hs => hall s (by simp [hs])⟩
    · cases h4)

/-! ### slices -/
inductive JP (X : Cx) (T : Tb) (xf : Nat → List Nm) (W : WX) : Option Expr → List G.Sem → Prop
  | none : JP X T xf W none []
  | some {e : Expr} {s : G.Sem} (j : JE X T xf W e s true) : JP X T xf W (some e) [s]
def tOpt (T : Tb) (xf : Nat → List Nm) (W : WX) (ss : List G.Sem) : L2.TO := fun σ H Q => At T xf W (optV ss) (fun o _ _ H' => Q o H') σ H
theorem PO.imp {eo : Option Expr} {t t' : L2.TO} (h : L2.PO X eo t) (i : ∀ σ H Q, t' σ H Q → t σ H Q) : L2.PO X eo t' := ⟨fun pins s σ H Q I q => h.run pins s σ H Q I (i σ H Q q)⟩
theorem po_of {eo : Option Expr} {ss : List G.Sem} (h : JP X T xf W eo ss) : L2.PO X eo (tOpt T xf W ss) := by
  cases h with
  | none => exact PO.imp L2.po_none fun σ H Q ⟨env, st, ρ, Ow, en, sr, po⟩ => Post.ok sr po
  | some j =>
    rename_i e s
    refine PO.imp (L2.po_some j.val) fun σ H Q ⟨env, st, ρ, Ow, en, sr, po⟩ => ?_
    have po1 := Post.bind (Post.bind po)
    refine ⟨env, st, ρ, Ow, en, sr, po1.mono fun d st1 H1 ρ1 e1 s1 q v r => ?_⟩
    have q1 := Post.ok s1 q
    cases d with
    | int i =>
      have ei := r.w.u.int
      subst ei
      exact ⟨i, rfl, Post.ok s1 q1⟩
    | _ => exact q1.elim
theorem clip_eq (n d : Nat) (o : Option Int) : clip n d o = HT.sIx n d o := by
  cases o with
  | none => rfl
  | some v =>
    show (if v < 0 then (max (v + n) 0).toNat else (min v n).toNat) = (if v < 0 then (v + (n : Int)).toNat else min v.toNat n)
    split <;> omega
theorem cut_eq (vs : List V) (lo hi : Option Int) : L2.cutV vs lo hi = cut vs lo hi := by
  unfold L2.cutV cut
  rw [clip_eq, clip_eq]
theorem RVs.cut {H : Hp} {ρ Ow : List Addr} {vs : List V} {ds : List D} (rs : RVs T H ρ Ow vs ds) (lo hi : Option Int) : RVs T H ρ Ow (G.cut vs lo hi) (G.cut ds lo hi) := by
  unfold G.cut
  rw [rs.length]
  exact (rs.drop _).take _
theorem cut_len {α : Type} (xs : List α) (lo hi : Option Int) : (cut xs lo hi).length ≤ xs.length := by
  unfold cut
  rw [List.length_take, List.length_drop]
  omega
theorem je_sl {eo1 eo2 : Option Expr} {s1 s2 : List G.Sem} (C : CxG X T N sc n) (j : JE X T xf W e s str) (jl : JP X T xf W eo1 s1) (jh : JP X T xf W eo2 s2) :
    JE X T xf W (.Subscript e (.Slice eo1 eo2 none p2) pos) (G.Sem.of (slV s s1 s2)) true :=
  .of C (PE.imp (L2.pe_slice ((L2.SlR.or L2.sl_str L2.sl_list).or L2.sl_tupA) j.val (po_of jl) (po_of jh)) fun σ H Q ⟨env, st, ρ, Ow, en, sr, po⟩ => by
    refine ⟨env, st, ρ, Ow, en, sr, (Post.bind po).mono fun d st1 H1 ρ1 e1 s1' q v r => ?_⟩
    refine ⟨env, st1, ρ1, Ow, en.ext e1 sr.disj, s1', (Post.bind q).mono fun lo st2 H2 ρ2 e2 s2' q2 => ?_⟩
    refine ⟨env, st2, ρ2, Ow, (en.ext e1 sr.disj).ext e2 s1'.disj, s2', (Post.bind q2).mono fun hi st3 H3 ρ3 e3 s3 q3 => ?_⟩
    have rw3 : RW T H3 ρ3 Ow v d := (r.w.ext e2).ext e3
    have ru := rw3.view s3
    obtain ⟨dz, hd, q⟩ := Post.of s3 q3
    have hd0 : slice st3 d lo hi = some dz := hd
    unfold slice at hd
    have fin : ∀ {w : V} {H' : Hp}, New1 H3 H' → RV T H' ρ3 Ow w dz → Q w H' := fun {w H'} nw rv => by
      have q4 := q3
      rw [hd0] at q4
      exact q4 H' ρ3 (nw.ext ρ3) (nw.st s3) w rv
    generalize G.view st3 d = dv at ru hd
    cases dv with
    | str x =>
      cases hd
      obtain ⟨rfl, z, c⟩ := ru.str
      refine .inl (.inl ⟨_, rfl, by rw [← lim_line]; simpa [Str.length] using z, ?_⟩)
      have ec : L2.cutS ⟨x.toArray⟩ lo hi = ⟨(cut x lo hi).toArray⟩ := by
        unfold L2.cutS cut
        rw [clip_eq, clip_eq]
        simp [Str.length]
      rw [ec]
      refine fin (.inl rfl) (.str _ (Nat.le_trans (cut_len x lo hi) z) (List.all_eq_true.mpr fun a ha => List.all_eq_true.mp c a ?_))
      unfold cut at ha
      exact List.mem_of_mem_drop (List.mem_of_mem_take ha)
    | lst xs =>
      cases hd
      obtain ⟨a, vs, rfl, hq, z, rs⟩ := ru.lst
      refine .inl (.inr ⟨a, vs, rfl, .inl (.inl hq), fun p hp => ?_⟩)
      rw [cut_eq]
      exact fin (.inr ⟨p, _, hp, rfl⟩) (rv_lst hp (s3.fresh hp).1 (s3.fresh hp).2 (Nat.le_trans (cut_len vs lo hi) z) (rs.cut lo hi))
    | fl xs =>
      cases hd
      rcases ru with ru | ⟨_, _, _, _, h, _⟩
      · cases ru with
        | @fl a vs _ hq z rs =>
          refine .inl (.inr ⟨a, vs, rfl, by rw [C.eK]; exact hq.sq, fun p hp => ?_⟩)
          rw [cut_eq]
          exact fin (.inr ⟨p, _, hp, rfl⟩) (rv_lst hp (s3.fresh hp).1 (s3.fresh hp).2 (Nat.le_trans (cut_len vs lo hi) z) (rs.cut lo hi))
      · cases h
    | tup xs =>
      cases hd
      obtain ⟨a, vs, rfl, hq, z, rs⟩ := ru.tup
      refine .inr ⟨a, vs, rfl, by rw [C.eK]; exact hq.sq, fun hw => ?_, fun hw p hp => ?_⟩
      · refine fin (.inl rfl) ?_
        have ex : cut xs lo hi = xs := by
          unfold cut
          rw [clip_eq, clip_eq, ← rs.length, hw.1, hw.2]
          simp [rs.length]
        rw [ex]
        exact .tup hq z rs
      · rw [cut_eq]
        exact fin (.inr ⟨p, _, hp, rfl⟩) (rv_tup hp (s3.fresh hp).1 (Nat.le_trans (cut_len vs lo hi) z) (rs.cut lo hi))
    | _ => cases hd)
theorem je_g {i : Nat} {x : PySem.Str} {v : V} {u : Value} {d : D} (C : CxG X T N sc n) (hg : Gl X x) (hm : X.mg x = some u) (hr : L2.RelV v u) (hd : (x == ("__debug__" : PySem.Str)) = false) (r : ∀ H ρ Ow, RV T H ρ Ow v d) :
    JE X T xf W (.Name x p) (G.Sem.of fun _ st => .ok d st) true :=
  .of C (PE.imp (L2.pe_glob hg hm hr hd) fun σ H Q ⟨env, st, ρ, Ow, en, sr, po⟩ => Post.ok sr po v (r _ _ _))
end
end G
/-! More of texts. -/
namespace G
open PySem PySem.Spec PyProof.Rows
open L2 (V Hp HO upd SqL SqT Rd VK XK TE TT TA TI TS TG TGs Ends WX Cx PE PT PA PI PS PSs PG PGs Inv OpR CallR RelV Vals R2 PC PW Gl)
theorem up_all : (List.range 128).all (fun c => Unicode.upperOf c == [upC c]) = true := by decide +kernel
theorem up_one {c : Nat} (h : c < 128) : Unicode.upperOf c = [upC c] := by
  have := List.all_eq_true.mp up_all c (List.mem_range.mpr h)
  exact eq_of_beq this
theorem up_flat : ∀ (s : List Nat), s.all (fun c => decide (c < 128)) = true → (s.map fun c => (Unicode.upperOf c)).flatten = s.map upC
  | [], _ => rfl
  | c :: s, h => by
    have h' : c < 128 ∧ s.all (fun c => decide (c < 128)) = true := by simpa using h
    rw [List.map_cons, List.flatten_cons, List.map_cons, up_flat s h'.2, up_one h'.1]
    rfl
theorem up_eq {s : List Nat} (h : s.all (fun c => decide (c < 128)) = true) : Txt.upper (⟨s.toArray⟩ : PySem.Str) = ⟨(s.map upC).toArray⟩ := by
  unfold Txt.upper placed
  congr 1
  apply Array.toList_inj.mp
  have e : (Array.mapIdx (fun i c => (Unicode.upperOf c).toArray) s.toArray) = (s.map fun c => (Unicode.upperOf c).toArray).toArray := by
    apply Array.toList_inj.mp
    apply List.ext_getElem
    · simp
    · intro i h1 h2
      simp
  show (Array.mapIdx (fun i c => (Unicode.upperOf c).toArray) s.toArray).flatten.toList = _
  rw [e]
  simp only [Array.toList_flatten, List.map_map, Function.comp_def]
  rw [← up_flat s h]
section
variable {X : Cx} {Y : Wd} {T : Tb} {xf : Nat → List Nm} {W : WX} {N : List PySem.Str} {sc : Scope} {n k : Nat} {e o : Expr} {es : List Expr} {p p2 pos apos cpos : Pos} {s t : G.Sem} {ss : List G.Sem} {str str2 : Bool}
theorem je_upper (C : CxG X T N sc n) (hp : plainO o = true) (hl : (apos.endLine == pos.line) = true) (jo : JE X T xf W o s str) :
    JE X T xf W (.Call (.Attribute o "upper" apos) [] [] pos) (upE s) true :=
  .of C (PE.imp (L2.pe_upper jo.val (base_plain hp _ _ _) hl) fun σ H Q ⟨env, st, ρ, Ow, en, sr, po⟩ => by
    refine ⟨env, st, ρ, Ow, en, sr, (Post.bind po).mono fun d st1 H1 ρ1 e1 s1 q v r => ?_⟩
    obtain ⟨dz, hd, q'⟩ := Post.of s1 q
    cases d with
    | str x =>
      have hd' : (if x.length ≤ 1000000 ∧ x.all (fun c => decide (c < 128)) = true then some (D.str (x.map upC)) else none) = some dz := hd
      split at hd'
      · rename_i hz
        cases hd'
        obtain ⟨rfl, z, cc⟩ := r.w.u.str
        refine ⟨⟨_, rfl⟩, ⟨x.toArray⟩, rfl, rfl, by
          have h1 := hz.1
          have e : (⟨x.toArray⟩ : PySem.Str).length = x.length := by simp [Str.length]
          omega, ?_⟩
        rw [up_eq hz.2]
        refine q' _ (.str (x.map upC) (by rw [List.length_map]; exact z) ?_)
        rw [List.all_map, List.all_eq_true]
        intro c hc
        have := List.all_eq_true.mp hz.2 c hc
        have h2 : c < 128 := by simpa using this
        show okCode (upC c) = true
        unfold okCode upC
        simp only [decide_eq_true_eq]
        split <;> omega
      · cases hd'
    | _ => cases hd)
end
end G
/-! x.index(e), x.count(e) of lists. -/
namespace G
open PySem PySem.Spec PyProof.Rows
open L2 (V Hp HO upd SqL SqT Rd VK XK TE TT TA TI TS TG TGs Ends WX Cx PE PT PA PI PS PSs PG PGs Inv OpR CallR RelV Vals R2 PC PW Gl Room)
theorem eqv_at {n m : Nat} {y : D} (hy : okEq m y = true) : ∀ (xs : List D) (i : Nat) (z : PyData), okEqs n xs = true → (toPys xs)[i]? = some z → ∃ d, xs[i]? = some d ∧ z = toPy d ∧ pyEq d y = PyData.eqv z (toPy y)
  | [], i, z, _, h => by simp [toPys] at h
  | x :: xs, 0, z, h, e => by
    have h' : okEq n x = true ∧ okEqs n xs = true := by simpa [okEqs] using h
    have e' : toPy x = z := by simpa [toPys] using e
    subst e'
    exact ⟨x, rfl, rfl, pyEq_eqv n m x y h'.1 hy⟩
  | x :: xs, i + 1, z, h, e => by
    have h' : okEq n x = true ∧ okEqs n xs = true := by simpa [okEqs] using h
    obtain ⟨d, h1, h2, h3⟩ := eqv_at hy xs i z h'.2 (by simpa [toPys] using e)
    exact ⟨d, by simpa using h1, h2, h3⟩
theorem toPys_at : ∀ (xs : List D) (i : Nat) (d : D), xs[i]? = some d → (toPys xs)[i]? = some (toPy d)
  | [], _, _, h => by simp at h
  | x :: xs, 0, d, h => by
    have h : x = d := by simpa using h
    subst h; rfl
  | x :: xs, i + 1, d, h => by
    have := toPys_at xs i d (by simpa using h)
    simpa [toPys] using this
section
variable {X : Cx} {Y : Wd} {T : Tb} {xf : Nat → List Nm} {W : WX} {N : List PySem.Str} {sc : Scope} {n k : Nat} {e o : Expr} {es : List Expr} {p p2 pos apos cpos : Pos} {s t : G.Sem} {ss : List G.Sem} {str str2 : Bool}
theorem je_index (C : CxG X T N sc n) (hp : plainO o = true) (hl : (apos.endLine == pos.line) = true) (he : plainE e = true) (jo : JE X T xf W o s str) (j : JE X T xf W e t str2) :
    JE X T xf W (.Call (.Attribute o "index" apos) [e] [] pos) (indexE s t) true :=
  .of C (PE.imp (L2.pe_bm PySem.F.plainAttrs_list PySem.F.slot_list_index PySem.F.type_list_index (L2.mt_indexD (by have := C.rm.un; omega)) jo.val (L2.pa_cons j.val L2.pa_nil (plain_star he _ _)) (base_plain hp _ _ _)
      (by rw [plain_star he]; rfl) hl (plain_star he _ _) (by rfl)) fun σ H Q ⟨env, st, ρ, Ow, en, sr, po⟩ => by
    refine ⟨env, st, ρ, Ow, en, sr, (Post.bind po).mono fun d st1 H1 ρ1 e1 s1 q v r => ?_⟩
    split at q
    rotate_left
    · exact q.elim
    rename_i hls
    cases d with
    | lst xs =>
      obtain ⟨a, vs, ev, hH, hz, rs⟩ := r.w.u.lst
      subst ev
      refine ⟨.inl ⟨rfl, vs, .inl (.inl hH)⟩, env, st1, ρ1, Ow, en.ext e1 sr.disj, s1, (Post.bind q).mono fun d2 st2 H2 ρ2 e2 s2 q2 v2 r2 => ?_⟩
      obtain ⟨dz, hdz, q3⟩ := Post.of s2 q2
      have hdz : (if (okEq 64 d2 && okEqs 63 xs) = true then (xs.findIdx? fun z => pyEq z d2).map fun (k : Nat) => D.int (k : Int) else none) = some dz := hdz
      split at hdz
      rotate_left
      · cases hdz
      rename_i hok
      rw [Bool.and_eq_true] at hok
      obtain ⟨kk, hk, rfl⟩ := Option.map_eq_some_iff.mp hdz
      obtain ⟨hk1, hk2, hk3⟩ := List.findIdx?_eq_some_iff_getElem.mp hk
      obtain ⟨p1, l1, z1⟩ := du_of hok.1 r2.w.u
      have rl := RW.ext e2 r.w
      obtain ⟨a2, vs2, ev2, hH2, hz2, rs2⟩ := rl.u.lst
      cases ev2
      obtain ⟨g1, g2, g3⟩ := dps_of 63 xs vs2 hok.2 rs2
      have hat : (toPys xs)[kk]? = some (toPy xs[kk]) := toPys_at xs kk _ (List.getElem?_eq_getElem hk1)
      refine ⟨a, v2, toPy d2, toPys xs, kk, toPy xs[kk], rfl, rfl, by rw [C.eK]; exact .lst (.inl (.inl hH2)) g1, by rw [C.eK]; exact p1, ?_, shaped_of l1 z1, hat, ?_, fun m z' hm hz' => ?_, q3 _ (.int _)⟩
      · exact shaped_of (by simpa [PyData.canLay0] using g2) (by simp [PyData.depth]; omega)
      · obtain ⟨d, hd1, hd2, hd3⟩ := eqv_at hok.1 xs kk _ hok.2 hat
        rw [← hd3]
        rw [List.getElem?_eq_getElem hk1] at hd1
        cases hd1
        exact hk2
      · obtain ⟨d, hd1, hd2, hd3⟩ := eqv_at hok.1 xs m _ hok.2 hz'
        rw [← hd3]
        have h5 := hk3 m hm
        obtain ⟨h6, h7⟩ := List.getElem?_eq_some_iff.mp hd1
        rw [h7] at h5
        simpa using h5
    | _ => cases hls)
def rCountD (K : PySem.W.Frag) : V → List V → Hp → VK → Prop := fun x xs H Q => ∃ (a : Addr) (y : V) (d : PyData) (ds : List PyData), x = V.ref a ∧ xs = [y] ∧ L2.Dp K H (V.ref a) (.list ds) ∧ L2.Dp K H y d ∧
  SeqAt.shaped (.list ds) = true ∧ SeqAt.shaped d = true ∧ Q (.int (ds.countP fun z => PyData.eqv z d : Nat)) H
theorem mt_countD (hu : X.A.units + 65 < cLine) : L2.MtR X "list.count" (rCountD X.K) := by
  intro pins s σ H x xs v us Q I rx rxs h
  obtain ⟨a, y, d, ds, rfl, rfl, hl, hy, sl, sd, q⟩ := h
  cases rx
  cases rxs with
  | cons ry rt =>
    rename_i uy ut
    cases rt
    obtain ⟨bs, r1⟩ := L2.Dp.reads I d y uy hy ry
    have hxs : PyData.canLayAll0 ds = true := SeqAt.canLay_of_shaped sl
    have hroom : X.A.units + 1 + min (PyData.depthAll ds) d.depth < cLine := PyProof.Rows.room_in_shaped sd hu
    cases hl with
    | lst hs ha =>
      obtain ⟨its, rv, ⟨⟨cls, dd, data, sls⟩, n, ho, hc, hdn, hdt⟩, hlen⟩ := I.list hs
      simp only at hc hdt
      subst hc hdt
      obtain ⟨as, h4⟩ := L2.Dp.readsAll I ds _ its ha rv
      have hmap : its.map (SeqAt.readOf s.heap) = ds := SeqAt.readsAll_map ds its as hxs h4
      refine call_meets PySem.F.slot_list_count ⟨_, ho, rfl⟩ PySem.F.entry_list_count (PySem.F.args_list_count_2 _ _)
        (SeqAt.list_countAt a its.toArray n dd sls uy (fun u => PyData.eqv (SeqAt.readOf s.heap u) d)) ⟨ho, SeqAt.items_eqAt (vs := its.toArray) (show ReadsAll s.heap its.toArray.toList ds as from h4) r1 hxs (SeqAt.canLay_of_shaped sd) hroom, ?_⟩
      have ec : its.toArray.toList.countP (fun u => PyData.eqv (SeqAt.readOf s.heap u) d) = ds.countP fun z => PyData.eqv z d := by
        rw [← hmap, List.countP_map]
        rfl
      refine ⟨.int (ds.countP fun z => PyData.eqv z d : Nat), H, I.tok _, ⟨s.toks, ?_⟩, q⟩
      show Value.int ((its.toArray.toList.countP (fun u => PyData.eqv (SeqAt.readOf s.heap u) d) : Nat) : Int) s.toks = _
      rw [ec]
theorem count_toPys {n m : Nat} {y : D} (hy : okEq m y = true) : ∀ (xs : List D), okEqs n xs = true → (xs.countP fun z => pyEq z y) = (toPys xs).countP fun z => PyData.eqv z (toPy y)
  | [], _ => rfl
  | x :: xs, h => by
    have h' : okEq n x = true ∧ okEqs n xs = true := by simpa [okEqs] using h
    simp only [toPys, List.countP_cons]
    rw [count_toPys hy xs h'.2, pyEq_eqv n m x y h'.1 hy]
theorem je_count (C : CxG X T N sc n) (hp : plainO o = true) (hl : (apos.endLine == pos.line) = true) (he : plainE e = true) (jo : JE X T xf W o s str) (j : JE X T xf W e t str2) :
    JE X T xf W (.Call (.Attribute o "count" apos) [e] [] pos) (countE s t) true :=
  .of C (PE.imp (L2.pe_bm PySem.F.plainAttrs_list PySem.F.slot_list_count PySem.F.type_list_count (mt_countD (by have := C.rm.un; omega)) jo.val (L2.pa_cons j.val L2.pa_nil (plain_star he _ _)) (base_plain hp _ _ _)
      (by rw [plain_star he]; rfl) hl (plain_star he _ _) (by rfl)) fun σ H Q ⟨env, st, ρ, Ow, en, sr, po⟩ => by
    refine ⟨env, st, ρ, Ow, en, sr, (Post.bind po).mono fun d st1 H1 ρ1 e1 s1 q v r => ?_⟩
    split at q
    rotate_left
    · exact q.elim
    rename_i hls
    cases d with
    | lst xs =>
      obtain ⟨a, vs, ev, hH, hz, rs⟩ := r.w.u.lst
      subst ev
      refine ⟨.inl ⟨rfl, vs, .inl (.inl hH)⟩, env, st1, ρ1, Ow, en.ext e1 sr.disj, s1, (Post.bind q).mono fun d2 st2 H2 ρ2 e2 s2 q2 v2 r2 => ?_⟩
      obtain ⟨dz, hdz, q3⟩ := Post.of s2 q2
      have hdz : (if (okEq 64 d2 && okEqs 63 xs) = true then some (D.int (xs.countP fun z => pyEq z d2 : Nat)) else none) = some dz := hdz
      split at hdz
      rotate_left
      · cases hdz
      rename_i hok
      rw [Bool.and_eq_true] at hok
      cases hdz
      obtain ⟨p1, l1, z1⟩ := du_of hok.1 r2.w.u
      have rl := RW.ext e2 r.w
      obtain ⟨a2, vs2, ev2, hH2, hz2, rs2⟩ := rl.u.lst
      cases ev2
      obtain ⟨g1, g2, g3⟩ := dps_of 63 xs vs2 hok.2 rs2
      refine ⟨a, v2, toPy d2, toPys xs, rfl, rfl, by rw [C.eK]; exact .lst (.inl (.inl hH2)) g1, by rw [C.eK]; exact p1, shaped_of (by simpa [PyData.canLay0] using g2) (by simp [PyData.depth]; omega), shaped_of l1 z1, ?_⟩
      rw [← count_toPys hok.1 xs hok.2]
      exact q3 _ (.int _)
    | _ => cases hls)
end
end G
/-! The engine's own-class `in`, `not in`, len. -/
namespace G
open PySem PySem.Spec PyProof.Rows
open L2 (V Hp HO upd SqL SqT Rd VK XK TE TT TA TI TS TG TGs Ends WX Cx PE PT PA PI PS PSs PG PGs Inv OpR CallR RelV Vals R2 PC PW Gl Room)
section
variable {X : Cx} {Y : Wd} {T : Tb} {xf : Nat → List Nm} {W : WX} {N : List PySem.Str} {sc : Scope} {n k : Nat} {Γ : Ctx} {e a b : Expr} {p pos : Pos} {s sa sb : G.Sem} {str ra rb : Bool}
/-- where nothing is let out -/
theorem CxY.quiet (M : CxY X Y W N sc n) : CxY X Y W0 N sc n :=
  ⟨M.toCxC, M.eP, M.ew, M.eKY, M.em, M.eb, fun σ pins H s e s' I h => by
    obtain ⟨_, _, _, _, _, _, _, _, _, _, _, _, z⟩ := h
    exact z.elim⟩
/-- a special method of the class c -/
structure DunOk (Y : Wd) (k : Nat) (c : Nat) (name : PySem.Str) (call : Fd) (np : Nat) : Prop where
  ex : ∃ (f : Addr) (fd : FuncData) (ps : List PySem.Str), PySem.W.findIn Y.K (.ref (Y.T.cls c)) name = some (some (.ref f)) ∧ PySem.W.isFn Y.K (.ref f) = true ∧ FnG Y k f fd ps call ∧ L2.Binds Y.K fd ps [] ∧ ps.length = np
/-- an object's place -/
theorem obj_at {H : Hp} {ρ Ow : List Addr} {st : Store} {v : V} {d : D} {c : Nat} {fs : List D} (sr : StR T H ρ Ow st) (r : RW T H ρ Ow v d) (h : objv st d = some (c, fs)) : ∃ a dx gs, v = .ref a ∧ H a = some (.ins (T.cls c) dx gs) ∧ RV T H ρ Ow v d := by
  rcases r with r | ⟨_, _, _, _, e, _⟩
  · cases d with
    | obj c2 fs2 =>
      cases h
      have r0 := r
      cases r with
      | obj q n1 n2 z rs => exact ⟨_, _, _, rfl, q, r0⟩
    | loc l =>
      unfold objv at h
      cases hs : st[l]? with
      | none => simp [hs] at h
      | some ob =>
        cases ob with
        | lst xs => simp [hs] at h
        | ins c2 fs2 =>
          simp [hs] at h
          obtain ⟨rfl, _⟩ := h
          have r0 := r
          cases r with
          | loc ha =>
            obtain ⟨_, dx, vs, q, _⟩ := sr.at_ l _ _ ha hs
            exact ⟨_, dx, _, rfl, q, r0⟩
    | _ => cases h
  · subst e
    cases h
def rHas (Y : Wd) (c : Nat) (call : Fd) (neg : Bool) : R2 := fun x y H Q => ∃ a dx gs, y = .ref a ∧ H a = some (.ins (Y.T.cls c) dx gs) ∧ Want Y.T Y.xf call [y, x] H (fun z H' => ∃ k, z = .bl k ∧ Q (.bl (k != neg)) H') (fun _ _ _ => False)
theorem or_has {c : Nat} {call : Fd} (M : CxY X Y W N sc n) (G0 : DunOk Y k c "__contains__" call 2) (hk : k ≤ n) (neg : Bool) : OpR X (compareOp (if neg then .NotIn else .In)) (rHas Y c call neg) := by
  intro pins s σ H x y v u Q I rx ry ⟨a, dx, gs, ey, ha, hw⟩
  subst ey
  obtain rfl : u = Value.ref a := ry
  obtain ⟨f, fd, ps, h1, h2, F, hb, hnp⟩ := G0.ex
  obtain ⟨mA, O, _, _, _, _⟩ := L2.ins_get I.hok ha
  obtain ⟨od, J, _⟩ := O.look
  obtain ⟨m, fr⟩ := I.fr
  have b : BindsTo s fd ⟨[.ref a, v], []⟩ (ps.zip [.ref a, v]) := by
    have b := hb s [.ref a, v] (by rw [← M.eKY]; exact I.kIn) (by rw [List.append_nil, hnp]; rfl)
    rw [List.append_nil] at b
    exact b
  have go := run_fnG (σ := σ) (us := [.ref a, v]) (vs := [.ref a, x]) M.quiet F hk b I (.cons rfl (.cons rx .nil)) (by rw [hnp]; rfl) hw
  have h1' : PySem.W.findIn X.K (.ref (Y.T.cls c)) "__contains__" = some (some (.ref f)) := by rw [M.eKY]; exact h1
  have h2' : PySem.W.isFn X.K (.ref f) = true := by rw [M.eKY]; exact h2
  cases neg with
  | false =>
    refine PySem.W.in_K fr I.ok.mod.kin J h1' h2' (L2.thn go fun w s1 ⟨z, H', I', rz, kk, ez, q⟩ => ?_)
    subst ez
    have ew : w = Value.bool kk := rz
    subst ew
    exact wpAny_pure ⟨.bl kk, H', I', rfl, by simpa using q⟩
  | true =>
    refine PySem.W.notIn_K fr I.ok.mod.kin J h1' h2' (L2.thn go fun w s1 ⟨z, H', I', rz, kk, ez, q⟩ => ?_)
    subst ez
    have ew : w = Value.bool kk := rz
    subst ew
    exact wpAny_pure ⟨.bl (!kk), H', I', rfl, by simpa using q⟩
theorem hush_want {Q : D → Store → Hp → List Addr → Prop} {w w' : Wo} (hT : w.T = w'.T) {H : Hp} {ρ Ow : List Addr} {o : O D} (p : Post w H ρ Ow Q o.hush) : Post w' H ρ Ow Q o := by
  cases o with
  | ok a st => exact fun H' ρ' e s => p H' ρ' e (by rw [hT]; exact s)
  | ex c fs st => exact p.elim
  | bad => exact p.elim
theorem je_has {c : Nat} {q : Cl} {f : Nat} {neg : Bool} (M : CxY X Y W N sc n) (hq : Γ.cls c = some q) (hm : q.meths.lookup n_contains = some f) (G0 : DunOk Y k c "__contains__" (Γ.call f) 2) (hk : k ≤ n) (hb : plainE b = true) (ja : JE X Y.T Y.xf W a sa true) (jb : JE X Y.T Y.xf W b sb true) :
    JE X Y.T Y.xf W (.Compare a [if neg then .NotIn else .In] [b] pos) (G.Sem.of (two sa sb (hasV Γ c neg))) true := by
  have key : ∀ x y st, hasV Γ c neg x y st = (match objv st y with
    | some (b, _) => if b = c then (Γ.call f [y, x] st).hush.bind fun r st => (match r with
        | .bl b => .ok (.bl (b != neg)) st
        | _ => .bad) else .bad
    | none => .bad) := fun x y st => by
    unfold hasV
    have e : ((Γ.cls c).bind fun k => k.meths.lookup n_contains) = some f := by rw [hq]; exact hm
    simp only [e]
    all_goals (rcases objv st y with _ | ⟨b0, fs⟩ <;> rfl)
  refine je_cmp M.toCxG (r := rHas Y c (Γ.call f) neg) hb (or_has M G0 hk neg) (fun σ st H ρ Ow dx dy x y Q s rx ry po => ?_) (fun x y st d st' h => ?_) ja jb
  · have rx' : RV Y.T H ρ Ow x dx := rx
    rw [key] at po
    cases ho : objv st dy with
    | none => rw [ho] at po; exact po.elim
    | some bf =>
      obtain ⟨b0, fs⟩ := bf
      rw [ho] at po
      have po2 : Post ⟨Y.T, Y.xf, W, σ⟩ H ρ Ow (fun d _ H' ρ' => ∀ v, RV Y.T H' ρ' Ow v d → Q v H') (if b0 = c then (Γ.call f [dy, dx] st).hush.bind fun r st => (match r with
        | .bl b => .ok (.bl (b != neg)) st
        | _ => .bad) else .bad) := po
      split at po2
      · rename_i hbc
        subst hbc
        obtain ⟨a0, dx0, gs, rfl, ha, ry'⟩ := obj_at s ry.w ho
        refine ⟨a0, dx0, gs, rfl, ha, st, ρ, Ow, [dy, dx], s, .cons ry' (.cons rx' .nil), ?_⟩
        have p1 := Post.bind po2
        have p2 := hush_want (w := ⟨Y.T, Y.xf, W, σ⟩) (w' := ⟨Y.T, Y.xf, fun cls dx _ H' => False, []⟩) rfl p1
        refine p2.mono fun d st1 H1 ρ1 e1 s1 q v rv => ?_
        cases d with
        | bl k0 =>
          cases rv
          exact ⟨k0, rfl, Post.ok (w := ⟨Y.T, Y.xf, W, σ⟩) s1 q _ (.bl _)⟩
        | _ => exact q.elim
      · exact po2.elim
  · rw [key] at h
    cases ho : objv st y with
    | none => rw [ho] at h; cases h
    | some bf =>
      obtain ⟨b0, fs⟩ := bf
      rw [ho] at h
      have h2 : (if b0 = c then (Γ.call f [y, x] st).hush.bind fun r st => (match r with
        | .bl b => .ok (.bl (b != neg)) st
        | _ => .bad) else .bad) = O.ok d st' := h
      split at h2
      · cases hc : (Γ.call f [y, x] st).hush with
        | ok r st1 =>
          rw [hc] at h2
          cases r with
          | bl k0 => cases h2; exact ⟨_, rfl⟩
          | _ => cases h2
        | ex _ _ _ => rw [hc] at h2; cases h2
        | bad => rw [hc] at h2; cases h2
      · cases h2
/-- a call below a built-in -/
theorem run_in1 {f : Addr} {fd : FuncData} {ps : List PySem.Str} {c : Fd} {pins : List (Addr × PySem.Obj)} {σ : L2.St} {H : Hp} {s : Shared} {Q : VK} {us : List Value} {vs : List V} {E' : Value → Shared → Prop} (M : CxY X Y W N sc n) (F : FnG Y k f fd ps c) (hk : k + 1 ≤ n)
    (hb : BindsTo s fd ⟨us, []⟩ (ps.zip us)) (I : Inv X pins σ H s) (r : Vals vs us) (hl : vs.length = ps.length) (h : Want Y.T Y.xf c vs H Q (fun _ _ _ => False)) :
    wpAny (model X.prog X.w) X.A.in1 (PySem.call (.ref f) us) (L2.EP X pins σ Q) E' s := by
  have e0 : L2.Env0 Y.P Y.w Y.K Y.mg Y.base X.A.in1 X.stack s H := by
    have q := I.env0.in1
    rw [M.eP, M.ew, M.eKY, M.em, M.eb] at q
    exact q
  have go := F.run X.A.in1 X.stack s H ⟨us, []⟩ us vs Q (fun _ _ _ => False) (M.room.mono hk).in1 M.guards e0 hb r hl h
  rw [← M.eP, ← M.ew] at go
  refine wpAny_call (codeAny_mono go fun res s' hq => ?_)
  cases res with
  | error e =>
    obtain ⟨_, _, _, _, _, _, _, _, _, _, _, _, z⟩ := hq
    exact z.elim
  | ok fl =>
    cases fl with
    | ret u => exact I.after hq
    | _ => exact hq.elim
def rLenO (Y : Wd) (c : Nat) (call : Fd) : List V → Hp → VK → Prop := fun xs H Q => ∃ a dx gs, xs = [.ref a] ∧ H a = some (.ins (Y.T.cls c) dx gs) ∧ Want Y.T Y.xf call [.ref a] H (fun z H' => ∃ i : Int, z = .int i ∧ (0 ≤ i ∧ i ≤ 1000) ∧ Q (.int i) H') (fun _ _ _ => False)
theorem cr_lenO {c : Nat} {call : Fd} (M : CxY X Y W N sc n) (G0 : DunOk Y k c "__len__" call 1) (hk : k + 1 ≤ n) : CallR X (.builtin "len") (rLenO Y c call) := by
  intro pins s σ H xs us Q I r ⟨a, dx, gs, ex, ha, hw⟩
  subst ex
  rw [L2.Vals.ref1 r]
  obtain ⟨f, fd, ps, h1, h2, F, hb, hnp⟩ := G0.ex
  obtain ⟨mA, O, _, _, _, _⟩ := L2.ins_get I.hok ha
  obtain ⟨od, J, _⟩ := O.look
  obtain ⟨m, fr⟩ := I.fr
  have b : BindsTo s fd ⟨[.ref a], []⟩ (ps.zip [.ref a]) := by
    have b := hb s [.ref a] (by rw [← M.eKY]; exact I.kIn) (by rw [List.append_nil, hnp]; rfl)
    rw [List.append_nil] at b
    exact b
  have go := run_in1 (E' := X.xe) (σ := σ) (us := [.ref a]) (vs := [.ref a]) M F hk b I (.cons rfl .nil) (by rw [hnp]; rfl) hw
  refine PySem.W.len_K fr I.ok.mod.kin J (by rw [M.eKY]; exact h1) (by rw [M.eKY]; exact h2) (L2.thn go fun w s1 ⟨z, H', I', rz, i, ez, hi, q⟩ => ?_)
  subst ez
  obtain ⟨t, rfl⟩ := rz
  exact ⟨⟨hi.1, by omega⟩, .int i, H', I'.tok _, ⟨_, rfl⟩, q⟩
theorem je_lenO {c : Nat} {q : Cl} {f : Nat} (M : CxY X Y W N sc n) (hq : Γ.cls c = some q) (hm : q.meths.lookup n_len = some f) (G0 : DunOk Y k c "__len__" (Γ.call f) 1) (hk : k + 1 ≤ n) (hg : Gl X "len") (hmg : X.mg "len" = none) (h : plainE e = true) (j : JE X Y.T Y.xf W e s str) :
    JE X Y.T Y.xf W (.Call (.Name "len" p) [e] [] pos) (G.Sem.of (one s (dunV Γ c n_len))) true :=
  .of M.toCxG (PE.imp (L2.pe_callB (cr_lenO M G0 hk) hg hmg (bi_blt .len) (L2.pa_cons j.val L2.pa_nil (plain_star h _ _)) (by decide) (by decide) (plain_star h _ _) (by rfl)) fun σ H Q ⟨env, st, ρ, Ow, en, sr, po⟩ => by
    refine ⟨env, st, ρ, Ow, en, sr, (Post.bind po).mono fun d st1 H1 ρ1 e1 s1 q0 v r => ?_⟩
    have ee : ((Γ.cls c).bind fun k => k.meths.lookup n_len) = some f := by rw [hq]; exact hm
    unfold dunV at q0
    cases ho : objv st1 d with
    | none => rw [ho] at q0; exact q0.elim
    | some bf =>
      obtain ⟨b0, fs⟩ := bf
      rw [ho] at q0
      simp only [ee] at q0
      split at q0
      · rename_i hbc
        subst hbc
        obtain ⟨a0, dx0, gs, rfl, ha, ry'⟩ := obj_at s1 r.w ho
        refine ⟨a0, dx0, gs, rfl, ha, st1, ρ1, Ow, [d], s1, .cons ry' .nil, ?_⟩
        have p1 := Post.bind q0
        have p2 := hush_want (w := ⟨Y.T, Y.xf, W, σ⟩) (w' := ⟨Y.T, Y.xf, fun cls dx _ H' => False, []⟩) rfl p1
        refine p2.mono fun d2 st2 H2 ρ2 e2 s2 q2 v2 rv => ?_
        cases d2 with
        | int i =>
          cases rv
          have q3 : Post ⟨Y.T, Y.xf, W, σ⟩ H2 ρ2 Ow (fun d _ H' ρ' => ∀ v, RX true Y.T H' ρ' Ow v d → Q v H') (if True ∧ 0 ≤ i ∧ i ≤ 1000 then .ok (.int i) st2 else .bad) := q2
          split at q3
          · rename_i hh
            exact ⟨i, rfl, hh.2, Post.ok (w := ⟨Y.T, Y.xf, W, σ⟩) s2 q3 _ (.int i)⟩
          · exact q3.elim
        | str y =>
          have q3 : Post ⟨Y.T, Y.xf, W, σ⟩ H2 ρ2 Ow (fun d _ H' ρ' => ∀ v, RX true Y.T H' ρ' Ow v d → Q v H') (if n_len = n_str then .ok (.str y) st2 else .bad) := q2
          rw [if_neg (by decide)] at q3
          exact q3.elim
        | bl y =>
          have q3 : Post ⟨Y.T, Y.xf, W, σ⟩ H2 ρ2 Ow (fun d _ H' ρ' => ∀ v, RX true Y.T H' ρ' Ow v d → Q v H') (if n_len = n_bool then .ok (.bl y) st2 else .bad) := q2
          rw [if_neg (by decide)] at q3
          exact q3.elim
        | _ => exact q2.elim
      · exact q0.elim)
end
end G
/-! The engine's own-class str, bool; a list display with a star. -/
namespace G
section
open PySem PySem.W PySem.Calls Builtin
variable {prog : Program} {w : World} {A : Around} {E : Value → Shared → Prop} {K : Frag} {s : Shared} {x f C : Addr} {ox : PySem.Obj} {od : Option PySem.Obj} {h₀ : Heap} {L : List Addr} {m : PySem.Str → Option Value}
theorem kbo_call {Q : Value → Shared → Prop} (X : K.In s.heap) (I : InstAt s.heap x ox C od) (hs : findIn K (.ref C) "__bool__" = some (some (.ref f))) (hf : isFn K (.ref f) = true)
    (h : wpAny (model prog w) A.in1.in1 (call (.ref f) [.ref x]) (BoolBack fun b => Q (.bool b)) E s) : wpAny (model prog w) A (call (.type "bool") [.ref x]) Q E s := by
  refine callType_codes (T := "bool") (Bi := Builtin.«object.__init__») (Q₁ := fun r s₁ => ∃ y, r = .bool y ∧ Q r s₁) PySem.F.called_bool (PySem.F.typeCall_bool_1 _) PySem.F.entry_object_init ?_ ?_
  · refine codeAny_of_tree ?_
    show wpAny _ A.in1.in1 (do checkBuiltinCall "bool.__new__" ⟨[.type "bool", .ref x], []⟩; again (.builtin "bool.__new__" ⟨[.type "bool", .ref x], []⟩)) _ _ s
    refine wpAny_bind (wpAny_of_eq (PySem.F.newCall_bool_1 _) (wpAny_pure ⟨plainId_quiet (by decide +kernel) _, codeAny_builtin PySem.F.entry_bool_new ?_⟩))
    rw [Around.under_plainId (by decide +kernel) _]
    unfold Builtin.«bool.__new__»
    refine wpAny_bind (wpAny_pure ?_)
    refine wpAny_bind (wpAny_of_eq PySem.F.sub_bool_bool ?_)
    refine wpAny_bind (m := someArgs "bool" 0 1 { pos := [.ref x], kw := [] : Args }) (wpAny_pure ?_)
    refine wpAny_bind (m := truthy (.ref x)) ?_
    unfold truthy
    refine wpAny_bind (m := callSpecial? (.ref x) (Str.ofString "__bool__")) (special_fn X I hs (beq_iff_eq.mp hf) (wpAny_mono h (fun r s' hr => ?_) fun _ _ y => y))
    cases r <;> first | exact hr.elim | skip
    exact wpAny_pure (wpAny_pure ⟨_, rfl, hr⟩)
  · rintro obj s₁ ⟨y, rfl, hq⟩
    exact ⟨typeIs_bool _ _, PySem.F.args_object_init_2 _ _, object_init_meets PySem.F.called_bool.init.lookup PySem.F.called_bool.made (by decide) prog w A.in1 _ s₁ ⟨typeIs_bool _ _, rfl, hq⟩⟩
end
open PySem PySem.Spec PyProof.Rows
open L2 (V Hp HO upd SqL SqT Rd VK XK TE TT TA TI TS TG TGs Ends WX Cx PE PT PA PI PS PSs PG PGs Inv OpR CallR RelV Vals R2 PC PW Gl Room)
section
variable {X : Cx} {Y : Wd} {W : WX} {N : List PySem.Str} {sc : Scope} {n k : Nat} {Γ : Ctx} {e a b : Expr} {p p2 pos : Pos} {s sa sb : G.Sem} {str ra rb : Bool}
theorem room_in2 {A : Around} (r : Room (k + 1) A) : Room k A.in1.in1 :=
  ⟨r.hd, by have := r.dp; show A.depth + 3 * k + 5 < _; omega, by have := r.un; show A.units + 1 + 1 + 16 * k + 200 < _; omega⟩
theorem run_in2 {f : Addr} {fd : FuncData} {ps : List PySem.Str} {c : Fd} {pins : List (Addr × PySem.Obj)} {σ : L2.St} {H : Hp} {s : Shared} {Q : VK} {us : List Value} {vs : List V} {E' : Value → Shared → Prop} (M : CxY X Y W N sc n) (F : FnG Y k f fd ps c) (hk : k + 1 ≤ n)
    (hb : BindsTo s fd ⟨us, []⟩ (ps.zip us)) (I : Inv X pins σ H s) (r : Vals vs us) (hl : vs.length = ps.length) (h : Want Y.T Y.xf c vs H Q (fun _ _ _ => False)) :
    wpAny (model X.prog X.w) X.A.in1.in1 (PySem.call (.ref f) us) (L2.EP X pins σ Q) E' s := by
  have e0 : L2.Env0 Y.P Y.w Y.K Y.mg Y.base X.A.in1.in1 X.stack s H := by
    have q := I.env0.in1.in1
    rw [M.eP, M.ew, M.eKY, M.em, M.eb] at q
    exact q
  have go := F.run X.A.in1.in1 X.stack s H ⟨us, []⟩ us vs Q (fun _ _ _ => False) (room_in2 (M.room.mono hk)) M.guards e0 hb r hl h
  rw [← M.eP, ← M.ew] at go
  refine wpAny_call (codeAny_mono go fun res s' hq => ?_)
  cases res with
  | error e =>
    obtain ⟨_, _, _, _, _, _, _, _, _, _, _, _, z⟩ := hq
    exact z.elim
  | ok fl =>
    cases fl with
    | ret u => exact I.after hq
    | _ => exact hq.elim
def rStrO (Y : Wd) (c : Nat) (call : Fd) : List V → Hp → VK → Prop := fun xs H Q => ∃ a dx gs, xs = [.ref a] ∧ H a = some (.ins (Y.T.cls c) dx gs) ∧ Want Y.T Y.xf call [.ref a] H (fun z H' => ∃ i, z = .str i ∧ Q (.str i) H') (fun _ _ _ => False)
theorem cr_strO {c : Nat} {call : Fd} (M : CxY X Y W N sc n) (G0 : DunOk Y k c "__str__" call 1) (hk : k + 1 ≤ n) : CallR X (.type "str") (rStrO Y c call) := by
  intro pins s σ H xs us Q I r ⟨a, dx, gs, ex, ha, hw⟩
  subst ex
  rw [L2.Vals.ref1 r]
  obtain ⟨f, fd, ps, h1, h2, F, hb, hnp⟩ := G0.ex
  obtain ⟨mA, O, _, _, _, _⟩ := L2.ins_get I.hok ha
  obtain ⟨od, J, _⟩ := O.look
  have b : BindsTo s fd ⟨[.ref a], []⟩ (ps.zip [.ref a]) := by
    have b := hb s [.ref a] (by rw [← M.eKY]; exact I.kIn) (by rw [List.append_nil, hnp]; rfl)
    rw [List.append_nil] at b
    exact b
  have go := run_in2 (E' := X.xe) (σ := σ) (us := [.ref a]) (vs := [.ref a]) M F hk b I (.cons rfl .nil) (by rw [hnp]; rfl) hw
  refine PySem.W.kso_call (by have := (M.room.mono hk).un; show X.A.units + 1 + 1 < _; omega) I.kIn J (by rw [M.eKY]; exact h1) (by rw [M.eKY]; exact h2) (L2.thn go fun w s1 ⟨z, H', I', rz, i, ez, q⟩ => ?_)
  subst ez
  obtain ⟨t, rfl⟩ := rz
  exact ⟨.str i, H', I', ⟨_, rfl⟩, q⟩
def rBoolO (Y : Wd) (c : Nat) (call : Fd) : List V → Hp → VK → Prop := fun xs H Q => ∃ a dx gs, xs = [.ref a] ∧ H a = some (.ins (Y.T.cls c) dx gs) ∧ Want Y.T Y.xf call [.ref a] H (fun z H' => ∃ i, z = .bl i ∧ Q (.bl i) H') (fun _ _ _ => False)
theorem cr_boolO {c : Nat} {call : Fd} (M : CxY X Y W N sc n) (G0 : DunOk Y k c "__bool__" call 1) (hk : k + 1 ≤ n) : CallR X (.type "bool") (rBoolO Y c call) := by
  intro pins s σ H xs us Q I r ⟨a, dx, gs, ex, ha, hw⟩
  subst ex
  rw [L2.Vals.ref1 r]
  obtain ⟨f, fd, ps, h1, h2, F, hb, hnp⟩ := G0.ex
  obtain ⟨mA, O, _, _, _, _⟩ := L2.ins_get I.hok ha
  obtain ⟨od, J, _⟩ := O.look
  have b : BindsTo s fd ⟨[.ref a], []⟩ (ps.zip [.ref a]) := by
    have b := hb s [.ref a] (by rw [← M.eKY]; exact I.kIn) (by rw [List.append_nil, hnp]; rfl)
    rw [List.append_nil] at b
    exact b
  have go := run_in2 (E' := X.xe) (σ := σ) (us := [.ref a]) (vs := [.ref a]) M F hk b I (.cons rfl .nil) (by rw [hnp]; rfl) hw
  refine kbo_call I.kIn J (by rw [M.eKY]; exact h1) (by rw [M.eKY]; exact h2) (L2.thn go fun w s1 ⟨z, H', I', rz, i, ez, q⟩ => ?_)
  subst ez
  have e : w = Value.bool i := rz
  subst e
  exact ⟨.bl i, H', I', rfl, q⟩
theorem je_strO {c : Nat} {q : Cl} {f : Nat} (M : CxY X Y W N sc n) (hq : Γ.cls c = some q) (hm : q.meths.lookup n_str = some f) (G0 : DunOk Y k c "__str__" (Γ.call f) 1) (hk : k + 1 ≤ n) (hg : Gl X "str") (hmg : X.mg "str" = none) (h : plainE e = true) (j : JE X Y.T Y.xf W e s str) :
    JE X Y.T Y.xf W (.Call (.Name "str" p) [e] [] pos) (G.Sem.of (one s (dunV Γ c n_str))) true :=
  .of M.toCxG (PE.imp (L2.pe_callTy (cr_strO M G0 hk) hg hmg (bi_blt .str) (L2.pa_cons j.val L2.pa_nil (plain_star h _ _)) (by decide) (by decide) (plain_star h _ _) (by rfl)) fun σ H Q ⟨env, st, ρ, Ow, en, sr, po⟩ => by
    refine ⟨env, st, ρ, Ow, en, sr, (Post.bind po).mono fun d st1 H1 ρ1 e1 s1 q0 v r => ?_⟩
    have ee : ((Γ.cls c).bind fun k => k.meths.lookup n_str) = some f := by rw [hq]; exact hm
    unfold dunV at q0
    cases ho : objv st1 d with
    | none => rw [ho] at q0; exact q0.elim
    | some bf =>
      obtain ⟨b0, fs⟩ := bf
      rw [ho] at q0
      simp only [ee] at q0
      split at q0
      · rename_i hbc
        subst hbc
        obtain ⟨a0, dx0, gs, rfl, ha, ry'⟩ := obj_at s1 r.w ho
        refine ⟨a0, dx0, gs, rfl, ha, st1, ρ1, Ow, [d], s1, .cons ry' .nil, ?_⟩
        have p1 := Post.bind q0
        have p2 := hush_want (w := ⟨Y.T, Y.xf, W, σ⟩) (w' := ⟨Y.T, Y.xf, fun cls dx _ H' => False, []⟩) rfl p1
        refine p2.mono fun d2 st2 H2 ρ2 e2 s2 q2 v2 rv => ?_
        cases d2 with
        | int i =>
          cases rv
          have q3 : Post ⟨Y.T, Y.xf, W, σ⟩ H2 ρ2 Ow (fun d _ H' ρ' => ∀ v, RX true Y.T H' ρ' Ow v d → Q v H') (if n_str = n_len ∧ 0 ≤ i ∧ i ≤ 1000 then .ok (.int i) st2 else .bad) := q2
          rw [if_neg (fun h => absurd h.1 (by decide))] at q3
          exact q3.elim
        | str y =>
          have q3 : Post ⟨Y.T, Y.xf, W, σ⟩ H2 ρ2 Ow (fun d _ H' ρ' => ∀ v, RX true Y.T H' ρ' Ow v d → Q v H') (if n_str = n_str then .ok (.str y) st2 else .bad) := q2
          rw [if_pos rfl] at q3
          cases rv with
          | str _ h c => exact ⟨_, rfl, Post.ok (w := ⟨Y.T, Y.xf, W, σ⟩) s2 q3 _ (.str y h c)⟩
        | bl y =>
          have q3 : Post ⟨Y.T, Y.xf, W, σ⟩ H2 ρ2 Ow (fun d _ H' ρ' => ∀ v, RX true Y.T H' ρ' Ow v d → Q v H') (if n_str = n_bool then .ok (.bl y) st2 else .bad) := q2
          rw [if_neg (by decide)] at q3
          exact q3.elim
        | _ => exact q2.elim
      · exact q0.elim)
theorem je_boolO {c : Nat} {q : Cl} {f : Nat} (M : CxY X Y W N sc n) (hq : Γ.cls c = some q) (hm : q.meths.lookup n_bool = some f) (G0 : DunOk Y k c "__bool__" (Γ.call f) 1) (hk : k + 1 ≤ n) (hg : Gl X "bool") (hmg : X.mg "bool" = none) (h : plainE e = true) (j : JE X Y.T Y.xf W e s str) :
    JE X Y.T Y.xf W (.Call (.Name "bool" p) [e] [] pos) (G.Sem.of (one s (dunV Γ c n_bool))) true :=
  .of M.toCxG (PE.imp (L2.pe_callTy (cr_boolO M G0 hk) hg hmg (bi_blt .bool) (L2.pa_cons j.val L2.pa_nil (plain_star h _ _)) (by decide) (by decide) (plain_star h _ _) (by rfl)) fun σ H Q ⟨env, st, ρ, Ow, en, sr, po⟩ => by
    refine ⟨env, st, ρ, Ow, en, sr, (Post.bind po).mono fun d st1 H1 ρ1 e1 s1 q0 v r => ?_⟩
    have ee : ((Γ.cls c).bind fun k => k.meths.lookup n_bool) = some f := by rw [hq]; exact hm
    unfold dunV at q0
    cases ho : objv st1 d with
    | none => rw [ho] at q0; exact q0.elim
    | some bf =>
      obtain ⟨b0, fs⟩ := bf
      rw [ho] at q0
      simp only [ee] at q0
      split at q0
      · rename_i hbc
        subst hbc
        obtain ⟨a0, dx0, gs, rfl, ha, ry'⟩ := obj_at s1 r.w ho
        refine ⟨a0, dx0, gs, rfl, ha, st1, ρ1, Ow, [d], s1, .cons ry' .nil, ?_⟩
        have p1 := Post.bind q0
        have p2 := hush_want (w := ⟨Y.T, Y.xf, W, σ⟩) (w' := ⟨Y.T, Y.xf, fun cls dx _ H' => False, []⟩) rfl p1
        refine p2.mono fun d2 st2 H2 ρ2 e2 s2 q2 v2 rv => ?_
        cases d2 with
        | int i =>
          cases rv
          have q3 : Post ⟨Y.T, Y.xf, W, σ⟩ H2 ρ2 Ow (fun d _ H' ρ' => ∀ v, RX true Y.T H' ρ' Ow v d → Q v H') (if n_bool = n_len ∧ 0 ≤ i ∧ i ≤ 1000 then .ok (.int i) st2 else .bad) := q2
          rw [if_neg (fun h => absurd h.1 (by decide))] at q3
          exact q3.elim
        | str y =>
          have q3 : Post ⟨Y.T, Y.xf, W, σ⟩ H2 ρ2 Ow (fun d _ H' ρ' => ∀ v, RX true Y.T H' ρ' Ow v d → Q v H') (if n_bool = n_str then .ok (.str y) st2 else .bad) := q2
          rw [if_neg (by decide)] at q3
          exact q3.elim
        | bl y =>
          have q3 : Post ⟨Y.T, Y.xf, W, σ⟩ H2 ρ2 Ow (fun d _ H' ρ' => ∀ v, RX true Y.T H' ρ' Ow v d → Q v H') (if n_bool = n_bool then .ok (.bl y) st2 else .bad) := q2
          rw [if_pos rfl] at q3
          cases rv
          exact ⟨_, rfl, Post.ok (w := ⟨Y.T, Y.xf, W, σ⟩) s2 q3 _ (.bl y)⟩
        | _ => exact q2.elim
      · exact q0.elim)
/-- [e, *f] -/
theorem je_star (C : CxG X Y.T N sc n) (ha : plainE a = true) (ja : JE X Y.T Y.xf W a sa true) (jb : JE X Y.T Y.xf W b sb rb) : JE X Y.T Y.xf W (.List [a, .Starred b p] pos) (consE sa sb) true :=
  .of C (PE.imp (L2.pe_lst (L2.pa_cons ja.val (StX.pa_star jb.val L2.pa_nil (by rfl)) (plain_star ha _ _))) fun σ H Q ⟨env, st, ρ, Ow, en, sr, po⟩ => by
    refine ⟨env, st, ρ, Ow, en, sr, (Post.bind po).mono fun d st1 H1 ρ1 e1 s1 q v r => ?_⟩
    refine ⟨env, st1, ρ1, Ow, en.ext e1 sr.disj, s1, (Post.bind q).mono fun d2 st2 H2 ρ2 e2 s2 q2 v2 r2 => ?_⟩
    unfold consV at q2
    cases hs : seqv st2 d2 with
    | none => rw [hs] at q2; exact q2.elim
    | some ys =>
      rw [hs] at q2
      obtain ⟨a0, vs, rfl, hq, hz, rs⟩ := r2.w.seq s2 hs
      have q3 : Post ⟨Y.T, Y.xf, W, σ⟩ H2 ρ2 Ow (fun d _ H' ρ' => ∀ v, RX true Y.T H' ρ' Ow v d → Q v H') (if ys.length < LIM then .ok (.lst (d :: ys)) st2 else .bad) := q2
      split at q3
      · rename_i hlt
        refine ⟨a0, vs, rfl, by rw [← C.eK] at hq; exact hq.symm, ?_⟩
        have rr : RVs Y.T H2 ρ2 Ow (v :: (vs ++ [])) (d :: ys) := by rw [List.append_nil]; exact .cons (RV.ext e2 r) rs
        have hz2 : (v :: (vs ++ [])).length ≤ LIM := by rw [rr.length]; exact hlt
        exact ⟨lim_len hz2, fun q hq => q3 _ ρ2 (Ext.new hq) (s2.new hq) _ (rv_lst hq (s2.fresh hq).1 (s2.fresh hq).2 hz2 rr)⟩
      · exact q3.elim)
end
end G
/-! == of an own class's instance with a value. -/
namespace G
open PySem PySem.Spec PyProof.Rows
open L2 (V Hp HO upd SqL SqT Rd VK XK TE TT TA TI TS TG TGs Ends WX Cx PE PT PA PI PS PSs PG PGs Inv OpR CallR RelV Vals R2 PC PW Gl Room)
section
variable {X : Cx} {Y : Wd} {T : Tb} {xf : Nat → List Nm} {W : WX} {N : List PySem.Str} {sc : Scope} {n k : Nat} {Γ : Ctx} {e a b : Expr} {p pos : Pos} {s sa sb : G.Sem} {str ra rb : Bool}
def rEqO (Y : Wd) (c : Nat) (call : Fd) : R2 := fun x y H Q => ∃ a dx gs t, x = .ref a ∧ H a = some (.ins (Y.T.cls c) dx gs) ∧ L2.TyX Y.K H y t ∧ PySem.W.notFirst Y.K (Y.T.cls c) t = true ∧ Want Y.T Y.xf call [x, y] H (fun z H' => ∃ k, z = .bl k ∧ Q (.bl k) H') (fun _ _ _ => False)
theorem or_eqO {c : Nat} {call : Fd} (M : CxY X Y W N sc n) (G0 : DunOk Y k c "__eq__" call 2) (hk : k ≤ n) : OpR X (compareOp .Eq) (rEqO Y c call) := by
  intro pins s σ H x y v u Q I rx ry ⟨a, dx, gs, t, ex, ha, ty, hn, hw⟩
  subst ex
  obtain rfl : v = Value.ref a := rx
  obtain ⟨f, fd, ps, h1, h2, F, hb, hnp⟩ := G0.ex
  obtain ⟨mA, O, _, _, _, _⟩ := L2.ins_get I.hok ha
  obtain ⟨od, J, _⟩ := O.look
  obtain ⟨m, fr⟩ := I.fr
  have b : BindsTo s fd ⟨[.ref a, u], []⟩ (ps.zip [.ref a, u]) := by
    have b := hb s [.ref a, u] (by rw [← M.eKY]; exact I.kIn) (by rw [List.append_nil, hnp]; rfl)
    rw [List.append_nil] at b
    exact b
  have go := run_fnG (σ := σ) (us := [.ref a, u]) (vs := [.ref a, y]) M.quiet F hk b I (.cons rfl (.cons ry .nil)) (by rw [hnp]; rfl) hw
  have h1' : PySem.W.findIn X.K (.ref (Y.T.cls c)) "__eq__" = some (some (.ref f)) := by rw [M.eKY]; exact h1
  have h2' : PySem.W.isFn X.K (.ref f) = true := by rw [M.eKY]; exact h2
  have ty' : L2.TyX X.K H y t := by rw [M.eKY]; exact ty
  have hn' : PySem.W.notFirst X.K (Y.T.cls c) t = true := by rw [M.eKY]; exact hn
  obtain ⟨P, kx, hp, _⟩ := L2.kit_of I ry ty'
  refine PySem.W.cmp_K (op := .Eq) M.room.units0 fr I.ok.mod.kin J (kx.ty _ _ I.kIn hp) hn' h1' h2' (L2.thn go fun w s1 ⟨z, H', I', rz, kk, ez, q⟩ => ?_)
  subst ez
  have ew : w = Value.bool kk := rz
  subst ew
  exact ⟨.bl kk, H', I', rfl, q⟩
end
section
open PySem.W
variable {prog : Program} {w : World} {A : Around} {E : Value → Shared → Prop} {s : Shared} {K : Frag} {x C L f : Addr} {h₀ : Heap} {m : PySem.Str → Option Value} {ox : PySem.Obj} {od : Option PySem.Obj} {b tb : Value}
theorem ne_ifBound {Q : Option Value → Shared → Prop} (X : K.In s.heap) (I : InstAt s.heap x ox C od) (hs : findIn K (.ref C) "__ne__" = some (some (.builtin "object.__ne__"))) {args : List Value}
    (h : wpAny (model prog w) A (PySem.call (.builtin "object.__ne__") (.ref x :: args)) (fun v => Q (some v)) E s) : wpAny (model prog w) A (callSpecialIfBound? (.ref x) "__ne__" args) Q E s := by
  simp only [callSpecialIfBound?, bindSpecialIfBound?]
  refine wpAny_holding (wpAny_bind (wpAny_bind (wpAny_bind (I.type.here ((looks_findIn X hs).here ?_)))))
  refine wpAny_bind (wpAny_askSetting (wpAny_ite ?_))
  have fin : wpAny (model prog w) A (PySem.call (.builtin "object.__ne__") ([.ref x] ++ args) >>= fun v => pure (some v)) Q E s := wpAny_bind (wpAny_mono h (fun v s' h' => wpAny_pure h') fun _ _ h' => h')
  have hb : Looks (model prog w) s.heap (bindSpecial (.builtin "object.__ne__") (.ref x)) (.builtin "object.__ne__", [.ref x]) := Looks.of_pure (PySem.F.cmp_object.ne.bind (.ref x))
  split
  · exact wpAny_bind (hb.here (wpAny_pure (by exact fin)))
  · exact wpAny_tryCatch (wpAny_bind (hb.here (wpAny_pure (by exact fin))))
theorem ne_K {Q : Value → Shared → Prop} (hu : A.units + 1 < cLine) (F : PyProof.Rows.Fr h₀ L s.heap m) (X₀ : K.In h₀) (I : InstAt s.heap x ox C od) (hb : Looks (model prog w) s.heap (typeOf b) tb) (hn : notFirst K C tb = true)
    (ho : mroIn K C (.type "object") = some true) (hs : findIn K (.ref C) "__ne__" = some (some (.builtin "object.__ne__")))
    (he : findIn K (.ref C) "__eq__" = some (some (.ref f))) (hf : isFn K (.ref f) = true)
    (h : wpAny (model prog w) A.in1 (PySem.call (.ref f) [.ref x, b]) (fun v s' => ∃ k, v = .bool k ∧ Q (.bool (!k)) s') E s) : wpAny (model prog w) A (richCompare .NotEq (.ref x) b) Q E s := by
  have X := X₀.keeps F.keep
  have hu0 : A.units < cLine := by omega
  have t2 : Looks (model prog w) s.heap (isInstance (.ref x) (.type "object")) true := I.type.andThen (looks_subIn X ho)
  have one : wpAny (model prog w) A (tryCompare (.ref x) "__ne__" b) (fun r s' => ∃ v, r = some v ∧ Q v s') E s := by
    unfold tryCompare
    refine wpAny_bind (ne_ifBound X I hs (wpAny_call (codeAny_call_builtin PySem.F.cmp_object.ne.plain PySem.F.cmpEntry_ne (check_slot PySem.F.cmpKind_ne PySem.F.cmpSplit_ne t2 (PySem.F.cmpArgs_ne _ _) ?_))))
    unfold Builtin.«object.__ne__»
    have hu1 : A.in1.units < cLine := hu
    refine wpAny_bind (wpAny_pure ?_)
    refine wpAny_bind (wpAny_cRoomFor hu1 ?_)
    refine wpAny_bind (ifBound_K X I he hf (wpAny_mono h (fun v s' hv => ?_) fun _ _ e => e))
    obtain ⟨k, rfl, hq⟩ := hv
    repeat (first | wp_step)
    exact ⟨_, rfl, hq⟩
  unfold richCompare
  simp only [oneThing_ref]
  refine wpAny_holding (wpAny_bind (wpAny_cRoomFor hu0 ?_))
  refine wpAny_bind (I.type.here (wpAny_bind (hb.here ?_)))
  split
  · rename_i q
    have e : subIn K tb (.ref C) = some false := by
      rcases Bool.or_eq_true_iff.mp hn with e | e
      · rw [beq_iff_eq.mp e] at q; simp at q
      · exact beq_iff_eq.mp e
    refine wpAny_bind ((looks_subIn X e).here ?_)
    simp only [Bool.false_eq_true, if_false]
    refine wpAny_bind (wpAny_mono one (fun r s' z => ?_) fun _ _ e => e)
    obtain ⟨v, rfl, hq⟩ := z
    exact wpAny_pure hq
  · refine wpAny_bind (wpAny_pure ?_)
    simp only [Bool.false_eq_true, if_false]
    refine wpAny_bind (wpAny_mono one (fun r s' z => ?_) fun _ _ e => e)
    obtain ⟨v, rfl, hq⟩ := z
    exact wpAny_pure hq
end
section
variable {X : Cx} {Y : Wd} {T : Tb} {xf : Nat → List Nm} {W : WX} {N : List PySem.Str} {sc : Scope} {n k : Nat} {Γ : Ctx} {e a b : Expr} {p pos : Pos} {s sa sb : G.Sem} {str ra rb : Bool}
def rNeO (Y : Wd) (c : Nat) (call : Fd) : R2 := fun x y H Q => ∃ a dx gs t, x = .ref a ∧ H a = some (.ins (Y.T.cls c) dx gs) ∧ L2.TyX Y.K H y t ∧ PySem.W.notFirst Y.K (Y.T.cls c) t = true ∧ Want Y.T Y.xf call [x, y] H (fun z H' => ∃ k, z = .bl k ∧ Q (.bl (!k)) H') (fun _ _ _ => False)
theorem or_neO {c : Nat} {call : Fd} (M : CxY X Y W N sc n) (G0 : DunOk Y k c "__eq__" call 2) (ho : PySem.W.mroIn Y.K (Y.T.cls c) (.type "object") = some true) (hs : PySem.W.findIn Y.K (.ref (Y.T.cls c)) "__ne__" = some (some (.builtin "object.__ne__"))) (hk : k + 1 ≤ n) : OpR X (compareOp .NotEq) (rNeO Y c call) := by
  intro pins s σ H x y v u Q I rx ry ⟨a, dx, gs, t, ex, ha, ty, hn, hw⟩
  subst ex
  obtain rfl : v = Value.ref a := rx
  obtain ⟨f, fd, ps, h1, h2, F, hb, hnp⟩ := G0.ex
  obtain ⟨mA, O, _, _, _, _⟩ := L2.ins_get I.hok ha
  obtain ⟨od, J, _⟩ := O.look
  obtain ⟨m, fr⟩ := I.fr
  have b : BindsTo s fd ⟨[.ref a, u], []⟩ (ps.zip [.ref a, u]) := by
    have b := hb s [.ref a, u] (by rw [← M.eKY]; exact I.kIn) (by rw [List.append_nil, hnp]; rfl)
    rw [List.append_nil] at b
    exact b
  have h1' : PySem.W.findIn X.K (.ref (Y.T.cls c)) "__eq__" = some (some (.ref f)) := by rw [M.eKY]; exact h1
  have h2' : PySem.W.isFn X.K (.ref f) = true := by rw [M.eKY]; exact h2
  have ty' : L2.TyX X.K H y t := by rw [M.eKY]; exact ty
  have hn' : PySem.W.notFirst X.K (Y.T.cls c) t = true := by rw [M.eKY]; exact hn
  have ho' : PySem.W.mroIn X.K (Y.T.cls c) (.type "object") = some true := by rw [M.eKY]; exact ho
  have hs' : PySem.W.findIn X.K (.ref (Y.T.cls c)) "__ne__" = some (some (.builtin "object.__ne__")) := by rw [M.eKY]; exact hs
  obtain ⟨P, kx, hp, _⟩ := L2.kit_of I ry ty'
  have hu := M.room.units
  refine ne_K (by omega) fr I.ok.mod.kin J (kx.ty _ _ I.kIn hp) hn' ho' hs' h1' h2' (L2.thn (run_in1 (us := [.ref a, u]) (vs := [.ref a, y]) M F hk b I (.cons rfl (.cons ry .nil)) (by rw [hnp]; rfl) hw) fun w s1 ⟨z, H', I', rz, kk, ez, q⟩ => ?_)
  subst ez
  have ew : w = Value.bool kk := rz
  subst ew
  exact ⟨kk, rfl, .bl (!kk), H', I', rfl, q⟩
theorem first_of {K : PySem.W.Frag} {C : Addr} {t : Value} (h : PySem.W.kitOne K t (.ref C) = some false) : PySem.W.notFirst K C t = true := by
  unfold PySem.W.kitOne at h
  split at h
  · cases h
  · have h : (if ((PySem.W.clsIn K C).isSome && PySem.W.typeIn K (.ref C) == some (.type "type")) = true then PySem.W.subIn K t (.ref C) else none) = some false := h
    split at h
    · unfold PySem.W.notFirst
      rw [h]; simp
    · cases h
theorem je_eqO {c : Nat} {q : Cl} {f : Nat} {neg : Bool} (M : CxY X Y W N sc n) (hq : Γ.cls c = some q) (hm : q.meths.lookup n_eq = some f) (G0 : DunOk Y k c "__eq__" (Γ.call f) 2) (OK : IsOk Y.K Y.T Γ (.own c) (.ref (Y.T.cls c)))
    (hne : PySem.W.findIn Y.K (.ref (Y.T.cls c)) "__ne__" = some (some (.builtin "object.__ne__"))) (hk : k + 1 ≤ n) (hb : plainE b = true) (ja : JE X Y.T Y.xf W a sa true) (jb : JE X Y.T Y.xf W b sb true) :
    JE X Y.T Y.xf W (.Compare a [if neg then .NotEq else .Eq] [b] pos) (eqOE Γ c neg sa sb) true := by
  have C0 := (OK.ins c q hq).1
  have key : ∀ x y st, eqOV Γ c neg x y st = (match objv st x with
    | some (b, _) => if b = c then (if isiV Γ st y (.own c) = some false ∨ (objv st y).map (·.1) = some c then (Γ.call f [x, y] st).hush.bind fun r st => (match r with
        | .bl b => .ok (.bl (b != neg)) st
        | _ => .bad) else .bad) else .bad
    | none => .bad) := fun x y st => by
    unfold eqOV
    have e : ((Γ.cls c).bind fun k => k.meths.lookup n_eq) = some f := by rw [hq]; exact hm
    simp only [e]
    all_goals (rcases objv st x with _ | ⟨b0, fs⟩ <;> rfl)
  -- what the operator asks
  have ask : ∀ (σ : L2.St) (st : Store) (H : Hp) (ρ Ow : List Addr) (dx dy : D) (x y : V) (Q : VK), StR Y.T H ρ Ow st → RX true Y.T H ρ Ow x dx → RX true Y.T H ρ Ow y dy →
      Post ⟨Y.T, Y.xf, W, σ⟩ H ρ Ow (fun d _ H' ρ' => ∀ v, RV Y.T H' ρ' Ow v d → Q v H') (eqOV Γ c neg dx dy st) →
      ∃ a dx gs t, x = .ref a ∧ H a = some (.ins (Y.T.cls c) dx gs) ∧ L2.TyX Y.K H y t ∧ PySem.W.notFirst Y.K (Y.T.cls c) t = true ∧ Want Y.T Y.xf (Γ.call f) [x, y] H (fun z H' => ∃ k, z = .bl k ∧ Q (.bl (k != neg)) H') (fun _ _ _ => False) := by
    intro σ st H ρ Ow dx dy x y Q s rx ry po
    have rx' : RV Y.T H ρ Ow x dx := rx
    have ry' : RV Y.T H ρ Ow y dy := ry
    rw [key] at po
    cases ho : objv st dx with
    | none => rw [ho] at po; exact po.elim
    | some bf =>
      obtain ⟨b0, fs⟩ := bf
      rw [ho] at po
      have po2 : Post ⟨Y.T, Y.xf, W, σ⟩ H ρ Ow (fun d _ H' ρ' => ∀ v, RV Y.T H' ρ' Ow v d → Q v H') (if b0 = c then (if isiV Γ st dy (.own c) = some false ∨ (objv st dy).map (·.1) = some c then (Γ.call f [dx, dy] st).hush.bind fun r st => (match r with
        | .bl b => .ok (.bl (b != neg)) st
        | _ => .bad) else .bad) else .bad) := po
      split at po2
      · rename_i hbc
        subst hbc
        split at po2
        · rename_i hy
          obtain ⟨a0, dx0, gs, rfl, ha, rx2⟩ := obj_at s rx.w ho
          have hty : ∃ t, L2.TyX Y.K H y t ∧ PySem.W.notFirst Y.K (Y.T.cls b0) t = true := by
            rcases hy with hy | hy
            · obtain ⟨t, t1, t2⟩ := isi_ty (K := Y.K) (by rw [← M.eK, M.eKY]) OK s ry.w hy
              exact ⟨t, t1, first_of t2⟩
            · cases ho2 : objv st dy with
              | none => rw [ho2] at hy; cases hy
              | some b2 =>
                obtain ⟨c2, fs2⟩ := b2
                rw [ho2] at hy
                cases hy
                obtain ⟨a2, dx2, gs2, rfl, ha2, _⟩ := obj_at s ry.w ho2
                exact ⟨_, .base (.ins ha2 C0.cl C0.ha C0.hn C0.htk C0.hm), by unfold PySem.W.notFirst; simp⟩
          obtain ⟨t, t1, t2⟩ := hty
          refine ⟨a0, dx0, gs, t, rfl, ha, t1, t2, st, ρ, Ow, [dx, dy], s, .cons rx' (.cons ry' .nil), ?_⟩
          have p1 := Post.bind po2
          have p2 := hush_want (w := ⟨Y.T, Y.xf, W, σ⟩) (w' := ⟨Y.T, Y.xf, fun cls dx _ H' => False, []⟩) rfl p1
          refine p2.mono fun d st1 H1 ρ1 e1 s1 q v rv => ?_
          cases d with
          | bl k0 =>
            cases rv
            exact ⟨k0, rfl, Post.ok (w := ⟨Y.T, Y.xf, W, σ⟩) s1 q _ (.bl _)⟩
          | _ => exact q.elim
        · exact po2.elim
      · exact po2.elim
  have shp : ∀ x y st, ∀ d st', eqOV Γ c neg x y st = .ok d st' → ∃ k, d = .bl k := fun x y st d st' h => by
    rw [key] at h
    cases ho : objv st x with
    | none => rw [ho] at h; cases h
    | some bf =>
      obtain ⟨b0, fs⟩ := bf
      rw [ho] at h
      have h2 : (if b0 = c then (if isiV Γ st y (.own c) = some false ∨ (objv st y).map (·.1) = some c then (Γ.call f [x, y] st).hush.bind fun r st => (match r with
        | .bl b => .ok (.bl (b != neg)) st
        | _ => .bad) else .bad) else .bad) = O.ok d st' := h
      split at h2
      · split at h2
        · cases hc : (Γ.call f [x, y] st).hush with
          | ok r st1 =>
            rw [hc] at h2
            cases r with
            | bl k0 => cases h2; exact ⟨_, rfl⟩
            | _ => cases h2
          | ex _ _ _ => rw [hc] at h2; cases h2
          | bad => rw [hc] at h2; cases h2
        · cases h2
      · cases h2
  cases neg with
  | false =>
    refine je_cmp M.toCxG (r := rEqO Y c (Γ.call f)) hb (or_eqO M G0 (by omega)) (fun σ st H ρ Ow dx dy x y Q s rx ry po => ?_) shp ja jb
    obtain ⟨a0, dx0, gs, t, e1, e2, e3, e4, e5⟩ := ask σ st H ρ Ow dx dy x y Q s rx ry po
    exact ⟨a0, dx0, gs, t, e1, e2, e3, e4, by simpa using e5⟩
  | true =>
    refine je_cmp M.toCxG (r := rNeO Y c (Γ.call f)) hb (or_neO M G0 C0.hm hne hk) (fun σ st H ρ Ow dx dy x y Q s rx ry po => ?_) shp ja jb
    obtain ⟨a0, dx0, gs, t, e1, e2, e3, e4, e5⟩ := ask σ st H ρ Ow dx dy x y Q s rx ry po
    exact ⟨a0, dx0, gs, t, e1, e2, e3, e4, by simpa using e5⟩
end
end G
/-! The engine's exceptions: a class over any built-in one, made with one attribute. -/
namespace G
open PySem PySem.Spec PyProof.Rows
section
open Builtin Builtin.ObjectAttr PySem.W PySem.Calls
variable {prog : Program} {w : World} {A : Around} {E : Value → Shared → Prop} {R : Result → Shared → Prop} {hp : Heap} {gs : Array GenState} {dr : Drawn} {tk0 : Nat} {os : OsState}
/-- the first store into an exception that is being made -/
theorem exc_first {B : String} {bmB : List Value} {K : Frag} {name : PySem.Str} {tk : Tok} {v : Value} {x C : Addr} {fv : Array Value} {cd : ClassData} (SF : StoreFacts B bmB "object.__setattr__" "object") (X : K.In hp) (hx : hp.get? x = some { cls := .ref C, data := .fields fv })
    (hover : excOver K C bmB = true) (hcd : clsIn K C = some cd) (hh : cd.hasDict = true) (hno : findIn K (.ref C) name = some none)
    (hq : ∀ h' tk' dx, (∀ b o, b ≠ x → hp.get? b = some o → h'.get? b = some o) → hp.objs.size ≤ dx → dx ≠ x → h'.get? x = some { cls := .ref C, dict := some dx, data := .fields fv } →
      h'.Ns1 dx (fun y => if y = name then some v else none) → R (.ok (.ret .none)) ⟨h', gs, dr, tk', os⟩) :
    codeAny (model prog w) A (.call (.builtin "object.__setattr__") ⟨[.ref x, .str name tk, v], []⟩) R ⟨hp, gs, dr, tk0, os⟩ := by
  have I : InstAt hp x { cls := .ref C, data := .fields fv } C none := ⟨hx, rfl, rfl, trivial⟩
  have ht : takerIn K C name = some none := by
    unfold takerIn
    rw [hno]; rfl
  refine osa_openX (s := ⟨hp, gs, dr, tk0, os⟩) SF X I hover ht fun b => ?_
  have hne : x ≠ hp.objs.size := Nat.ne_of_lt (Heap.lt_size hx)
  have Lc : Looks (model prog w) hp (classData C) cd := looks_clsIn X hcd
  show wpAny _ _ (storeInOwnDict (.ref x) (.ref C) (.str name tk) name v b) _ _ _
  obtain ⟨nm, bs, mro, ns, qn, hd, sn, sb, ab, col, del⟩ := cd
  dsimp only at hh
  subst hh
  unfold storeInOwnDict ownDictForStores
  repeat (first | with_reducible refine HandSPX.store_in_new ?_ ?_ | with_reducible refine wpAny_loadPart_at hx ?_ | with_reducible refine Lc.at ?_ | wp_step)
  · have here : ((hp.push { cls := .type "dict", data := .dict #[] }).update x fun o => { cls := o.cls, dict := some hp.objs.size, data := o.data, slots := o.slots }).get? hp.objs.size = some { cls := .type "dict", data := .dict #[] } :=
      (Heap.get?_update_ne _ _ _ _ hne.symm).trans (Heap.get?_push_size _ rfl)
    exact ⟨_, #[], _, here, rfl, fun e he => absurd he (by simp), fun _ => rfl⟩
  · intro h' tk' hn' hs
    have old : (hp.push { cls := .type "dict", data := .dict #[] }).get? x = some { cls := .ref C, data := .fields fv } := Heap.get?_push_of_some _ hx
    have kept : ∀ b o, b ≠ x → hp.get? b = some o → h'.get? b = some o := fun b o hb ho => by
      rw [hs.2 b (Nat.ne_of_lt (Heap.lt_size ho)), Heap.get?_update_ne _ _ _ _ hb]
      exact Heap.get?_push_of_some _ ho
    exact hq h' tk' hp.objs.size kept (Nat.le_refl _) hne.symm ((hs.2 x hne).trans (Heap.get?_update_self _ old rfl)) hn'
end

open L2 (V Hp HO upd SqL SqT Rd VK XK TE TT TA TI TS TG TGs Ends WX Cx PE PT PA PI PS PSs PG PGs Inv OpR CallR RelV Vals R2 PC PW Gl Room exo exd)
/-- an exception class over the built-in B -/
structure ExB (B newId initId : String) (bmB : List Value) : Prop where
  base : ExcBaseFacts B newId initId bmB
  store : StoreFacts B bmB "object.__setattr__" "object"
  exc : bmB.contains (.type "BaseException") = true
/-- what the written part says of the class -/
structure ExC (K : PySem.W.Frag) (C : Addr) (newId : String) (bmB : List Value) : Prop where
  cls : ∃ nm q N bs bm sn sub ab col dd k0 k1 k2 k3 k5, K.lookup C = some (excClassObj nm q C N bs bm true sn sub ab col dd k0 k1 k2 k3 k5 newId) ∧ PySem.W.excTail bmB bm = true
  over : PySem.W.excOver K C bmB = true
  sa : PySem.W.findIn K (.ref C) "__setattr__" = some (some (.builtin "object.__setattr__"))
  exC : PySem.W.subIn K (.ref C) (.type "BaseException") = some true
  tyC : PySem.W.typeIn K (.ref C) = some (.type "type")
  kC : PySem.W.keepIn K (.ref C) = true
section
variable {X : Cx} {pins : List (Addr × PySem.Obj)} {σ : L2.St} {H : Hp} {s : Shared} {a C dx : Addr} {f : PySem.Str} {y : V} {u : Value} {Q : Unit → Shared → Prop} {E : Value → Shared → Prop} {A : Around} {B newId initId : String} {bmB : List Value}
/-- the dict that the first store lays -/
theorem inv_first {h' : Heap} {t' : Nat} (I : Inv X pins σ H s) (e : H a = some (exo a C none)) (ry : RelV y u) (k : ∀ b o, b ≠ a → s.heap.get? b = some o → h'.get? b = some o) (dn : s.heap.objs.size ≤ dx)
    {t1 : Addr} (hx : h'.get? a = some { cls := .ref C, dict := some dx, data := .fields #[.ref t1, .none, .none, .none, .bool false, .none] }) (hn : h'.Ns1 dx fun z => if z = f then some u else none) :
    Inv X pins σ (upd (upd H dx (exd dx [(f, y)])) a (exo a C (some dx))) { s with heap := h', toks := t' } := by
  have nd : H dx = none := I.hok.fresh dn
  have olderNe : ∀ {b : Addr} {o : PySem.Obj}, s.heap.get? b = some o → b ≠ dx := fun q z => absurd (Heap.lt_size q) (by rw [z]; exact Nat.not_lt.mpr dn)
  have freeNe : ∀ {b : Addr}, H b = none → b ≠ a := fun n z => by rw [z, e] at n; cases n
  have other : ∀ {b : Addr} {u : HO}, H b = some u → b ≠ a → upd (upd H dx (exd dx [(f, y)])) a (exo a C (some dx)) b = some u := fun {b u} q na => by rw [L2.upd_ne na, L2.upd_ne (L2.ne_of_none q nd)]; exact q
  refine I.un (t' := t') ⟨fun b o q n _ _ => k b o (freeNe n) q, fun b o q n _ _ => ⟨o.slots, k b o (freeNe n) q⟩, fun b o q n _ => by rw [L2.upd_ne (freeNe n), L2.upd_ne (olderNe q)]; exact n, fun b o q _ => ?_, fun b xs q => other q (L2.at_ne e q L2.exo_tup), fun b o v q => other q (L2.at_ne e q L2.exo_frz), fun b ps q => ⟨#[], by rw [other q (L2.at_ne e q L2.exo_tbl)]; simp⟩⟩ fun b o q => ?_
  · by_cases hb : b = a
    · exact ⟨_, by rw [hb]; exact hx⟩
    · exact ⟨o, k b o hb q⟩
  · by_cases hb : b = a
    · subst hb
      rw [L2.upd_same] at q
      cases q
      exact L2.exo_ok hx
    · rw [L2.upd_ne hb] at q
      by_cases hd : b = dx
      · subst hd
        rw [L2.upd_same] at q
        cases q
        exact L2.exd_ok hn (L2.relO_put (fs := []) ry fun g => True.intro)
      · rw [L2.upd_ne hd] at q
        refine (I.hok b o q).stay (fun c v hc z => k c v ?_ z) (fun c hc => other hc (L2.at_ne e hc L2.exo_own)) fun c xs hc => other hc (L2.at_ne e hc L2.exo_tup)
        rcases hc with hc | hc
        · rw [hc]; exact hb
        · exact L2.at_ne e hc L2.exo_own
/-- self.f = y, while an exception is made -/
theorem set_first (FB : ExB B newId initId bmB) (T : ExC X.K C newId bmB) (I : Inv X pins σ H s) (e : H a = some (exo a C none)) (hno : PySem.W.findIn X.K (.ref C) f = some none) (ry : RelV y u)
    (h : ∀ dx s', H dx = none → dx ≠ a → Inv X pins σ (upd (upd H dx (exd dx [(f, y)])) a (exo a C (some dx))) s' → Q () s') : wpAny (model X.prog X.w) A (setAttr (.ref a) f u) Q E s := by
  obtain ⟨nm, q, N, bs, bm, sn, sub, ab, col, dd, k0, k1, k2, k3, k5, hC, hbm⟩ := T.cls
  have hcl : PySem.W.clsIn X.K C = some { name := nm, bases := bs, mro := .ref C :: bm, ns := N, qualname := q, hasDict := true, slotNames := sn, subclasses := sub, abstract := ab, collection := col, hasDel := false } := by
    unfold PySem.W.clsIn
    rw [hC] <;> rfl
  obtain ⟨t1, ho⟩ := L2.exo_at I.hok e
  obtain ⟨hp, g, d, t, os⟩ := s
  refine PySem.W.set_plain I.kIn (ox := { cls := .ref C, dict := none, data := .fields #[.ref t1, .none, .none, .none, .bool false, .none] }) (od := none) ⟨ho, rfl, rfl, trivial⟩ T.sa ?_
  refine exc_first FB.store I.kIn ho T.over hcl rfl hno fun h' tk' dx k dn dne hx hn => ?_
  exact h dx _ (I.hok.fresh dn) dne (inv_first (s := ⟨hp, g, d, t, os⟩) (t' := tk') I e ry k dn hx hn)
end
section
variable {X : Cx} {B newId initId : String} {bmB : List Value} {o e : Expr} {to te : TE} {f : PySem.Str} {p' pos : Pos}
/-- self.f = e, while an exception is made -/
def tFirst (K : PySem.W.Frag) (newId : String) (bmB : List Value) (f : PySem.Str) (to te : TE) : TS := fun Z σ H => te σ H fun y H1 => to σ H1 fun x H2 => ∃ a C : Addr, x = .ref a ∧ ExC K C newId bmB ∧ PySem.W.findIn K (.ref C) f = some none ∧ H2 a = some (exo a C none) ∧
  ∀ dx, H2 dx = none → dx ≠ a → Z.nx σ (upd (upd H2 dx (exd dx [(f, y)])) a (exo a C (some dx)))
theorem ps_first (FB : ExB B newId initId bmB) (ho : PE X o to) (he : PE X e te) (hs : swapsWith e (some (.Attribute o f p')) pos.line X.env = pure false) : PS X (.Assign [.Attribute o f p'] e pos) (tFirst X.K newId bmB f to te) := by
  refine ⟨fun pins s σ H Z I h => ?_⟩
  refine plainObj_wpAny_Assign_Attribute (L2.thn (he.run pins s σ H _ I h) fun v s1 ⟨y, H1, I1, r1, q1⟩ => L2.thn (ho.run pins s1 σ H1 _ I1 q1) fun u s2 ⟨x, H2, I2, r2, q2⟩ => ?_) hs
  obtain ⟨a, C, ex, T, hno, ea, q⟩ := q2
  subst ex
  have eu : u = Value.ref a := r2
  subst eu
  exact set_first FB T I2 ea hno r1 fun dx s' n ne J => ⟨σ, _, J, q dx n ne⟩
end
/-- the promise of an error's __init__ -/
def spInit (K : PySem.W.Frag) (newId : String) (bmB : List Value) (f : PySem.Str) : L2.Sp := fun vs H Q _ => ∃ a C y, vs = [.ref a, y] ∧ ExC K C newId bmB ∧ PySem.W.findIn K (.ref C) f = some none ∧ H a = some (exo a C none) ∧ ∀ dx, H dx = none → dx ≠ a → Q .non (upd (upd H dx (exd dx [(f, y)])) a (exo a C (some dx)))
theorem init_ok {P : Program} {w : World} {K : PySem.W.Frag} {mg : PySem.Str → Option Value} {base : Heap} {k : Nat} {fI : Addr} {name qual : PySem.Str} {params : Arguments} {scope : Scope} {dV kV doc pm cdv ct oc : Value} {an od : Option Addr} {osl : Array (Option Value)} {B newId initId : String} {bmB : List Value} {x1 x2 f : PySem.Str} {p1 p2 p3 pos : Pos}
    (FB : ExB B newId initId bmB) (lk : K.lookup fI = some ⟨oc, od, .func (PySem.W.fnOf name qual params [.Assign [.Attribute (.Name x1 p1) f p3] (.Name x2 p2) pos] scope dV kV doc pm an cdv ct), osl⟩) (hcd : PySem.W.codeIn K cdv qual = true) (S : L2.FnScope [x1, x2] [x1, x2] scope)
    (h1 : (x1 == ("__debug__" : PySem.Str)) = false) (h2 : (x1 == ("__classdict__" : PySem.Str)) = false) (h3 : (x2 == ("__debug__" : PySem.Str)) = false) (h4 : (x2 == ("__classdict__" : PySem.Str)) = false) :
    L2.FnOk P w K mg base (L2.CX P w) (k + 1) fI (PySem.W.fnOf name qual params [.Assign [.Attribute (.Name x1 p1) f p3] (.Name x2 p2) pos] scope dV kV doc pm an cdv ct) [x1, x2] (spInit K newId bmB f) := by
  have vis : ∀ x ∈ [x1, x2], L2.Vis scope x := fun x hx => (S.par x hx).elim .inl fun z => .inr (.inl z)
  refine L2.fn_of lk hcd S (fun vs H Q E h => ?_) fun A outer s H vs Q E hr h => ?_
  · obtain ⟨a, C, y, rfl, _⟩ := h
    rfl
  · obtain ⟨a, C, y, rfl, T, hno, ea, q⟩ := h
    refine ⟨_, L2.pss_one (ps_first FB (L2.pe_var (i := 0) rfl (vis x1 (by simp)) h1 h2) (L2.pe_var (i := 1) rfl (vis x2 (by simp)) h3 h4) rfl), ?_⟩
    exact ⟨y, rfl, .ref a, rfl, a, C, rfl, T, hno, ea, q⟩
end G
/-! The engine's raise. -/
namespace G
open PySem PySem.Spec PyProof.Rows
open L2 (V Hp HO upd SqL SqT Rd VK XK TE TT TA TI TS TG TGs Ends WX Cx PE PT PA PI PS PSs PG PGs Inv OpR CallR RelV Vals R2 PC PW Gl Room exo exd)
/-- an error class with one attribute, as it may be made -/
structure ErrOk (Y : Wd) (k : Nat) (C : Addr) (f : PySem.Str) : Prop where
  ex : ∃ (B newId initId : String) (bmB : List Value) (fI : Addr) (fd : FuncData) (x1 x2 : PySem.Str), ExB B newId initId bmB ∧ ExC Y.K C newId bmB ∧ PySem.W.findIn Y.K (.ref C) f = some none ∧ PySem.W.findIn Y.K (.ref C) "__init__" = some (some (.ref fI)) ∧ PySem.W.typeIn Y.K (.ref fI) = some (.type "function") ∧
    L2.FnOk Y.P Y.w Y.K Y.mg Y.base (L2.CX Y.P Y.w) k fI fd [x1, x2] (spInit Y.K newId bmB f) ∧ L2.Binds Y.K fd [x1, x2] []
section
variable {X : Cx} {Y : Wd} {W : WX} {N : List PySem.Str} {sc : Scope} {n k : Nat} {Γ : Ctx} {x f : PySem.Str} {e : Expr} {te : TE} {p pos cpos : Pos} {s : G.Sem} {C : Addr}
/-- C(e), to be raised: the exception is gone, its dict stands -/
theorem pmk_err (M : CxY X Y W N sc n) (G0 : ErrOk Y k C f) (hk : k + 1 ≤ n) (hg : Gl X x) (hm : Y.mg x = some (.ref C)) (hd : (x == ("__debug__" : PySem.Str)) = false) (hpl : plainE e = true) (he : PE X e te) :
    L2.PMk X (.Call (.Name x p) [e] [] pos) (fun σ H Q => te σ H fun y H1 => ∀ dx, H1 dx = none → Q (.ref C) (some dx) (upd H1 dx (.xd [(f, y)]))) := by
  intro pins s0 σ H Q I h
  obtain ⟨B, newId, initId, bmB, fI, fd, x1, x2, FB, T0, hno0, iC0, tI0, F0, hb0⟩ := G0.ex
  have T : ExC X.K C newId bmB := by rw [M.eKY]; exact T0
  have hno : PySem.W.findIn X.K (.ref C) f = some none := by rw [M.eKY]; exact hno0
  have iC : PySem.W.findIn X.K (.ref C) "__init__" = some (some (.ref fI)) := by rw [M.eKY]; exact iC0
  have tI : PySem.W.typeIn X.K (.ref fI) = some (.type "function") := by rw [M.eKY]; exact tI0
  have F1 : L2.FnOk X.prog X.w X.K X.mg X.base (L2.CX X.prog X.w) k fI fd [x1, x2] (spInit X.K newId bmB f) := by
    rw [M.eP, M.ew, M.eKY, M.em, M.eb]; exact F0
  have hb : L2.Binds X.K fd [x1, x2] [] := by rw [M.eKY]; exact hb0
  have hr : Room (k + 1) X.A := M.room.mono hk
  obtain ⟨nm, q, N0, bs, bm, sn, sub, ab, col, dd, k0, k1, k2, k3, k5, hC, hbm⟩ := T.cls
  refine wpAny_Call_Name_kw (L2.ld_glob I hg (by rw [M.em]; exact hm) ?_ hd)
  refine PySem.W.callWith_K (h₀ := X.base) I.ok.mod.kin T.kC (L2.thn ((L2.pa_cons he L2.pa_nil (plain_star hpl _ _)).run pos pins s0 σ H (fun vs H1 => match vs with
    | [y] => ∀ dx, H1 dx = none → Q (.ref C) (some dx) (upd H1 dx (.xd [(f, y)]))
    | _ => False) I h) fun us s1 ⟨vs, H1, I1, r1, q1⟩ => ⟨I1.kIn, ?_⟩) (plain_star hpl _ _) (by rfl)
  obtain ⟨y, rfl⟩ : ∃ y, vs = [y] := by
    match vs, q1 with
    | [y], _ => exact ⟨y, rfl⟩
  obtain ⟨u, rfl, ru⟩ := r1.one
  show wpAny _ _ (PySem.call (.ref C) [u]) _ _ _
  obtain ⟨hp, g, dr, tk, os⟩ := s1
  generalize hae : hp.objs.size + 1 = ae
  have hae2 : hp.objs.size ≤ ae := by omega
  have fresh : H1 ae = none := I1.hok.fresh hae2
  have kk : ∀ b o, hp.get? b = some o → ((hp.push (PySem.W.kdv_tup [u])).push (PySem.HandSPX.excO C hp.objs.size)).get? b = some o := fun b o e => Heap.get?_push_of_some _ (Heap.get?_push_of_some _ e)
  have hget : ((hp.push (PySem.W.kdv_tup [u])).push (PySem.HandSPX.excO C hp.objs.size)).get? ae = some (PySem.HandSPX.excO C hp.objs.size) := by rw [← hae]; heap_get
  have I2 : Inv X pins σ (upd H1 ae (exo ae C none)) ⟨(hp.push (PySem.W.kdv_tup [u])).push (PySem.HandSPX.excO C hp.objs.size), g, dr, tk, os⟩ :=
    I1.laid (t' := tk) (a := ae) (o := exo ae C none) (h' := (hp.push (PySem.W.kdv_tup [u])).push (PySem.HandSPX.excO C hp.objs.size)) kk hae2 (L2.exo_ok hget)
  -- what the class's __init__ is to do
  have want : spInit X.K newId bmB f [.ref ae, y] (upd H1 ae (exo ae C none))
      (fun v H2 => v = .non ∧ ∃ d fs, H2 ae = some (exo ae C (some d)) ∧ H2 d = some (exd d fs) ∧ H1 d = none ∧ Q (.ref C) (some d) (upd (L2.del H2 ae) d (.xd fs))) (fun _ _ _ => False) := by
    refine ⟨ae, C, y, rfl, T, hno, L2.upd_same, fun dx hdx hne => ⟨rfl, dx, [(f, y)], L2.upd_same, ?_, ?_, ?_⟩⟩
    · rw [L2.upd_ne hne, L2.upd_same]
    · rw [L2.upd_ne hne] at hdx; exact hdx
    · have hdx1 : H1 dx = none := by rw [L2.upd_ne hne] at hdx; exact hdx
      have eH : upd (L2.del (upd (upd (upd H1 ae (exo ae C none)) dx (exd dx [(f, y)])) ae (exo ae C (some dx))) ae) dx (.xd [(f, y)]) = upd H1 dx (.xd [(f, y)]) := by
        funext b
        by_cases h1 : b = dx
        · rw [h1, L2.upd_same, L2.upd_same]
        · rw [L2.upd_ne h1, L2.upd_ne h1]
          by_cases h2 : b = ae
          · rw [h2, L2.del_same, fresh]
          · rw [L2.del_ne h2, L2.upd_ne h2, L2.upd_ne h1, L2.upd_ne h2]
      rw [eH]
      exact q1 dx hdx1
  have bind : BindsTo ⟨(hp.push (PySem.W.kdv_tup [u])).push (PySem.HandSPX.excO C hp.objs.size), g, dr, tk, os⟩ fd ⟨[.ref ae, u], []⟩ ([x1, x2].zip [.ref ae, u]) := by
    have z := hb _ [.ref ae, u] I2.kIn rfl
    rw [List.append_nil] at z
    exact z
  have go := F1.run (X.A.under (.builtin "type.__call__" ⟨.ref C :: [u], []⟩)) X.stack _ _ ⟨[.ref ae, u], []⟩ [.ref ae, u] [.ref ae, y] _ (fun _ _ _ => False) (hr.make C [u] []) (I2.env0.make C [u] []) bind (.cons rfl (.cons ru .nil)) want
  subst hae
  refine wpAny_call (PySem.HandSPX.call_own FB.base (fun Z => PySem.W.excTail_contains Z bm hbm) (I1.kIn _ _ hC) (PySem.W.looks_findIn I1.kIn iC) (fun self => PySem.W.bind_fn I1.kIn self tI) (by show 1 ≤ sizeLine; rw [sizeLine_eq]; omega) (codeAny_mono go fun r s' hq' => ?_))
  cases r with
  | error er =>
    obtain ⟨_, _, _, _, _, _, _, _, _, _, _, _, z⟩ := hq'
    exact z.elim
  | ok fl =>
    cases fl with
    | ret u2 =>
      obtain ⟨v, H2, os2, bare2, un2, hok2, rv, ev, d, fs, ea, ed, hd1, q2⟩ := hq'
      subst ev
      obtain ⟨h2, g2, d2, t2, os'⟩ := s'
      exact ⟨rv, L2.mk_end (L2.raises_own T.exC T.tyC) I1 (Nat.le_succ _) kk un2 hok2 os2 bare2 ea ed hd1 q2⟩
    | _ => exact hq'.elim
/-- raise C(e) -/
theorem js_raise {Ow0 : List Addr} {frr : Bool} {c : Nat} {fn : Nm} {q : Xc} (CS : CxS X ⟨Y.T, Y.xf, W, Ow0, frr⟩ N sc n) (M : CxY X Y W N sc n) (hq : Γ.exs c = some q) (hf : q.field = [fn]) (hxf : Y.xf c = [fn]) (hnm : Y.T.nm fn = f) (hC : Y.T.exc c = C) (G0 : ErrOk Y k C f) (hk : k + 1 ≤ n) (hg : Gl X x) (hm : Y.mg x = some (.ref C)) (hd : (x == ("__debug__" : PySem.Str)) = false)
    (hpl : plainE e = true) (j : JE X Y.T Y.xf W e s true) : JS X ⟨Y.T, Y.xf, W, Ow0, frr⟩ (.Raise (some (.Call (.Name x p) [e] [] cpos)) none pos) fun env st => (args [s] env st).run env fun ds st => match Γ.exs c with
      | some k => if k.field.length = ds.length then .ex env c ds st else .bad
      | none => .bad :=
  PS.imp (L2.ps_raise CS.calm CS.tk (pmk_err M G0 hk hg hm hd hpl j.val)) fun Z σ H ⟨env, st, ρ, Ow, fr, po⟩ => by
    have po1 := PostR.run fr po
    have po2 := Post.bind po1
    refine ⟨env, st, ρ, Ow, fr.en, fr.sr, po2.mono fun d st1 H1 ρ1 e1 s1 q1 v r dx hdx => ?_⟩
    have q2 := Post.ok s1 q1
    obtain ⟨f1, q4⟩ := q2
    rw [hq] at q4
    have q5 : PostR ⟨Y.T, Y.xf, W, Ow0, frr⟩ H1 ρ1 Ow Z (if q.field.length = [d].length then .ex env c [d] st1 else .bad) := q4
    rw [hf, if_pos (show [fn].length = [d].length from rfl)] at q5
    have r' : RV Y.T H1 ρ1 Ow v d := r
    have en := Ext.new (ρ := ρ1) (o := HO.xd [(f, v)]) hdx
    have sn : StR Y.T (upd H1 dx (.xd [(f, v)])) ρ1 Ow st1 := s1.new hdx
    refine q5 (.ref C) (some dx) σ _ ρ1 Ow (f1.step en) (f1.ext en sn) ⟨by rw [hC], ?_⟩
    show match Y.xf c, [d], some dx with
      | [], [], none => True
      | [f], [d], some x => ∃ v', upd H1 dx (.xd [(_, v)]) x = some (.xd [(Y.T.nm f, v')]) ∧ x ∉ ρ1 ∧ x ∉ Ow ∧ RV Y.T _ ρ1 Ow v' d
      | _, _, _ => False
    rw [hxf]
    exact ⟨v, by rw [L2.upd_same, hnm], (s1.fresh hdx).1, (s1.fresh hdx).2, r'.ext en⟩
end
end G
/-! sorted(e, key=lambda x: ..). -/
namespace G
open PySem PySem.Spec PyProof.Rows
open L2 (V Hp HO upd SqL SqT Rd VK XK TE TT TA TI TS TG TGs Ends WX Cx PE PT PA PI PS PSs PG PGs Inv OpR CallR RelV Vals R2 PC PW Gl Room)
open LamX (TabB lamEnv TabS Tabs CodeO)
/-- a lambda's names: its parameter, captured ones, globals -/
structure LamP (sc scope : Scope) : Prop where
  kind : scope.kind = .function
  co : scope.isCoroutine = false
  gen : scope.isGenerator = false
  own : ∀ y ∈ scope.names, y.2 ≠ .cell
  free : ∀ y ∈ scope.names, y.2 = .free → sc.names.lookup y.1 = some .cell ∨ sc.names.lookup y.1 = some .free
/-- a key's text -/
inductive LK (N : List PySem.Str) (sc scope : Scope) (x : PySem.Str) : Expr → KX → Prop
  | p {pos : Pos} (h : scope.names.lookup x = some .local) (hd : (x == ("__debug__" : PySem.Str)) = false) : LK N sc scope x (.Name x pos) .p
  | c {i : Nat} {y : PySem.Str} {pos : Pos} (hn : N[i]? = some y) (h : scope.names.lookup y = some .free) (hd : (y == ("__debug__" : PySem.Str)) = false) (hc : (y == ("__classdict__" : PySem.Str)) = false) : LK N sc scope x (.Name y pos) (.c i)
  | k {z : Int} {j : Nat} {pos : Pos} : LK N sc scope x (.Constant (.int z) j pos) (.k z)
  | ix {a b : Expr} {u v : KX} {pos : Pos} (ha : LK N sc scope x a u) (hb : LK N sc scope x b v) (hp : L2.PlainIx b) : LK N sc scope x (.Subscript a b pos) (.ix u v)
section
variable {X : Cx} {T : Tb} {xf : Nat → List Nm} {W : WX} {N : List PySem.Str} {sc scope : Scope} {n : Nat} {pins : List (Addr × PySem.Obj)} {σ : L2.St} {H : Hp} {s : Shared} {ρ Ow : List Addr} {env : Env} {st : Store} {h : Heap} {L f c c' P : Addr} {x : PySem.Str}
theorem atI_vals {vs : List V} {xs : List D} {i : Int} {z : D} (rs : RVs T H ρ Ow vs xs) (hz : atI xs i = some z) : ∃ v, L2.atI vs i = some v ∧ RV T H ρ Ow v z := by
  unfold atI at hz
  obtain ⟨j, hj, hz⟩ := Option.bind_eq_some_iff.mp hz
  obtain ⟨v, hv, rv⟩ := rs.get hz
  refine ⟨v, ?_, rv⟩
  unfold L2.atI
  rw [rs.length]
  show (L2.ixN xs.length i).bind _ = _
  have e : L2.ixN xs.length i = some j := hj
  rw [e]
  exact hv
/-- an item by its place, nothing else happens -/
theorem item_at {A : Around} {E : Value → Shared → Prop} {Q : Value → Shared → Prop} {a b : Expr} {v : V} {u : Value} {d z : D} {xs : List D} {i : Int} {t : Tok} (hK : X.K = T.K) (I : Inv X pins σ H s) (rv : RV T H ρ Ow v d) (ru : RelV v u) (hx : seqF d = some xs) (hz : atI xs i = some z)
    (hp : subscripted b false u (.int i t) = operate [u, .int i t] (getItem u (.int i t))) (q : ∀ w v', RelV v' w → RV T H ρ Ow v' z → Q w s) : wpAny (model X.prog X.w) A (subscriptTail a b u (.int i t)) Q E s := by
  have hn := L2.line63
  cases d with
  | tup ys =>
    cases hx
    cases rv with
    | tup sq hz2 rs =>
      cases ru
      obtain ⟨its, r, pl, hz3⟩ := I.tuple (by rw [hK]; exact sq.sq)
      obtain ⟨v', he, rv'⟩ := atI_vals rs hz
      obtain ⟨j, h1, h2, h3, h4, h5⟩ := L2.atI_get he
      obtain ⟨w, ew, rw'⟩ := r.get h2
      have hl := r.length
      exact subscriptTail_builtinR (x := w) pl.typeIs slot_tuple_getitem.lookup
        (getItem_tuple (j := j) (Q := fun r s' => r = w ∧ Q r s') pl (by omega) (by omega) (by rw [List.size_toArray, ← hl]; exact h1) (by simpa using ew) ⟨rfl, q w v' rw' rv'⟩) hp
  | lst ys =>
    cases hx
    cases rv with
    | lst hq n1 n2 hz2 rs =>
      cases ru
      obtain ⟨its, r, pl, hz3⟩ := I.list (.inl (.inl hq))
      obtain ⟨v', he, rv'⟩ := atI_vals rs hz
      obtain ⟨j, h1, h2, h3, h4, h5⟩ := L2.atI_get he
      obtain ⟨w, ew, rw'⟩ := r.get h2
      have hl := r.length
      have fin := q w v' rw' rv'
      by_cases h0 : 0 ≤ i
      · have hj : i.toNat = j := by
          rw [seqIndex_of h0 h5] at h1
          exact Option.some.inj h1
        exact item_listR pl.isList h0 (by omega) (by rw [hj]; simpa using ew) fin hp
      · have hj : (i + (its.toArray.size : Int)).toNat = j := by
          rw [seqIndex_neg (by omega) h4] at h1
          rw [List.size_toArray, ← hl]
          exact Option.some.inj h1
        exact subscriptTail_builtinR (x := w) pl.isList.typeIs slot_list_getitem.lookup
          (wpAny_getItem_list_neg (Q := fun r s' => r = w ∧ Q r s') pl.isList (by omega) (by rw [List.size_toArray] <;> omega) (by omega) (by rw [hj]; simpa using ew) ⟨rfl, fin⟩) hp
  | _ => cases hx
theorem LamP.has (hL : LamP X.env.scope scope) (ok : X.Ok) : ∀ y ∈ scope.names, y.2 = .free → ∃ c, X.env.cells.lookup y.1 = some c := fun y hy e => by
  rcases hL.free y hy e with k | k
  · exact ok.has _ (.inl k)
  · exact ok.has _ (.inr k)
/-- a key is read off: nothing else happens -/
theorem lk_run (hK : X.K = T.K) (I : Inv X pins σ H s) (en : EnR T H ρ Ow σ env) (hL : LamP X.env.scope scope) {m : PySem.Str → Option Value} (kp : ∀ b o, s.heap.get? b = some o → h.get? b = some o) (hns : h.Ns L m) {v : V} {u : Value} {d : D} (hm : m x = some u) (ru : RelV v u) (rv : RV T H ρ Ow v d) :
    ∀ {e : Expr} {kx : KX}, LK X.N X.env.scope scope x e kx → ∀ {z : D}, kx.val env d = some z → ∀ (A : Around) (E Q : Value → Shared → Prop) (tk : Nat), (∀ w v' tk', RelV v' w → RV T H ρ Ow v' z → Q w { s with heap := h, toks := tk' }) →
      wpAny (model X.prog X.w) A (eval e (lamEnv X scope L f c')) Q E { s with heap := h, toks := tk } := by
  intro e kx l
  induction l with
  | p hl hd =>
    intro z hz A E Q tk q
    cases hz
    exact wpAny_Name (wpAny_loadName_local hL.kind hl hns hm (q u v tk ru rv)) hd
  | @c i y pos hn hl hd hc =>
    intro z hz A E Q tk q
    obtain ⟨v', hv, rv'⟩ := en.get (i := i) (d := z) hz
    have hy : (y, NameKind.free) ∈ scope.names := PySem.mem_of_lookup hl
    have hfree := hL.has I.ok
    have hsc := hL.free _ hy rfl
    have hvis : L2.Vis X.env.scope y := hsc.elim (fun k => .inr (.inl k)) (fun k => .inr (.inr k))
    obtain ⟨m0, hn0, hl0⟩ := I.loc
    obtain ⟨w, rw', q'⟩ := hl0 i y v' hn hv hvis
    obtain ⟨c2, h2⟩ := L2.mem_lookup (L2.cloFrom_has (cells := X.env.cells) (acc := []) hy)
    have c1 : X.env.cells.lookup y = some c2 := by
      rcases L2.cloFrom_mem (PySem.mem_of_lookup h2) with hm' | ⟨h1, h3⟩
      · cases hm'
      · obtain ⟨c4, h4⟩ := hfree _ h1 rfl
        have h4 : X.env.cells.lookup y = some c4 := h4
        have e2 : c2 = c4 := by rw [h3, h4] <;> rfl
        rw [e2]; exact h4
    have cell : h.IsCell c2 (some w) := by
      rcases q' with ⟨k', _⟩ | ⟨_, c3, e', z'⟩
      · have k' : X.env.scope.names.lookup y = some .local := k'
        rcases hsc with k2 | k2 <;> rw [show X.env.scope.names.lookup y = _ from k2] at k' <;> cases k'
      · rw [c1] at e'
        cases e'
        obtain ⟨o, ho, hd'⟩ := z'
        exact ⟨o, kp _ _ ho, hd'⟩
    exact wpAny_Name (wpAny_loadName_free (c := c2) hL.kind hl h2 cell (q w v' tk rw' rv') hc) hd
  | k =>
    intro z hz A E Q tk q
    cases hz
    exact wpAny_Constant_int (q _ (.int _) _ ⟨_, rfl⟩ (.int _))
  | ix ha hb hp iha ihb =>
    intro z hz A E Q tk q
    obtain ⟨d1, h1, hz⟩ := Option.bind_eq_some_iff.mp hz
    obtain ⟨d2, h2, hz⟩ := Option.bind_eq_some_iff.mp hz
    cases d2 with
    | int j =>
      obtain ⟨xs, hx, hz⟩ := Option.bind_eq_some_iff.mp hz
      refine Subscript_ (iha h1 A E _ tk fun w1 v1 tk1 r1 rv1 => ihb h2 A E _ tk1 fun w2 v2 tk2 r2 rv2 => ?_)
      cases rv2
      obtain ⟨t, rfl⟩ := r2
      exact item_at hK (I.kept (t' := tk2) kp) rv1 r1 hx hz (hp _ _) fun w v' rw' rv' => q w v' tk2 rw' rv'
    | _ => cases hz

/-- the lambda is made: all that is tracked but the table stays -/
theorem lam_make3 {P : Addr} {q : PySem.Str} {params : Arguments} {body : Expr} {pos : Pos} {E : Value → Shared → Prop} {Q : Value → Shared → Prop} (I : Inv X pins σ H s) (sr : StR T H ρ Ow st) (TB : TabB X.base X.mg c P) (hcode : X.env.code = .ref c)
    (hq : q = X.env.qual ++ "<lambda>") (hm : (P, q) ∈ T.tabs) (hdef : defaultsOf params X.env = ([], [])) (hfree : ∀ y ∈ scope.names, y.2 = .free → ∃ c, X.env.cells.lookup y.1 = some c)
    (h : ∀ (f c' : Addr) (pm ctv : Value) (H1 : Hp) (s' : Shared), Inv X pins σ H1 s' → Ext H ρ H1 ρ → StR T H1 ρ Ow st →
      s'.heap.get? f = some (PySem.W.kla_obj "<lambda>" q params body scope (L2.cloFrom X.env.cells scope.names []) pm c' ctv) → s'.heap.CodeRec (.ref c') q → Q (.ref f) s') :
    wpAny (model X.prog X.w) X.A (eval (.Lambda params body scope pos) X.env) Q E s := by
  subst hq
  obtain ⟨i, hi⟩ := List.getElem?_of_mem hm
  obtain ⟨hρ, ps, hP, ht, ha⟩ := sr.tab i _ hi
  have mP : P ∈ ρ := List.mem_of_getElem? hρ
  refine PySem.W.kla_eval hdef ?_
  have bP : s.heap.BuiltinsAt X.mg P := TB.bm.keeps I.bk
  have hP' : s.heap.get? P = some { cls := .none, data := .fields ps } := I.hok P _ hP
  cases hc : codeAmong pos ps.toList with
  | none =>
    refine PySem.W.kla_makeFunction (mg := X.mg) (c := c) (P := P) (ps := ps) (L2.closure_ok hfree) I.ok.glob (I.mod.glob.keeps I.bk) hcode (TB.code.keeps I.bk) hP' ht hc TB.gP bP fun c' ctv h' tk hx hge hlt hrec htb => ?_
    obtain ⟨c2, oc, vs, t, e2, hoc, hd, hv⟩ := hrec
    cases e2
    have nC : H c' = none := I.hok.fresh hge
    have I1 := LamX.inv_table (t' := tk) (more := #[rawInt pos.line, rawInt pos.col, .ref c']) (h' := h'.push (PySem.W.kla_obj "<lambda>" (X.env.qual ++ "<lambda>") params body scope (L2.cloFrom X.env.cells scope.names []) ((X.mg "__name__").getD .none) c' ctv)) I hP
      (fun b o hb e => Heap.get?_push_of_some _ (hx b o hb e)) (Heap.get?_push_of_some _ htb) hge ⟨oc, vs, t, Heap.get?_push_of_some _ hoc, hd, hv⟩
    have e1 : Ext H ρ (upd H P (.tbl (ps ++ #[rawInt pos.line, rawInt pos.col, .ref c']))) ρ := Ext.set mP
    have nC1 : upd H P (.tbl (ps ++ #[rawInt pos.line, rawInt pos.col, .ref c'])) c' = none := by rw [L2.upd_ne fun e => by rw [e, hP] at nC; cases nC]; exact nC
    have e2 : Ext H ρ (upd (upd H P (.tbl (ps ++ #[rawInt pos.line, rawInt pos.col, .ref c']))) c' (CodeO c' (X.env.qual ++ "<lambda>"))) ρ := e1.trans (Ext.new nC1)
    have nρ : c' ∉ ρ := fun hm => by
      obtain ⟨o, ho⟩ := sr.mem hm
      rw [nC] at ho; cases ho
    have eL : (ps ++ #[rawInt pos.line, rawInt pos.col, .ref c']).toList = ps.toList ++ [rawInt pos.line, rawInt pos.col, .ref c'] := by simp
    have same : ∀ b, b ≠ P → H b ≠ none → upd (upd H P (.tbl (ps ++ #[rawInt pos.line, rawInt pos.col, .ref c']))) c' (CodeO c' (X.env.qual ++ "<lambda>")) b = H b := fun b h1 h2 => by
      rw [L2.upd_ne fun e => h2 (by rw [e]; exact nC), L2.upd_ne h1]
    have s1 : StR T (upd (upd H P (.tbl (ps ++ #[rawInt pos.line, rawInt pos.col, .ref c']))) c' (CodeO c' (X.env.qual ++ "<lambda>"))) ρ Ow st := by
      refine ⟨sr.len, sr.nd, sr.apart, fun a hm => ?_, fun l a ob h1 h2 => ?_, fun j p hj => ?_⟩
      · obtain ⟨ws, hw⟩ := sr.lists a hm
        exact ⟨ws, by rw [same a (fun e => by rw [e, hP] at hw; cases hw) (by rw [hw]; simp)]; exact hw⟩
      · have z := sr.at_ l a ob h1 h2
        refine z.ext e2 (same a (fun e => ?_) z.there)
        rw [e] at z
        cases ob with
        | lst ds => obtain ⟨_, ws, hw, _⟩ := z; rw [hP] at hw; cases hw
        | ins b fs => obtain ⟨_, dx, ws, hw, _⟩ := z; rw [hP] at hw; cases hw
      · obtain ⟨k1, k2⟩ := sr.tab j p hj
        by_cases hpP : p.1 = P
        · have hji : j = i := by
            rw [hpP] at k1
            have p1 := List.getElem?_eq_some_iff.mp k1
            have p2 := List.getElem?_eq_some_iff.mp hρ
            exact (List.getElem_inj sr.nd).mp (p1.2.trans p2.2.symm)
          subst hji
          rw [hi] at hj
          cases hj
          refine ⟨hρ, _, by rw [L2.upd_ne (fun e => by rw [← e, hP] at nC; cases nC), L2.upd_same], by rw [eL]; exact PySem.TriplesOk_snoc _ _ _ _ ht, fun p' cv hcv => ?_⟩
          rw [eL] at hcv
          rcases LamX.among_app _ ht hcv with z | z
          · obtain ⟨c0, g1, g2, g3⟩ := ha p' cv z
            exact ⟨c0, g1, (e2.keep _ _ g2 g3).1, g3⟩
          · exact ⟨c', z, L2.upd_same, nρ⟩
        · exact ⟨k1, k2.ext e2 (same _ hpP k2.there)⟩
    exact h h'.objs.size c' ((X.mg "__name__").getD .none) ctv _ _ I1 e2 s1 (Heap.get?_push_size _ rfl) ⟨c', oc, vs, t, rfl, Heap.get?_push_of_some _ hoc, hd, hv⟩
  | some cv =>
    obtain ⟨c', e, hco, _⟩ := ha pos cv hc
    subst e
    refine PySem.W.kla_makeFunctionHit (mg := X.mg) (c := c) (P := P) (ps := ps) (L2.closure_ok hfree) I.ok.glob (I.mod.glob.keeps I.bk) hcode (TB.code.keeps I.bk) hP' ht hc bP fun ctv h' tk hx hsz => ?_
    have I1 : Inv X pins σ H { s with heap := h'.push (PySem.W.kla_obj "<lambda>" (X.env.qual ++ "<lambda>") params body scope (L2.cloFrom X.env.cells scope.names []) ((X.mg "__name__").getD .none) c' ctv), toks := tk } := I.kept fun b o e => Heap.get?_push_of_some _ (hx b o e)
    obtain ⟨⟨oc, vs, t, h1, h2, h3⟩, _, _⟩ := I1.hok c' _ hco
    exact h h'.objs.size c' ((X.mg "__name__").getD .none) ctv H _ I1 (Ext.refl _ _) sr (Heap.get?_push_size _ rfl) ⟨c', oc, vs, t, rfl, h1, h2, h3⟩
/-- the key of one item: a call that keeps all -/
theorem lam_turn {q : PySem.Str} {params : Arguments} {body : Expr} {kx : KX} {pm ctv : Value} {A : Around} {v : V} {u : Value} {d z : D} {pd : PyData} {tk : Nat} (hK : X.K = T.K) (I : Inv X pins σ H s) (en : EnR T H ρ Ow σ env) (hL : LamP X.env.scope scope) (hq : q = X.env.qual ++ "<lambda>")
    (hx : scope.names.lookup x = some .local) (hbind : ∀ (q : PySem.Str) (cl : List (PySem.Str × Addr)) (pm cv ctv : Value) (u : Value), bindArgs (PySem.W.kla_fn "<lambda>" q params body scope cl pm cv ctv) ⟨[u], []⟩ = pure [(x, u)]) (hd : A.depth < recursionLimit)
    (lk : LK X.N X.env.scope scope x body kx) (hf : s.heap.get? f = some (PySem.W.kla_obj "<lambda>" q params body scope (L2.cloFrom X.env.cells scope.names []) pm c' ctv)) (hco : s.heap.CodeRec (.ref c') q)
    (kp : ∀ b o, s.heap.get? b = some o → h.get? b = some o) (ru : RelV v u) (rv : RV T H ρ Ow v d) (hz : kx.val env d = some z) (hpd : ∀ (g : Heap) (w : Value) (v' : V), RelV v' w → RV T H ρ Ow v' z → Reads g w pd []) :
    wpAny (model X.prog X.w) A (PySem.call (.ref f) [u]) (PySem.W.KeyPure pd { s with heap := h, toks := tk }) (fun _ _ => False) { s with heap := h, toks := tk } := by
  subst hq
  obtain ⟨c2, oc, vs, t, e2, hoc, hdc, hvc⟩ := hco
  cases e2
  have lim : h.NoLimit := I.nolimit.keeps kp
  refine wpAny_call (PySem.W.kla_callFunE hd (kp _ _ hf) rfl hL.co hL.gen rfl ⟨c', oc, vs, t, rfl, kp _ _ hoc, hdc, hvc⟩ ?_)
  rw [hbind]
  refine wpAny_pure (wpAny_newFunctionEnv (fun y hy => hL.own y hy) (fun y hy => ?_) (fun h₁ hns hsb => ⟨lim.fresh _ hsb, ?_⟩) hL.kind)
  · have e : y = (x, u) := by simpa using hy
    rw [e]; exact hx
  show codeAny _ _ (.expr body (lamEnv X scope h.objs.size f c')) _ _
  have k2 : ∀ b o, h.get? b = some o → h₁.get? b = some o := fun b o e => hsb.extBut b o (Nat.ne_of_lt (Heap.lt_size e)) (Heap.get?_push_of_some _ e)
  refine PySem.W.kla_codeExpr (lk_run (m := fun y => [(x, u)].reverse.lookup y) (h := h₁) hK I en hL (fun b o e => k2 b o (kp b o e)) hns (by simp) ru rv lk hz _ _ _ _ fun w v' tk' rw' rv' => ?_)
  exact ⟨h₁, tk', rfl, k2, hpd h₁ w v' rw' rv'⟩

theorem each_zip {R : Value → V × D → Prop} : ∀ {its : List Value} {vs : List V} {xs : List D}, Vals vs its → RVs T H ρ Ow vs xs → (∀ u v d, RelV v u → RV T H ρ Ow v d → R u (v, d)) → PySem.W.EachIs R its (vs.zip xs)
  | _, _, _, .nil, .nil, _ => .nil
  | _, _, _, .cons r rs, .cons q qs, h => .cons (h _ _ _ r q) (each_zip rs qs h)
theorem zip_snd {vs : List V} {xs : List D} (r : RVs T H ρ Ow vs xs) : (vs.zip xs).map Prod.snd = xs := by
  rw [List.map_snd_zip]
  exact Nat.le_of_eq r.length.symm
theorem each_vals {R : Value → V × D → Prop} (hR : ∀ u p, R u p → RelV p.1 u) : ∀ {its : List Value} {bs : List (V × D)}, PySem.W.EachIs R its bs → Vals (bs.map Prod.fst) its
  | _, _, .nil => .nil
  | _, _, .cons r rs => .cons (hR _ _ r) (each_vals hR rs)
theorem each_rvs {R : Value → V × D → Prop} (hR : ∀ u p, R u p → RV T H ρ Ow p.1 p.2) : ∀ {its : List Value} {bs : List (V × D)}, PySem.W.EachIs R its bs → RVs T H ρ Ow (bs.map Prod.fst) (bs.map Prod.snd)
  | _, _, .nil => .nil
  | _, _, .cons r rs => .cons (hR _ _ r) (each_rvs hR rs)
/-- sorted(l, key=f), f the lambda -/
theorem sorted_lam {q : PySem.Str} {params : Arguments} {body : Expr} {kx : KX} {pm ctv : Value} {l : Addr} {vs : List V} {xs : List D} {Q : VK} {E : Value → Shared → Prop} (pk : D → PyData) (le : D → D → Bool) (hK : X.K = T.K) (I : Inv X pins σ H s) (en : EnR T H ρ Ow σ env) (hL : LamP X.env.scope scope) (hq : q = X.env.qual ++ "<lambda>")
    (hx : scope.names.lookup x = some .local) (hbind : ∀ (q : PySem.Str) (cl : List (PySem.Str × Addr)) (pm cv ctv : Value) (u : Value), bindArgs (PySem.W.kla_fn "<lambda>" q params body scope cl pm cv ctv) ⟨[u], []⟩ = pure [(x, u)]) (hd : X.A.depth < recursionLimit) (hu : X.A.units + 70 < cLine)
    (lk : LK X.N X.env.scope scope x body kx) (hf : s.heap.get? f = some (PySem.W.kla_obj "<lambda>" q params body scope (L2.cloFrom X.env.cells scope.names []) pm c' ctv)) (hco : s.heap.CodeRec (.ref c') q)
    (hl : SqL T.K H l vs) (hz : vs.length ≤ LIM) (rs : RVs T H ρ Ow vs xs) (hpk : ∀ d ∈ xs, ∃ z, kx.val env d = some z ∧ ∀ (g : Heap) (w : Value) (v' : V), RelV v' w → RV T H ρ Ow v' z → Reads g w (pk d) [])
    (hal : PySem.W.AllAlike (xs.map pk)) (hsk : PySem.W.Sortable (xs.map pk)) (hdp : ∀ d ∈ xs, (pk d).depth ≤ 1) (hle : ∀ a b, PySem.W.dataLe false (fun p : V × D => pk p.2) a b = le a.2 b.2)
    (k : ∀ p ws, H p = none → ws.length ≤ LIM → RVs T H ρ Ow ws (xs.mergeSort le) → Q (.ref p) (upd H p (.lst ws))) :
    wpAny (model X.prog X.w) X.A (PySem.call (.builtin "sorted") [.ref l] [(PySem.Str.ofString "key", .ref f)]) (L2.EP X pins σ Q) E s := by
  obtain ⟨its, rv, pl, hz2⟩ := I.list (by rw [hK]; exact hl)
  have hsnd := zip_snd rs
  have hmk : (vs.zip xs).map (fun p : V × D => pk p.2) = xs.map pk := by
    have := congrArg (List.map pk) hsnd
    rw [List.map_map] at this
    exact this
  have hlen : (vs.zip xs).length = xs.length := by
    have := congrArg List.length hsnd
    rwa [List.length_map] at this
  have e1 : PySem.W.EachIs (fun (u : Value) (p : V × D) => RelV p.1 u ∧ RV T H ρ Ow p.1 p.2) its (vs.zip xs) := each_zip rv rs fun u v d r q => ⟨r, q⟩
  refine PySem.W.sorted_key_data (fun p : V × D => pk p.2) (b := false) pl.isList e1 (by rw [hmk]; exact hal) (by rw [hmk]; exact hsk) (by rw [hlen, ← rs.length]; exact hz2) (fun p hp => ?_) (PyProof.Rows.ksk_s1 _ _) (fun _ => PyProof.Rows.ksk_l1 _ _) (fun x => PyProof.Rows.ksk_t1 f x) (fun v p hR hp h tk kp => ?_) fun out cc h' tk kp fr ho hlo hE => ?_
  · have hp2 : p.2 ∈ xs := by rw [← hsnd]; exact List.mem_map_of_mem hp
    have := hdp _ hp2
    omega
  · have hp2 : p.2 ∈ xs := by rw [← hsnd]; exact List.mem_map_of_mem hp
    obtain ⟨z, hz3, hz4⟩ := hpk _ hp2
    exact lam_turn (A := X.A.in1.in1) hK I en hL hq hx hbind hd lk hf hco kp hR.1 hR.2 hz3 hz4
  · have hfn : PySem.W.dataLe false (fun p : V × D => pk p.2) = fun a b => le a.2 b.2 := by funext a b; exact hle a b
    rw [hfn] at hE
    have em : ((vs.zip xs).mergeSort fun a b => le a.2 b.2).map Prod.snd = xs.mergeSort le := by
      rw [PySem.W.sort_maps (s := le) Prod.snd (fun _ _ _ _ => rfl), hsnd]
    have rvs := each_rvs (T := T) (H := H) (ρ := ρ) (Ow := Ow) (fun u p h => h.2) hE
    rw [em] at rvs
    have vls := each_vals (fun u (p : V × D) (h : RelV p.1 u ∧ RV T H ρ Ow p.1 p.2) => h.1) hE
    have hln : (((vs.zip xs).mergeSort fun a b => le a.2 b.2).map Prod.fst).length = vs.length := by
      rw [List.length_map, List.length_mergeSort, hlen, rs.length]
    refine ⟨.ref _, _, I.laid (t' := tk) (a := s.heap.objs.size + 1) kp (Nat.le_succ _) (show L2.ObjOk X.prog X.w _ h' _ (.lst _) from ⟨by rw [hln]; exact hz2, out, cc, vls, ho⟩), rfl, k _ _ (I.hok.fresh (Nat.le_succ _)) (by rw [hln]; exact hz) rvs⟩
theorem je_sortK {q : PySem.Str} {kx : KX} {params : Arguments} {body e : Expr} {p lpos kpos pos : Pos} {sm : G.Sem} {str : Bool} (C : CxC X T N sc n) (TB : TabB X.base X.mg c P) (hcode : X.env.code = .ref c) (hq : q = X.env.qual ++ "<lambda>") (hT : (P, q) ∈ T.tabs) (hg : Gl X "sorted") (hm : X.mg "sorted" = none)
    (hL : LamP sc scope) (hx : scope.names.lookup x = some .local) (hdef : defaultsOf params X.env = ([], [])) (hbind : ∀ (q : PySem.Str) (cl : List (PySem.Str × Addr)) (pm cv ctv : Value) (u : Value), bindArgs (PySem.W.kla_fn "<lambda>" q params body scope cl pm cv ctv) ⟨[u], []⟩ = pure [(x, u)])
    (lk : LK N sc scope x body kx) (h : plainE e = true) (j : JE X T xf W e sm str) :
    JE X T xf W (.Call (.Name "sorted" p) [e] [⟨some "key", .Lambda params body scope lpos, kpos⟩] pos) (sortKE kx sm) true := by
  have hL' : LamP X.env.scope scope := by rw [C.eS]; exact hL
  have lk' : LK X.N X.env.scope scope x body kx := by rw [C.eS, C.eN]; exact lk
  refine .of C.toCxG ⟨fun pins s0 σ H Q I q0 => ?_⟩
  obtain ⟨env, st, ρ, Ow, en, sr, po⟩ := q0
  refine wpAny_Call_Name_kw (L2.ld_blt I hg hm (bi_blt .sorted) ?_ (by decide) (by decide))
  refine PyProof.Rows.callWith_kw (L2.thn ((L2.pa_cons j.val L2.pa_nil (plain_star h _ _)).run pos pins s0 σ H (fun vs H1 => ∃ v d st1 ρ1, vs = [v] ∧ Ext H ρ H1 ρ1 ∧ StR T H1 ρ1 Ow st1 ∧ RX str T H1 ρ1 Ow v d ∧
      Post ⟨T, xf, W, σ⟩ H1 ρ1 Ow (fun d _ H' ρ' => ∀ v, RX true T H' ρ' Ow v d → Q v H') (O.of (((listv st1 d).bind fun xs => sortK (fun x => kx.val env x) xs).map .lst) st1)) I
    ⟨env, st, ρ, Ow, en, sr, (Post.bind po).mono fun d st1 H1 ρ1 e1 s1 q1 v r => ⟨v, d, st1, ρ1, rfl, e1, s1, r, q1⟩⟩) fun us s1 ⟨vs, H1, I1, r1, q1⟩ => ?_) (by rw [plain_star h]; rfl) (by rw [plain_star h]; rfl) (by rfl) (by rfl)
  obtain ⟨v, d, st1, ρ1, rfl, e1, sr1, rx, q1⟩ := q1
  cases r1 with
  | cons ru rr =>
  cases rr
  obtain ⟨dz, hdz, q2⟩ := Post.of sr1 q1
  obtain ⟨ys, hys, e2⟩ := Option.map_eq_some_iff.mp hdz
  subst e2
  obtain ⟨xs, hxs, hso⟩ := Option.bind_eq_some_iff.mp hys
  obtain ⟨l, vs, rfl, hl, hz, rs⟩ := rx.w.list sr1 hxs
  cases ru
  have en1 := en.ext e1 sr.disj
  refine wpAny_evalAll_cons (wpAny_bind (lam_make3 I1 sr1 TB hcode hq hT hdef (hL'.has I1.ok) fun f c' pm ctv H2 s2 I2 e2 sr2 hf hco => wpAny_bind (wpAny_standAt (wpAny_pure (wpAny_evalAll_nil ?_)))))
  have rs2 : RVs T H2 ρ1 Ow vs xs := rs.ext e2
  have en2 := en1.ext e2 sr1.disj
  obtain ⟨l', vs2, ev, hl2, hz2, rs3⟩ := (RW.ext e2 rx.w).list sr2 hxs
  cases ev
  have hroom := C.room
  have hd : X.A.depth < recursionLimit := by have := hroom.dp; omega
  have hu : X.A.units + 70 < cLine := by have := hroom.un; omega
  have fin : ∀ le : D → D → Bool, ys = xs.mergeSort le → ∀ p ws, H2 p = none → ws.length ≤ LIM → RVs T H2 ρ1 Ow ws (xs.mergeSort le) → Q (.ref p) (upd H2 p (.lst ws)) := fun le hle p ws hp hwz hws => by
    have q3 : Post ⟨T, xf, W, σ⟩ H1 ρ1 Ow (fun d _ H' ρ' => ∀ v, RX true T H' ρ' Ow v d → Q v H') (O.of (some (D.lst ys)) st1) := by rw [← hdz]; exact q1
    rw [hle] at q3
    exact q3 _ ρ1 (e2.trans (Ext.new hp)) (sr2.new hp) _ (rv_lst hp (sr2.fresh hp).1 (sr2.fresh hp).2 hwz hws)
  unfold sortK at hso
  show wpAny _ _ (PySem.call (.builtin "sorted") [.ref l] [(PySem.Str.ofString "key", .ref f)]) _ _ _
  split at hso
  · rename_i hall
    have hall := List.all_eq_true.mp hall
    cases hso
    refine sorted_lam (fun d => .int ((dInt (kx.val env d)).getD 0)) _ C.eK I2 en2 hL' hq hx hbind hd hu lk' hf hco hl2 hz2 rs3 (fun d hd => ?_) (fun a ha b hb => ?_) (.inr fun a ha => ?_) (fun d _ => Nat.zero_le _) (fun a b => ?_) (fin _ rfl)
    · have z : (dInt (kx.val env d)).isSome = true := hall d hd
      cases hk : kx.val env d with
      | none => rw [hk] at z; cases z
      | some z0 =>
        rw [hk] at z
        cases z0 with
        | int i =>
          refine ⟨_, rfl, fun g w v' r rv => ?_⟩
          cases rv
          obtain ⟨t, rfl⟩ := r
          exact .int _ _
        | _ => cases z
    · obtain ⟨x1, _, rfl⟩ := List.mem_map.mp ha
      obtain ⟨x2, _, rfl⟩ := List.mem_map.mp hb
      rfl
    · obtain ⟨x1, _, rfl⟩ := List.mem_map.mp ha
      exact ⟨(fun z => by cases z), (fun xs z => by cases z)⟩
    · rw [PySem.W.dataLe_int fun p : V × D => (dInt (kx.val env p.2)).getD 0]
  · split at hso
    · rename_i hall
      have hall := List.all_eq_true.mp hall
      cases hso
      refine sorted_lam (fun d => .str ⟨((dStr (kx.val env d)).getD []).toArray⟩) _ C.eK I2 en2 hL' hq hx hbind hd hu lk' hf hco hl2 hz2 rs3 (fun d hd => ?_) (fun a ha b hb => ?_) (.inr fun a ha => ?_) (fun d _ => Nat.zero_le _) (fun a b => ?_) (fin _ rfl)
      · have z : (dStr (kx.val env d)).isSome = true := hall d hd
        cases hk : kx.val env d with
        | none => rw [hk] at z; cases z
        | some z0 =>
          rw [hk] at z
          cases z0 with
          | str i =>
            refine ⟨_, rfl, fun g w v' r rv => ?_⟩
            cases rv
            obtain ⟨t, rfl⟩ := r
            exact .str _ _
          | _ => cases z
      · obtain ⟨x1, _, rfl⟩ := List.mem_map.mp ha
        obtain ⟨x2, _, rfl⟩ := List.mem_map.mp hb
        rfl
      · obtain ⟨x1, _, rfl⟩ := List.mem_map.mp ha
        exact ⟨(fun z => by cases z), (fun xs z => by cases z)⟩
      · rw [PySem.W.dataLe_str fun p : V × D => (⟨((dStr (kx.val env p.2)).getD []).toArray⟩ : PySem.Str)]
    · cases hso
end
end G
/-! A law's entry: the law's def is called with the script. -/
namespace G
open PySem PySem.Spec PyProof.Rows
open L2 (V Hp HO upd SqL SqT Rd VK XK Inv RelV Vals Gl Room Env0 Mod HOk)
section
variable {P : Program} {w : World} {K : PySem.W.Frag} {mg mb : PySem.Str → Option Value} {k : Nat} {fa a : Addr} {fd : FuncData} {x : PySem.Str} {s : Shared} {vs : List Value} {ns : List Int} {T : Tb} {xf : Nat → List Nm} {cs : List (Addr × Addr)}
/-- the law's def returns True -/
def Trues (c : Fd) (ns : List Int) : Prop := ∃ st, c [.fl (ns.map .int)] [] = .ok (.bl true) st
/-- the tables of code objects that are asked -/
structure TabsAt (h : Heap) (K : PySem.W.Frag) (T : Tb) (cs : List (Addr × Addr)) : Prop where
  hT : ∀ p ∈ cs, h.get? p.2 = some { cls := .none, data := .fields #[] }
  nT : ∀ p ∈ cs, K.lookup p.2 = none
  code : ∀ p ∈ cs, PySem.W.CodeHd h p.1 p.2
  eT : T.tabs.map (·.1) = cs.map (·.2)
  nd : (cs.map (·.2)).Nodup
theorem law_callG {c : Fd} (KX : K.In s.heap) (hns : s.heap.Ns mainGlobals mg) (hb : s.heap.Ns builtinsNs mb) (hbb : ∀ x : PySem.Str, x ≠ "__name__" → mb x = bootBuiltins x) (hlim : s.heap.NoLimit) (hg : s.gens = #[]) (Z : TabsAt s.heap K T cs)
    (hbm : ∃ (bm : Addr) (ob : PySem.Obj), mg "__builtins__" = some (.ref bm) ∧ bm ≠ builtinsNs ∧ s.heap.get? bm = some ob ∧ ob.cls = .type "module" ∧ ob.dict = some builtinsNs ∧ ob.data = .plain)
    (ha : s.heap.get? a = some { cls := .type "list", data := .seq vs.toArray }) (hi : IntsAre vs ns) (hl : ns.length ≤ sizeLine) (hr : Room k callerA) (eK : T.K = K)
    (F : ∀ base : Heap, K.In base → base.Ns mainGlobals mg → (∀ p ∈ cs, LamX.TabB base mg p.1 p.2) → FnG ⟨P, w, K, mg, base, T, xf⟩ k fa fd [x] c) (hbind : ∀ (s : Shared) (u : Value), BindsTo s fd ⟨[u], []⟩ [(x, u)]) (ht : Trues c ns) :
    codeAny (model P w) callerA (.call (.ref fa) ⟨[.ref a], []⟩) (fun r s' => r = .ok (.ret (.bool true)) ∧ OldK s.heap s'.heap ∧ s'.os = s.os ∧ AllBare s'.gens) s := by
  have rv := L2.vals_ints hi
  have hlen := hi.length
  have isT : ∀ b : Addr, b ∈ cs.map (·.2) → s.heap.get? b = some { cls := .none, data := .fields #[] } := fun b hb => by
    obtain ⟨p, hp, e⟩ := List.mem_map.mp hb
    rw [← e]
    exact Z.hT p hp
  have aT : a ∉ cs.map (·.2) := fun z => by
    have q := isT a z
    rw [ha] at q
    have z' : Data.seq vs.toArray _ = Data.fields #[] := congrArg PySem.Obj.data (Option.some.inj q)
    cases z'
  have memT : ∀ p ∈ cs, p.2 ∈ cs.map (·.2) := fun p hp => List.mem_map.mpr ⟨p, hp, rfl⟩
  have core : ∀ H : Hp, (∀ b ∈ cs.map (·.2), H b = some (.tbl #[])) → (∀ b, H b = none ∨ b ∈ cs.map (·.2) ∨ ∃ o xs, H b = some (.frz o (.lst xs))) → StL T.K H (cs.map (·.2)) a (ns.map V.int) → HOk P w H s.heap → (∀ b, H b ≠ none → b = a ∨ b ∈ cs.map (·.2)) → (H a ≠ none → K.lookup a = none) →
      codeAny (model P w) callerA (.call (.ref fa) ⟨[.ref a], []⟩) (fun r s' => r = .ok (.ret (.bool true)) ∧ OldK s.heap s'.heap ∧ s'.os = s.os ∧ AllBare s'.gens) s := by
    intro H hH hO hS hok hA hK
    have base_of : ∀ {b : Addr} {o : PySem.Obj}, s.heap.get? b = some o → H b = none → (L2.hidT s.heap H).get? b = some o := fun e n => L2.hidT_get e n
    have noD : ∀ {b : Addr} {o : PySem.Obj}, s.heap.get? b = some o → (∀ vs n, o.data ≠ .seq vs n) → o.data ≠ .fields #[] → H b = none := fun {b o} e h1 h2 => by
      cases q : H b with
      | none => rfl
      | some u =>
        rcases hA b (by rw [q]; simp) with e' | e'
        · rw [e', ha] at e
          cases e
          exact (h1 _ _ rfl).elim
        · rw [isT b e'] at e
          cases e
          exact (h2 rfl).elim
    have noA : ∀ {b : Addr} {o : PySem.Obj} {es : Array DictEntry} {ep : Nat}, s.heap.get? b = some o → o.data = .dict es ep → H b = none := fun {b o es ep} e d => by
      refine noD e (fun vs n z => ?_) fun z => ?_
      · rw [d] at z; cases z
      · rw [d] at z; cases z
    have nsK : ∀ {b : Addr} {m : PySem.Str → Option Value}, s.heap.Ns b m → (L2.hidT s.heap H).Ns b m := fun {b m} ⟨o, es, ep, e, d, r⟩ => ⟨o, es, ep, base_of e (noA e d), d, r⟩
    have KB : K.In (L2.hidT s.heap H) := fun b o e => base_of (KX b o e) (by
      cases q : H b with
      | none => rfl
      | some u =>
        rcases hA b (by rw [q]; simp) with e' | e'
        · rw [e'] at e q
          rw [hK (by rw [q]; simp)] at e
          cases e
        · obtain ⟨p, hp, ep⟩ := List.mem_map.mp e'
          rw [← ep, Z.nT p hp] at e
          cases e)
    have M : Mod K mg (L2.hidT s.heap H) := ⟨KB, nsK hns, ⟨mb, nsK hb, hbb⟩, let ⟨mc, h1, h2⟩ := hlim; ⟨mc, nsK h1, h2⟩⟩
    have TB : ∀ p ∈ cs, LamX.TabB (L2.hidT s.heap H) mg p.1 p.2 := fun p hp => by
      have hTp := Z.hT p hp
      refine ⟨?_, ?_, fun z => ?_⟩
      · obtain ⟨o, us, file, tf, flags, tg, inF, text, tt, e1, r1, r2, r3, r4, r5, r6, r7, r8, hne⟩ := Z.code p hp
        refine ⟨o, us, file, tf, flags, tg, inF, text, tt, base_of e1 (noD e1 (fun vs n z => ?_) fun z => ?_), r1, r2, r3, r4, r5, r6, r7, r8, hne⟩
        · rw [r2] at z; cases z
        · rw [r2] at z
          cases z
          simp at r3
      · obtain ⟨bm, ob, b1, b2, b3, b4, b5, b6⟩ := hbm
        have nG : bm ≠ mainGlobals := fun q => by
          obtain ⟨o, es, ep, e, hd, _⟩ := hns
          rw [q, e] at b3
          cases b3
          rw [hd] at b6
          cases b6
        have nP : bm ≠ p.2 := fun q => by
          rw [q, hTp] at b3
          cases b3
          cases b6
        refine ⟨bm, ob, b1, b2, nG, nP, base_of b3 (noD b3 (fun vs n z => ?_) fun z => ?_), b4, b5, b6⟩
        · rw [b6] at z; cases z
        · rw [b6] at z; cases z
      · obtain ⟨o, es, ep, e, hd, _⟩ := hns
        rw [z, hTp] at e
        cases e
        cases hd
    have e0 : Env0 P w K mg (L2.hidT s.heap H) callerA [] s H := ⟨rfl, M, fun b o e => L2.of_hidT e, Nat.le_of_eq (L2.hidT_size _ _), trivial, fun b hb => by simp [L2.frs] at hb, hok, .of_eq hg⟩
    have want : Want T xf c [.ref a] H (fun v _ => v = .bl true) fun _ _ _ => False := by
      obtain ⟨st, e⟩ := ht
      have lenT : (cs.map (·.2)).length = T.tabs.length := by rw [← Z.eT, List.length_map]
      refine ⟨[], cs.map (·.2), [], [.fl (ns.map .int)], ⟨by rw [lenT]; simp, Z.nd, by simp, by simp, by simp, fun i p hp => ?_⟩, .cons (.fl hS (by rw [lim_line, List.length_map]; exact hl) (rvs_ints ns)) .nil, ?_⟩
      · have h1 : (cs.map (·.2))[i]? = some p.1 := by rw [← Z.eT, List.getElem?_map, hp]; rfl
        refine ⟨h1, #[], hH _ (List.mem_of_getElem? h1), trivial, fun pos cv hc => ?_⟩
        have z : codeAmong pos [] = some cv := hc
        simp [codeAmong] at z
      · rw [e]
        intro H' ρ' _ _ v r
        cases r
        rfl
    refine codeAny_mono ((F _ KB (nsK hns) TB).run callerA [] s H ⟨[.ref a], []⟩ [.ref a] [.ref a] _ _ hr rfl e0 (hbind s (.ref a)) (.cons rfl .nil) rfl want) fun r s' h => ?_
    cases r with
    | error e =>
      obtain ⟨_, _, _, _, _, _, _, _, _, _, _, _, z⟩ := h
      exact z.elim
    | ok fl =>
      cases fl with
      | ret u =>
        obtain ⟨v, H', os, bare, un, hok', r', q⟩ := h
        have q' : v = .bl true := q
        subst q'
        have eu : u = Value.bool true := r'
        subst eu
        have key : ∀ b o, b ∉ cs.map (·.2) → s.heap.get? b = some o → s'.heap.get? b = some o := fun b o nb e => by
          cases q : H b with
          | none => exact un.keep b o e q (by simp [L2.frs]) (by simp)
          | some u =>
            rcases hO b with z | z | ⟨ob, xs, z⟩
            · rw [q] at z; cases z
            · exact absurd z nb
            · have z2 := un.frzs b ob _ z
              obtain ⟨e1, _⟩ := hok b _ z
              obtain ⟨e2, _⟩ := hok' b _ z2
              rw [e] at e1; cases e1
              exact e2
        have grown : ∀ b ∈ cs.map (·.2), ∃ more : Array Value, s'.heap.get? b = some { cls := .none, data := .fields more } := fun b hb => by
          obtain ⟨more, z⟩ := un.tbls b #[] (hH b hb)
          exact ⟨_, hok' b _ z⟩
        refine ⟨rfl, ⟨fun b o e => ?_, fun b o e => ?_⟩, os, bare⟩
        · by_cases hb : b ∈ cs.map (·.2)
          · obtain ⟨p, hp, ep⟩ := List.mem_map.mp hb
            obtain ⟨more, hm⟩ := grown b hb
            rw [← ep] at e hm ⊢
            rw [Z.hT p hp] at e
            cases e
            exact .inr (.inl ⟨((Z.code p hp).tab (Z.hT p hp)).isCodeTable, rfl, #[], more, rfl, by rw [Array.empty_append]; exact hm⟩)
          · exact .inl (key b o hb e)
        · by_cases hb : b ∈ cs.map (·.2)
          · obtain ⟨more, hm⟩ := grown b hb
            exact ⟨_, hm⟩
          · exact ⟨o, key b o hb e⟩
      | _ => exact h.elim
  cases hk : K.lookup a with
  | some o =>
    have e := KX a o hk
    rw [ha] at e
    cases e
    refine core (fun b => if b ∈ cs.map (·.2) then some (.tbl #[]) else none) (fun b hb => if_pos hb) (fun b => ?_) (.inr fun H' => by rw [eK]; exact .inr ⟨_, vs.toArray, _, hk, rfl, rfl, rfl, by rw [List.size_toArray, hlen]; exact hl, by simpa using rv⟩) (fun b u z => ?_) (fun b z => ?_)
      fun z => absurd (show (if a ∈ cs.map (·.2) then some (HO.tbl #[]) else none) = none from if_neg aT) z
    · by_cases hb : b ∈ cs.map (·.2)
      · exact .inr (.inl hb)
      · exact .inl (if_neg hb)
    · by_cases hb : b ∈ cs.map (·.2)
      · have z' := (if_pos hb).symm.trans z
        cases z'
        exact isT b hb
      · have z' := (if_neg hb).symm.trans z
        cases z'
    · by_cases hb : b ∈ cs.map (·.2)
      · exact .inr hb
      · exact absurd (if_neg hb) z
  | none =>
    refine core (fun b => if b = a then some (.frz { cls := .type "list", data := .seq vs.toArray } (.lst (ns.map V.int))) else if b ∈ cs.map (·.2) then some (.tbl #[]) else none) (fun b hb => (if_neg (show ¬ b = a from fun z => aT (by rw [← z]; exact hb))).trans (if_pos hb)) (fun b => ?_)
      (.inl ⟨⟨{ cls := .type "list", data := .seq vs.toArray }, if_pos rfl⟩, aT⟩) (fun b u z => ?_) (fun b z => ?_) fun _ => hk
    · by_cases hb : b = a
      · exact .inr (.inr ⟨_, _, if_pos hb⟩)
      · by_cases hb2 : b ∈ cs.map (·.2)
        · exact .inr (.inl hb2)
        · exact .inl ((if_neg hb).trans (if_neg hb2))
    · by_cases hb : b = a
      · have z' := (if_pos hb).symm.trans z
        cases z'
        rw [hb]
        exact ⟨ha, by rw [List.length_map]; exact hl, vs, _, rv, ha⟩
      · have z1 := (if_neg hb).symm.trans z
        by_cases hb2 : b ∈ cs.map (·.2)
        · have z' := (if_pos hb2).symm.trans z1
          cases z'
          exact isT b hb2
        · have z' := (if_neg hb2).symm.trans z1
          cases z'
    · by_cases hb : b = a
      · exact .inl hb
      · by_cases hb2 : b ∈ cs.map (·.2)
        · exact .inr hb2
        · exact absurd ((if_neg hb).trans (if_neg hb2)) z
/-- a law, over a head by facts -/
theorem walk_ofG {l : PySem.W.OpenLaw} {n k : Nat} {q : Program} {loose : List PySem.Str} {XP : (PySem.Str → Option Value) → Heap → Prop} {YP : World → Heap → Prop} {d : DefRec} {x : PySem.Str}
    (hn : l.most = some n) (hn2 : n ≤ sizeLine) (hdf : d.params.defaults = []) (hr : Room k callerA) {c : Fd}
    (F : ∀ (w : World) (mg : PySem.Str → Option Value) (fa : Addr) (h : Heap), YP w h → h.Ns mainGlobals mg → mg d.name = some (.ref fa) →
      ∃ (K : PySem.W.Frag) (T : Tb) (xf : Nat → List Nm) (fd : FuncData) (cs : List (Addr × Addr)), K.In h ∧ T.K = K ∧ TabsAt h K T cs ∧ (∀ (s : Shared) (u : Value), BindsTo s fd ⟨[u], []⟩ [(x, u)]) ∧
        ∀ base : Heap, K.In base → base.Ns mainGlobals mg → (∀ p ∈ cs, LamX.TabB base mg p.1 p.2) → FnG ⟨l.prog, w, K, mg, base, T, xf⟩ k fa fd [x] c)
    (ht : ∀ ns : List Int, ns.length ≤ n → Trues c ns) :
    PySem.W.WalkO q loose XP YP l.row.toRowW d [] (fun f vs => PySem.call f vs) := by
  refine Att.attach_call hn hdf fun w s₀ s₁ mg mb fa o pm cd doc a vs ns G Y ho hd hcd hmg hobj hints hlen hg => ?_
  obtain ⟨K, T, xf, fd, cs, KX, eK, Z, hb, hF⟩ := F w mg fa _ Y G.T.g hmg
  exact law_callG KX G.T.g G.T.b G.T.builtins G.T.nolimit hg Z G.T.bmain hobj hints (Nat.le_trans hlen hn2) hr eK hF hb (ht ns hlen)
end
end G
/-! An own list that is let go: a plain value from here on. -/
namespace G
open PySem PySem.Spec PyProof.Rows
open L2 (V Hp HO upd SqL SqT Rd VK XK TE TT TA TI TS TG TGs Ends WX Cx PE PT PA PI PS PSs PG PGs Inv OpR CallR RelV Vals R2 PC PW)
section
variable {T : Tb} {H : Hp} {ρ Ow Ow0 : List Addr} {σ : L2.St} {env : Env} {st : Store}
theorem Fr.frz (f : Fr T Ow0 H ρ Ow σ env st) {i : Nat} {xs : List D} (e : env[i]? = some (.own xs)) :
    ∃ Ow', Step Ow0 H ρ Ow H ρ Ow' ∧ Fr T Ow0 H ρ Ow' σ (env.set i (.v (.lst xs))) st := by
  obtain ⟨a, vs, hσ, m, h, z, rs⟩ := f.en.own e
  have n0 := f.out i xs a e hσ
  have hn : a ∉ ρ := f.sr.disj a m
  have sub : ∀ b, b ∉ Ow → b ∉ Ow.filter (fun b => decide (b ≠ a)) := fun b hb h2 => hb (List.mem_filter.mp h2).1
  have na : a ∉ Ow.filter (fun b => decide (b ≠ a)) := fun h2 => by
    have := (List.mem_filter.mp h2).2
    simp at this
  have mem : ∀ b, b ∈ Ow → b ≠ a → b ∈ Ow.filter (fun b => decide (b ≠ a)) := fun b hb hne => List.mem_filter.mpr ⟨hb, by simpa using hne⟩
  refine ⟨Ow.filter (fun b => decide (b ≠ a)), ⟨⟨fun b o q n1 n2 => ⟨q, n1, sub b n2⟩, [], by simp⟩, fun b hb => ⟨rfl, mem b (f.sub b hb) fun e => n0 (by rw [← e]; exact hb)⟩⟩, ?_⟩
  have wk : ∀ {d : D} {v : V}, RV T H ρ Ow v d → RV T H ρ (Ow.filter (fun b => decide (b ≠ a))) v d := fun r => r.ow fun b _ _ h => sub b h
  have wks : ∀ {d : List D} {v : List V}, RVs T H ρ Ow v d → RVs T H ρ (Ow.filter (fun b => decide (b ≠ a))) v d := fun r => r.ow fun b _ _ h => sub b h
  have hi : i < env.length := (List.getElem?_eq_some_iff.mp e).1
  refine ⟨⟨by simp [f.en.len], fun j s h1 => ?_, fun j k ys zs b h1 h2 h3 h4 => ?_⟩, f.sr.ow (fun b _ _ h => sub b h) (fun b hb => sub b (f.sr.apart b hb)) (fun b hb => f.sr.lists b (List.mem_filter.mp hb).1), fun b hb => mem b (f.sub b hb) fun e => n0 (by rw [← e]; exact hb), fun j ys b h1 h2 => ?_⟩
  · by_cases hj : i = j
    · subst hj
      rw [List.getElem?_set_self hi] at h1
      cases h1
      rw [hσ]
      exact .lst h hn na z (wks rs)
    · rw [List.getElem?_set_ne hj] at h1
      have q := f.en.at_ j s h1
      cases s with
      | em =>
        cases hs : σ[j]? with
        | none => trivial
        | some o => cases o <;> trivial
      | v d =>
        cases hs : σ[j]? with
        | none => rw [hs] at q; exact q.elim
        | some o =>
          rw [hs] at q
          cases o with
          | none => exact q.elim
          | some v => exact wk q
      | own zs =>
        obtain ⟨b, ws, g1, g2, g3, g4, g5⟩ := f.en.own h1
        rw [g1]
        exact ⟨mem b g2 fun eb => by
          subst eb
          exact hj (f.en.apart i j xs zs b e h1 hσ g1), ws, g3, g4, wks g5⟩
      | xc c fs =>
        obtain ⟨b, dx, fl, g1, g2, g3⟩ := f.en.xc h1
        rw [g1]
        exact ⟨dx, fl, g2, g3.ow fun b _ _ h => sub b h⟩
  · have old : ∀ (j : Nat) (zs : List D), (env.set i (.v (.lst xs)))[j]? = some (.own zs) → env[j]? = some (.own zs) := fun j zs h => by
      by_cases hj : i = j
      · subst hj
        rw [List.getElem?_set_self hi] at h; cases h
      · rw [List.getElem?_set_ne hj] at h; exact h
    exact f.en.apart j k ys zs b (old j ys h1) (old k zs h2) h3 h4
  · by_cases hj : i = j
    · subst hj
      rw [List.getElem?_set_self hi] at h1; cases h1
    · rw [List.getElem?_set_ne hj] at h1
      exact f.out j ys b h1 h2
end
theorem frz_imp {w : WS} {i : Nat} {f : StS} : ∀ (Z : Ends) (σ : L2.St) (H : Hp), tStm w (frzS i f) Z σ H → tStm w f Z σ H := fun Z σ H ⟨env, st, ρ, Ow, fr, p⟩ => by
  have p : PostR w H ρ Ow Z (match env[i]? with
    | some (.own xs) => f (env.set i (.v (.lst xs))) st
    | _ => .bad) := p
  cases e : env[i]? with
  | none => rw [e] at p; exact p.elim
  | some s =>
    rw [e] at p
    cases s with
    | own xs =>
      obtain ⟨Ow', s1, f1⟩ := fr.frz e
      exact ⟨_, st, ρ, Ow', f1, PostR.later s1 p⟩
    | _ => exact p.elim
theorem jss_frz {X : Cx} {w : WS} {ss : List Stmt} {f : StS} (i : Nat) (j : JSs X w ss f) : JSs X w ss (frzS i f) := PSs.imp j frz_imp
theorem js_frz {X : Cx} {w : WS} {s : Stmt} {f : StS} (i : Nat) (j : JS X w s f) : JS X w s (frzS i f) := PS.imp j frz_imp
end G
/-! New lists that go out of a def, or come from a built-in. -/
namespace G
open PySem PySem.Spec PyProof.Rows
open L2 (V Hp HO upd SqL SqT Rd VK XK TE TT TA TI TS TG TGs Ends WX Cx PE PT PA PI PS PSs PG PGs Inv OpR CallR RelV Vals R2 PC PW Gl Room Env0)
theorem ls_sh {s : Sem} : ∀ env st d st', (lsE s).val env st = .ok d st' → ∃ xs, d = .lst xs := fun env st d st' h => by
  have h : ((s.val env st).bind fun d st => match d with
    | D.lst xs => O.ok (D.lst xs) st
    | _ => .bad) = .ok d st' := h
  cases e : s.val env st with
  | ok ds st1 =>
    rw [e] at h
    cases ds <;> first | (cases h; exact ⟨_, rfl⟩) | cases h
  | ex c fs st1 => rw [e] at h; cases h
  | bad => rw [e] at h; cases h
section
variable {X : Cx} {w : WS} {N : List PySem.Str} {sc : Scope} {n : Nat} {e : Expr} {pos p : Pos} {se : Sem} {x : PySem.Str} {i : Nat}
theorem jf_ls {T : Tb} {xf : Nat → List Nm} {W : WX} (j : JF X T xf W e se) : JF X T xf W e (lsE se) :=
  PE.imp j fun σ H Q ⟨env, st, ρ, Ow, en, sr, p⟩ => by
    refine ⟨env, st, ρ, Ow, en, sr, (Post.bind p).mono fun d st1 H1 ρ1 e1 s1 q => ?_⟩
    cases d with
    | lst xs =>
      obtain ⟨ys, e2, q⟩ := Post.ok s1 q
      cases e2
      exact ⟨_, rfl, q⟩
    | _ => exact q.elim
/-- return of a new list -/
theorem js_retF (j : JF X w.T w.xf w.W e se) (sh : ∀ env st d st', se.val env st = .ok d st' → ∃ xs, d = .lst xs) : JS X w (.Return (some e) pos) fun env st => (se.val env st).run env fun d st => .rt d st :=
  PS.imp (L2.ps_ret j) fun Z σ H ⟨env, st, ρ, Ow, fr, p⟩ => by
    refine ⟨env, st, ρ, Ow, fr.en, fr.sr, (PostR.run fr p).eqn.mono fun d st1 H1 ρ1 e1 s1 q => ?_⟩
    obtain ⟨eq, f1, q⟩ := q
    obtain ⟨xs, rfl⟩ := sh _ _ _ _ eq
    refine ⟨xs, rfl, fun p vs hp rs z => ?_⟩
    obtain ⟨g1, g2, g3⟩ := f1.newOw (vs := vs) hp
    cases hf : w.fre with
    | true =>
      refine q _ _ _ _ g1 g2.sr ?_
      rw [hf]
      exact ⟨p, vs, xs, rfl, rfl, List.mem_cons_self, g3, L2.upd_same, z, (rs.new hp).ext (Ext.new hp)⟩
    | false =>
      refine q _ _ _ _ (f1.step (Ext.new hp)) (f1.sr.new hp) ?_
      rw [hf]
      exact rv_lst hp (f1.sr.fresh hp).1 (f1.sr.fresh hp).2 z rs
/-- return of a slot's own list -/
theorem jss_retO (h : PE X e (L2.tVar i)) : JSs X w [.Return (some e) pos] (frzS i (seqS (retS (vE i)) passS)) := by
  refine PSs.imp (L2.pss_cons (L2.ps_ret h) L2.pss_nil) fun Z σ H ⟨env, st, ρ, Ow, fr, p⟩ => ?_
  have p : PostR w H ρ Ow Z (match env[i]? with
    | some (.own xs) => seqS (retS (vE i)) passS (env.set i (.v (.lst xs))) st
    | _ => .bad) := p
  cases e : env[i]? with
  | none => rw [e] at p; exact p.elim
  | some s =>
    rw [e] at p
    cases s with
    | own xs =>
      obtain ⟨a, vs, h1, m, h2, z, rs⟩ := fr.en.own e
      have n0 := fr.out i xs a e h1
      have hi : i < env.length := (List.getElem?_eq_some_iff.mp e).1
      have ev : seqS (retS (vE i)) passS (env.set i (.v (.lst xs))) st = .rt (.lst xs) st := by
        have e2 : Env.get (env.set i (.v (.lst xs))) i = some (D.lst xs) := by
          unfold Env.get
          rw [List.getElem?_set_self hi]
        show seqR ((O.of (Env.get (env.set i (.v (.lst xs))) i) st).run _ fun d st => .rt d st) passS = _
        rw [e2]
        rfl
      have p : PostR w H ρ Ow Z (seqS (retS (vE i)) passS (env.set i (.v (.lst xs))) st) := p
      rw [ev] at p
      refine ⟨.ref a, h1, ?_⟩
      cases hf : w.fre with
      | true =>
        refine p _ _ _ _ fr.refl fr.sr ?_
        rw [hf]
        exact ⟨a, vs, xs, rfl, rfl, m, n0, h2, z, rs⟩
      | false =>
        obtain ⟨Ow', s1, f1⟩ := fr.frz e
        refine p _ _ _ _ s1 f1.sr ?_
        rw [hf]
        obtain ⟨v, hv, r⟩ := f1.en.get (i := i) (d := .lst xs) (by unfold Env.get; rw [List.getElem?_set_self hi])
        rw [h1] at hv
        cases hv
        exact r
    | _ => exact p.elim
end
section
variable {Y : Wd} {X : Cx} {W : WX} {N : List PySem.Str} {sc : Scope} {n k : Nat}
variable {x : PySem.Str} {f : Addr} {fd : FuncData} {ps : List PySem.Str} {c : Fd} {p pos : Pos} {e : Expr} {es : List Expr} {ss : List Sem}
theorem args_wantF (C : CxY X Y W N sc n) {σ : L2.St} {H : Hp} {Q : VK} (hl : ss.length = ps.length) (q : tFre Y.T Y.xf W (many ss c) σ H Q) :
    tArg Y.T Y.xf W (args ss) σ H fun vs H1 => vs.length = ps.length ∧ WantX true Y.T Y.xf c vs H1 Q (L2.WE W σ) := by
  obtain ⟨env, st, ρ, Ow, en, sr, p⟩ := q
  refine ⟨env, st, ρ, Ow, en, sr, (Post.bind p).eqn.mono fun ds st1 H1 ρ1 e1 s1 q vs rs => ?_⟩
  refine ⟨by rw [rs.length, args_len q.1, hl], st1, ρ1, Ow, ds, s1, rs, ?_⟩
  have q2 := q.2
  cases hc : c ds st1 with
  | ok d st2 => rw [hc] at q2; exact q2
  | ex cc fs st2 => rw [hc] at q2; exact q2
  | bad => rw [hc] at q2; exact q2
theorem run_fnF {pins : List (Addr × PySem.Obj)} {σ : L2.St} {H : Hp} {s : Shared} {Q : VK} {pos us : List Value} {kw : List (PySem.Str × Value)} {vs : List V} (C : CxY X Y W N sc n) (F : FnX true Y k f fd ps c) (hk : k ≤ n)
    (hb : BindsTo s fd ⟨pos, kw⟩ (ps.zip us)) (I : Inv X pins σ H s) (r : Vals vs us) (hl : vs.length = ps.length) (h : WantX true Y.T Y.xf c vs H Q (L2.WE W σ)) :
    wpAny (model X.prog X.w) X.A (PySem.call (.ref f) pos kw) (L2.EP X pins σ Q) X.xe s := by
  refine wpAny_call ?_
  have e0 : Env0 Y.P Y.w Y.K Y.mg Y.base X.A X.stack s H := by
    have q := I.env0
    rw [C.eP, C.ew, C.eKY, C.em, C.eb] at q
    exact q
  have go := F.run X.A X.stack s H ⟨pos, kw⟩ us vs Q (L2.WE W σ) (C.room.mono hk) C.guards e0 hb r hl h
  rw [← C.eP, ← C.ew] at go
  refine codeAny_mono go fun res s' hq => ?_
  cases res with
  | error e => exact C.pass σ pins H s e s' I hq
  | ok fl =>
    cases fl with
    | ret u => exact I.after hq
    | _ => exact hq.elim
theorem jf_call (C : CxY X Y W N sc n) (F : FnX true Y k f fd ps c) (hk : k ≤ n) (B : Fk Y x f fd ps) (hg : Gl X x) (hl : ss.length = ps.length) (js : JEs X Y.T Y.xf W es ss) :
    JF X Y.T Y.xf W (.Call (.Name x p) es [] pos) (callE c ss) := by
  refine ⟨fun pins s σ H Q I q => ?_⟩
  have q1 := args_wantF C hl q
  have hm : X.mg x = some (.ref f) := by rw [C.em]; exact B.mg
  have hkp : PySem.W.keepIn X.K (.ref f) = true := by rw [C.eKY]; exact B.keep
  have bind : ∀ (s : Shared) (us : List Value), Y.K.In s.heap → us.length = ps.length → BindsTo s fd ⟨us, []⟩ (ps.zip us) := fun s us hK hu => by
    have b := B.binds s us hK (by rw [List.append_nil]; exact hu)
    rw [List.append_nil] at b
    exact b
  refine wpAny_Call_Name_kw (L2.ld_glob I hg hm ?_ B.ne)
  cases js with
  | nil =>
    obtain ⟨env, st, ρ, Ow, en, sr, po⟩ := q1
    obtain ⟨h1, h2⟩ := Post.ok sr po [] .nil
    exact PySem.W.callWith_K0 I.kIn hkp (run_fnF (us := []) C F hk (bind s [] (by rw [← C.eKY]; exact I.kIn) (by rw [← h1]; rfl)) I .nil h1 h2)
  | @cons e0 s0 es0 ss0 h j js =>
    refine PySem.W.callWith_K (h₀ := X.base) I.ok.mod.kin hkp (L2.thn ((pa_args (.cons h j js)).run pos pins s σ H _ I q1) fun us s1 ⟨vs, H1, I1, r, h1, h2⟩ => ⟨I1.kIn, ?_⟩) (plain_star h _ _) (plain_all js)
    exact run_fnF C F hk (bind s1 us (by rw [← C.eKY]; exact I1.kIn) (by rw [← r.length]; exact h1)) I1 r h1 h2
end
/-! ### built-ins -/
def rBiF (T : Tb) (f : Store → List D → Option D) : List V → Hp → VK → Prop := fun vs H Q => ∃ st ρ Ow ds xs, StR T H ρ Ow st ∧ RWs T H ρ Ow vs ds ∧ f st ds = some (.lst xs) ∧ ∀ p us, H p = none → RVs T H ρ Ow us xs → us.length ≤ LIM → Q (.ref p) (upd H p (.lst us))
section
variable {X : Cx} {T : Tb} {xf : Nat → List Nm} {W : WX} {N : List PySem.Str} {sc : Scope} {n : Nat} {p pos : Pos} {es : List Expr} {ss : List Sem}
theorem cr_listF (hK : X.K = T.K) : CallR X (.type "list") (rBiF T (bi .list)) := by
  intro pins s σ H xs us Q I r ⟨st, ρ, Ow, ds, zs, sr, rs, e, k⟩
  simp only [bi] at e
  split at e <;> try contradiction
  obtain ⟨ys, hy, e2⟩ := Option.map_eq_some_iff.mp e
  cases e2
  obtain ⟨v, rfl, r1⟩ := rs.one
  obtain ⟨a, vs, rfl, q, z, rr⟩ := r1.seq sr hy
  exact L2.call_list_of pins s σ H _ us Q I r ⟨a, vs, rfl, sqE hK q, fun l hl => k l vs hl rr z⟩
theorem biF_imp {f : Bi} {σ : L2.St} {H : Hp} {Q : VK} (q : tFre T xf W (lsE (biE f ss)).val σ H Q) : tArgW T xf W (args ss) σ H fun vs H1 => rBiF T (bi f) vs H1 Q := by
  obtain ⟨env, st, ρ, Ow, en, sr, p⟩ := q
  have p := Post.bind (Post.bind p)
  refine ⟨env, st, ρ, Ow, en, sr, p.mono fun ds st1 H1 ρ1 e1 s1 q vs rs => ?_⟩
  obtain ⟨dz, e, q⟩ := Post.of s1 q
  cases dz with
  | lst xs =>
    obtain ⟨ys, e3, q⟩ := Post.ok s1 q
    cases e3
    exact ⟨st1, ρ1, Ow, ds, xs, s1, rs, e, fun p us hp r z => q p us hp r z⟩
  | _ => exact q.elim
theorem jf_list (C : CxG X T N sc n) (hg : Gl X "list") (hm : X.mg "list" = none) (hne : es ≠ []) (js : JWs X T xf W es ss) :
    JF X T xf W (.Call (.Name "list" p) es [] pos) (lsE (biE .list ss)) := by
  cases js with
  | nil => exact absurd rfl hne
  | cons h j js =>
    exact PE.imp (L2.pe_callTy (cr_listF C.eK) hg hm (bi_blt .list) (pa_argsW (.cons h j js)) (bi_ne .list) (bi_nd .list) (plain_star h _ _) (plain_allW js)) fun σ H Q q => biF_imp q
end
end G
/-! a + b of lists, as a new list. -/
namespace G
open PySem PySem.Spec PyProof.Rows
open L2 (V Hp HO upd SqL SqT Rd VK XK TE TT TA TI TS TG TGs Ends WX Cx PE PT PA PI PS PSs PG PGs Inv OpR CallR RelV Vals R2 PC PW Gl)
def rCatF (T : Tb) : R2 := fun x y H Q => ∃ st ρ Ow dx dy xs, StR T H ρ Ow st ∧ RW T H ρ Ow x dx ∧ RW T H ρ Ow y dy ∧ op2 .add st dx dy = some (.lst xs) ∧ ∀ p us, H p = none → RVs T H ρ Ow us xs → us.length ≤ LIM → Q (.ref p) (upd H p (.lst us))
section
variable {X : Cx} {T : Tb} {xf : Nat → List Nm} {W : WX} {N : List PySem.Str} {sc : Scope} {n : Nat} {pos : Pos} {a b : Expr} {sa sb : G.Sem} {ra rb : Bool}
theorem or_catF (hK : X.K = T.K) : OpR X (binaryOp .Add) (rCatF T) := by
  intro pins s σ H x y v u Q I rx ry ⟨st, ρ, Ow, dx, dy, zs, sr, wx, wy, e, k⟩
  have ux := wx.view sr
  have uy := wy.view sr
  simp only [op2] at e
  generalize G.view st dx = ex at ux e
  generalize G.view st dy = ey at uy e
  split at e
  · cases e
  · split at e <;> cases e
  · split at e <;> cases e
  · split at e
    · rename_i hl
      cases e
      obtain ⟨a, vs, rfl, q1, z1, r1⟩ := ux.lst
      obtain ⟨b, us, rfl, q2, z2, r2⟩ := uy.lst
      have hz : vs.length + us.length ≤ LIM := by rw [r1.length, r2.length]; exact hl
      exact L2.op_cat pins s σ H _ _ v u Q I rx ry ⟨a, b, vs, us, rfl, rfl, q1, q2, by rw [← lim_line]; exact hz, fun p hp => k p _ hp (r1.append r2) (by rw [List.length_append]; exact hz)⟩
    · cases e
  · cases e
theorem jf_cat (C : CxG X T N sc n) (ja : JE X T xf W a sa ra) (jb : JE X T xf W b sb rb) : JF X T xf W (.BinOp a .Add b pos) (lsE (opE .add sa sb)) :=
  PE.imp (L2.pe_op (or_catF C.eK) ja.val jb.val) fun σ H Q ⟨env, st, ρ, Ow, en, sr, p⟩ => by
    have p := Post.bind p
    refine ⟨env, st, ρ, Ow, en, sr, (Post.bind p).mono fun d st1 H1 ρ1 e1 s1 q v r1 => ?_⟩
    refine ⟨env, st1, ρ1, Ow, en.ext e1 sr.disj, s1, (Post.bind q).mono fun d2 st2 H2 ρ2 e2 s2 q2 v2 r2 => ?_⟩
    obtain ⟨dz, e, q3⟩ := Post.of s2 q2
    cases dz with
    | lst xs =>
      obtain ⟨ys, e3, q4⟩ := Post.ok s2 q3
      cases e3
      exact ⟨st2, ρ2, Ow, d, d2, xs, s2, (RX.ext e2 r1).w, r2.w, e, fun p us hp r z => q4 p us hp r z⟩
    | _ => exact q3.elim
end
end G
/-! list(range(..)). -/
namespace G
open PySem PySem.Spec PyProof.Rows
open L2 (V Hp HO upd SqL SqT Rd VK XK TE TT TA TI TS TG TGs Ends WX Cx PE PT PA PI PS PSs PG PGs Inv OpR CallR RelV Vals R2 PC PW Gl Room)
section
variable {X : Cx} {Y : Wd} {T : Tb} {xf : Nat → List Nm} {W : WX} {N : List PySem.Str} {sc : Scope} {n k : Nat} {e a b : Expr} {es : List Expr} {p p2 pos apos cpos : Pos} {s t : G.Sem} {ss : List G.Sem} {str str2 : Bool}
theorem rvs_rg {H : Hp} {ρ Ow : List Addr} (i j : Int) : RVs T H ρ Ow (L2.rgV i j) (rangeD i j) := by
  unfold L2.rgV rangeD
  generalize List.range (j - i).toNat = l
  induction l with
  | nil => exact .nil
  | cons x r ih => exact .cons (.int _) ih
theorem rg_ok {i j : Int} (h : -(LIM : Int) ≤ i ∧ i ≤ LIM ∧ -(LIM : Int) ≤ j ∧ j ≤ LIM) (h0 : 0 ≤ i) : L2.RgOk i j ∧ (L2.rgV i j).length ≤ LIM := by
  have h1 : (LIM : Int) = 16777216 := by unfold LIM; rfl
  have h2 : LIM = 16777216 := by unfold LIM; rfl
  refine ⟨⟨by omega, by omega, by omega, by omega, by omega⟩, ?_⟩
  rw [L2.rgV_length]; omega
/-- what is made of a range's ends -/
theorem lrng1_imp {st1 : Store} {σ : L2.St} {H1 : Hp} {ρ1 Ow : List Addr} {d : D} {v : V} {P : D → Store → Hp → List Addr → Prop} (s1 : StR T H1 ρ1 Ow st1) (r : RV T H1 ρ1 Ow v d) (q : Post ⟨T, xf, W, σ⟩ H1 ρ1 Ow P ((rngI [d] st1).bind fun xs st => .ok (.lst xs) st)) :
    ∃ i, v = .int i ∧ L2.RgOk 0 i ∧ (L2.rgV 0 i).length ≤ LIM ∧ Post ⟨T, xf, W, σ⟩ H1 ρ1 Ow P (.ok (.lst (rangeD 0 i)) st1) := by
  cases d with
  | int i =>
    cases r
    have q' : Post ⟨T, xf, W, σ⟩ H1 ρ1 Ow P ((if -(LIM : Int) ≤ i ∧ i ≤ LIM then O.ok (rangeD 0 i) st1 else .bad).bind fun xs st => .ok (.lst xs) st) := q
    split at q'
    · rename_i h
      have h0 : -(LIM : Int) ≤ 0 ∧ (0 : Int) ≤ LIM := by omega
      obtain ⟨g1, g2⟩ := rg_ok (i := 0) (j := i) ⟨h0.1, h0.2, h.1, h.2⟩ (Int.le_refl 0)
      exact ⟨i, rfl, g1, g2, q'⟩
    · exact q'.elim
  | _ => exact q.elim
theorem je_lrng1 (C : CxG X T N sc n) (hc : X.calm = true) (hg : Gl X "range") (hm : X.mg "range" = none) (hg2 : Gl X "list") (hm2 : X.mg "list" = none) (h : plainE a = true) (j : JE X T xf W a s true) :
    JE X T xf W (.Call (.Name "list" p2) [.Call (.Name "range" p) [a] [] pos] [] cpos) (lrngE [s]) true :=
  .of C (PE.imp (L2.pe_listRg hc hg2 hm2 (L2.prg_1 hg hm j.val (plain_star h _ _)) (by rfl)) fun σ H Q ⟨env, st, ρ, Ow, en, sr, po⟩ => by
    refine ⟨env, st, ρ, Ow, en, sr, (Post.bind (Post.bind po)).mono fun d st1 H1 ρ1 e1 s1 q v r => ?_⟩
    have q1 := Post.ok s1 (Post.ok s1 (Post.bind q))
    obtain ⟨i, ev, g1, g2, q2⟩ := lrng1_imp s1 r q1
    exact ⟨i, ev, g1, fun p hp => q2 _ ρ1 (Ext.new hp) (s1.new hp) _ (rv_lst hp (s1.fresh hp).1 (s1.fresh hp).2 g2 (rvs_rg _ _))⟩)
theorem jf_lrng1 (C : CxG X T N sc n) (hc : X.calm = true) (hg : Gl X "range") (hm : X.mg "range" = none) (hg2 : Gl X "list") (hm2 : X.mg "list" = none) (h : plainE a = true) (j : JE X T xf W a s true) :
    JF X T xf W (.Call (.Name "list" p2) [.Call (.Name "range" p) [a] [] pos] [] cpos) (lrngE [s]) :=
  PE.imp (L2.pe_listRg hc hg2 hm2 (L2.prg_1 hg hm j.val (plain_star h _ _)) (by rfl)) fun σ H Q ⟨env, st, ρ, Ow, en, sr, po⟩ => by
    refine ⟨env, st, ρ, Ow, en, sr, (Post.bind (Post.bind po)).mono fun d st1 H1 ρ1 e1 s1 q v r => ?_⟩
    have q1 := Post.ok s1 (Post.ok s1 (Post.bind q))
    obtain ⟨i, ev, g1, g2, q2⟩ := lrng1_imp s1 r q1
    refine ⟨i, ev, g1, fun p hp => ?_⟩
    obtain ⟨xs, ex, q3⟩ := Post.ok s1 q2
    cases ex
    exact q3 p _ hp (rvs_rg _ _) g2
theorem lrng_sh {ss : List G.Sem} : ∀ env st d st', (lrngE ss).val env st = .ok d st' → ∃ xs, d = .lst xs := fun env st d st' h => by
  have h : ((args ss env st).bind fun ds st => (rngI ds st).bind fun xs st => O.ok (G.D.lst xs) st) = .ok d st' := h
  cases e : args ss env st with
  | ok ds st1 =>
    rw [e] at h
    have h : ((rngI ds st1).bind fun xs st => O.ok (G.D.lst xs) st) = .ok d st' := h
    cases e2 : rngI ds st1 with
    | ok xs st2 => rw [e2] at h; cases h; exact ⟨_, rfl⟩
    | ex c fs st1 => rw [e2] at h; cases h
    | bad => rw [e2] at h; cases h
  | ex c fs st1 => rw [e] at h; cases h
  | bad => rw [e] at h; cases h
end
end G
/-! A new list that goes into the store. -/
namespace G
open PySem PySem.Spec PyProof.Rows
open L2 (V Hp HO upd SqL SqT Rd VK XK TE TT TA TI TS TG TGs Ends WX Cx PE PT PA PI PS PSs PG PGs Inv OpR CallR RelV Vals R2 PC PW Gl Room Env0)
section
variable {X : Cx} {N : List PySem.Str} {sc scope : Scope} {n : Nat} {elt iter tg : Expr} {ifs : List Expr} {pos : Pos} {T : Tb} {xf : Nat → List Nm} {W : WX} {s : Sem}
theorem je_nw (C : CxG X T N sc n) (sh : ∀ env st d st', s.val env st = .ok d st' → ∃ xs, d = .lst xs) (h : JF X T xf W (.ListComp elt [⟨tg, iter, ifs, 0⟩] scope pos) s) : JE X T xf W (.ListComp elt [⟨tg, iter, ifs, 0⟩] scope pos) (nwE s) true :=
  .of C (PE.imp h fun σ H Q ⟨env, st, ρ, Ow, en, sr, po⟩ => by
    refine ⟨env, st, ρ, Ow, en, sr, ?_⟩
    have po : Post ⟨T, xf, W, σ⟩ H ρ Ow (fun d _ H1 ρ1 => ∀ v, RV T H1 ρ1 Ow v d → Q v H1) ((s.val env st).bind newO) := po
    cases hf : s.val env st with
    | ok d st1 =>
      obtain ⟨xs, rfl⟩ := sh _ _ _ _ hf
      rw [hf] at po
      have po : Post ⟨T, xf, W, σ⟩ H ρ Ow (fun d _ H1 ρ1 => ∀ v, RV T H1 ρ1 Ow v d → Q v H1) (newV xs st1) := po
      unfold newV at po
      split at po
      · rename_i hc
        intro H1 ρ1 e1 s1
        exact ⟨xs, rfl, fun p vs hp rs z => by
          have e := Ext.newS (ρ := ρ1) (o := .lst vs) hp
          exact po _ (ρ1 ++ [p]) (e1.trans e) (s1.push hp ⟨hc.1, vs, L2.upd_same, z, rs.ext e⟩) _ (.loc (by rw [← s1.len, List.getElem?_concat_length]))⟩
      · exact po.elim
    | ex c fs st1 => rw [hf] at po; exact po
    | bad => rw [hf] at po; exact po)
end
end G
/-! Dict displays: {}, {k: v}. -/
namespace G
open PySem PySem.Spec PyProof.Rows
open L2 (V Hp HO upd SqL SqT Rd VK XK TE TT TA TI TS TG TGs Ends WX Cx PE PT PA PI PS PSs PG PGs Inv OpR CallR RelV Vals R2 PC PW Gl)
section
variable {X : Cx} {T : Tb} {xf : Nat → List Nm} {W : WX} {N : List PySem.Str} {sc : Scope} {n : Nat} {pos : Pos} {a b : Expr} {sa sb : G.Sem}
/-- names and constants: nothing happens -/
structure Still (X : Cx) (T : Tb) (e : Expr) (s : G.Sem) : Prop where
  ex : ∃ t : TE, PE X e t ∧ ∀ (σ : L2.St) (H : Hp) (ρ Ow : List Addr) (env : Env) (st : Store), EnR T H ρ Ow σ env → s.val env st = .bad ∨ ∃ d v, s.val env st = .ok d st ∧ RV T H ρ Ow v d ∧ ∀ (H' : Hp) (Q : VK), Q v H' → t σ H' Q
theorem still_v {i : Nat} {x : PySem.Str} (h : PE X (.Name x pos) (L2.tVar i)) : Still X T (.Name x pos) (vE i) :=
  ⟨_, h, fun σ H ρ Ow env st en => by
    show (O.of (env.get i) st = .bad) ∨ _
    cases e : env.get i with
    | none => exact .inl rfl
    | some d =>
      obtain ⟨v, hv, r⟩ := en.get e
      refine .inr ⟨d, v, ?_, r, fun H' Q q => ⟨v, hv, q⟩⟩
      show O.of (env.get i) st = _
      rw [e]; rfl⟩
theorem still_k {c : Const} {d : D} {j : Nat} (h : conD c = some d) : Still X T (.Constant c j pos) (kE d) := by
  have key : ∀ {v : V}, PE X (.Constant c j pos) (L2.tC v) → (∀ H ρ Ow, RV T H ρ Ow v d) → Still X T (.Constant c j pos) (kE d) := fun {v} hp r => ⟨_, hp, fun σ H ρ Ow env st en => .inr ⟨d, v, rfl, r H ρ Ow, fun H' Q q => q⟩⟩
  cases c with
  | none => cases h; exact key L2.pe_non fun _ _ _ => .non
  | bool b => cases h; exact key L2.pe_bl fun _ _ _ => .bl b
  | int i => cases h; exact key L2.pe_int fun _ _ _ => .int i
  | str s =>
    have h' : (if s.cps.toList.length ≤ LIM ∧ s.cps.toList.all okCode = true then some (D.str s.cps.toList) else none) = some d := h
    split at h'
    · rename_i hl
      cases h'
      refine key L2.pe_str fun H ρ Ow => ?_
      have := RV.str (T := T) (H := H) (ρ := ρ) (Ow := Ow) s.cps.toList hl.1 hl.2
      simpa using this
    · cases h'
  | _ => cases h
theorem je_dct0 (C : CxG X T N sc n) : JE X T xf W (.Dict [] [] pos) dct0E true :=
  .of C (PE.imp L2.pe_dnewK fun σ H Q ⟨env, st, ρ, Ow, en, sr, p⟩ q hq => by
    have f := sr.fresh hq
    exact p _ ρ (Ext.new hq) (sr.new hq) _ (.dct (kvs := []) L2.upd_same f.1 f.2 rfl .nil))
theorem je_dct1 (C : CxG X T N sc n) (ja : Still X T a sa) (jb : Still X T b sb) : JE X T xf W (.Dict [some a] [b] pos) (dct1E sa sb) true := by
  obtain ⟨ta, pa, ga⟩ := ja.ex
  obtain ⟨tb, pb, gb⟩ := jb.ex
  refine .of C (PE.imp (L2.pe_disp (L2.pps_cons pa pb L2.pps_nil) rfl rfl (by simp) (Nat.le_of_ble_eq_true rfl)) fun σ H Q ⟨env, st, ρ, Ow, en, sr, p⟩ q hq => ?_)
  have f := sr.fresh hq
  have p : Post ⟨T, xf, W, σ⟩ H ρ Ow (fun d _ H' ρ' => ∀ v, RX true T H' ρ' Ow v d → Q v H') ((sa.val env st).bind fun x st => (sb.val env st).bind fun y st => dct1V x y st) := p
  rcases ga σ H ρ Ow env st en with h | ⟨d, v, h, r, g⟩
  · rw [h] at p; exact p.elim
  rw [h] at p
  have p : Post ⟨T, xf, W, σ⟩ H ρ Ow (fun d _ H' ρ' => ∀ v, RX true T H' ρ' Ow v d → Q v H') ((sb.val env st).bind fun y st => dct1V d y st) := p
  rcases gb σ H ρ Ow env st en with h2 | ⟨d2, v2, h2, r2, g2⟩
  · rw [h2] at p; exact p.elim
  rw [h2] at p
  have p : Post ⟨T, xf, W, σ⟩ H ρ Ow (fun d _ H' ρ' => ∀ v, RX true T H' ρ' Ow v d → Q v H') (if keyOk d = true then .ok (.dct [d] [d2]) st else .bad) := p
  split at p
  · rename_i hk
    have hkey : ∃ k : L2.Key, v = L2.kV k ∧ keyD k = d := by
      cases d with
      | int i => cases r; exact ⟨.inl i, rfl, rfl⟩
      | str s => cases r; exact ⟨.inr _, rfl, rfl⟩
      | _ => cases hk
    obtain ⟨k, rfl, hd⟩ := hkey
    refine g _ _ (g2 _ _ ⟨L2.upd_same, [(k, v2)], rfl, Nat.le_of_ble_eq_true rfl, ?_⟩)
    have e : upd (upd H q (.dK [])) q (.dK (L2.mergeK [] [(k, v2)])) = upd H q (.dK [(k, v2)]) := by
      funext z
      by_cases hz : z = q
      · subst hz
        rw [L2.upd_same, L2.upd_same]; rfl
      · rw [L2.upd_ne hz, L2.upd_ne hz, L2.upd_ne hz]
    rw [e]
    refine p _ ρ (Ext.new hq) (sr.new hq) _ (.dct (kvs := [(k, v2)]) L2.upd_same f.1 f.2 (by rw [← hd]; rfl) (.cons (r2.ext (Ext.new hq)) .nil))
  · exact p.elim
end
end G
/-! Within an except suite: the exception's class and attribute, defs that it is passed to. -/
namespace G
open PySem PySem.Spec PyProof.Rows
open L2 (V Hp HO upd SqL SqT Rd VK XK TE TT TA TI TS TG TGs Ends WX Cx PE PT PA PI PS PSs PG PGs Inv OpR CallR RelV Vals R2 PC PW Sp Room Env0 CR FnScope cxOf Binds Gl)
/-- the exception that is handled is pinned -/
def HotAt (X : Cx) (T : Tb) (xf : Nat → List Nm) : Prop := ∃ (a : Addr) (dx : Option Addr) (c : Nat) (oe : PySem.Obj), T.hx = some (a, dx, c, xf c) ∧ (a, oe) ∈ X.pn ∧ L2.Zc (.ref (T.exc c)) dx oe ∧ ∃ fv, oe.data = .fields fv
/-- what an exception class says -/
structure XcF (K : PySem.W.Frag) (C : Addr) : Prop where
  cl : (PySem.W.clsIn K C).isSome = true
  ga : PySem.W.findIn K (.ref C) "__getattribute__" = some (some (.builtin "BaseException.__getattribute__"))
  gt : PySem.W.findIn K (.ref C) "__getattr__" = some none
  sb : PySem.W.subIn K (.ref C) (.type "BaseException") = some true
  ca : PySem.W.findIn K (.ref C) "__class__" = some (some (.builtin "object.__class__"))
  gn : PySem.W.specialIn K (.builtin "object.__class__") "__get__" = some (some (.builtin "getset_descriptor.__get__"))
  tk : PySem.W.takesIn K (.builtin "object.__class__") = some true
  mo : PySem.W.mroIn K C (.type "object") = some true
  hd : PySem.W.hasDictIn K C = true
  ty : PySem.W.typeIn K (.ref C) = some (.type "type")
section
variable {X : Cx} {K : PySem.W.Frag} {T : Tb} {xf : Nat → List Nm} {W : WX} {N : List PySem.Str} {sc : Scope} {n k : Nat} {Γ : Ctx} {x y f : PySem.Str} {e : Expr} {p p2 py pos apos : Pos} {i : Nat} {a D : Addr} {dx : Option Addr} {oe : PySem.Obj} {H : Hp} {s : Shared} {pins : List (Addr × PySem.Obj)} {σ : L2.St}
/-- the exception as an instance -/
theorem xc_inst (I : Inv X pins σ H s) (hp : (a, oe) ∈ X.pn) (hz : L2.Zc (.ref D) dx oe) (hf : ∃ fv, oe.data = .fields fv) (hd : ∀ d, dx = some d → ∃ fs, H d = some (.xd fs)) : ∃ od, PySem.W.InstAt s.heap a oe D od := by
  have hget := (I.pin (a, oe) (List.mem_append_left _ hp)).1
  obtain ⟨fv, e1⟩ := hf
  have hn : PySem.W.notCls oe = true := by
    unfold PySem.W.notCls
    rw [e1] <;> rfl
  cases dx with
  | none => exact ⟨none, hget, hz.1, hn, by rw [hz.2] <;> trivial⟩
  | some d =>
    obtain ⟨fs, hx⟩ := hd d rfl
    have q : L2.ObjOk X.prog X.w H s.heap d (.xd fs) := I.hok d _ hx
    obtain ⟨mA, hns, _⟩ := q
    obtain ⟨od, ho, _⟩ := L2.lookIn_ns hns
    exact ⟨some od, hget, hz.1, hn, by rw [hz.2]; exact ho⟩
def rXis (K : PySem.W.Frag) (D a : Addr) (dx : Option Addr) : List V → Hp → VK → Prop := fun xs H Q => ∃ (c : V) (u : Value) (b : Bool), xs = [.ref a, c] ∧ L2.ClsV c u ∧ XcF K D ∧ PySem.W.kitOne K (.ref D) u = some b ∧ (∀ d, dx = some d → ∃ fs, H d = some (.xd fs)) ∧ Q (.bl b) H
theorem cr_xis (hp : (a, oe) ∈ X.pn) (hz : L2.Zc (.ref D) dx oe) (hf : ∃ fv, oe.data = .fields fv) : CallR X (.builtin "isinstance") (rXis X.K D a dx) := by
  intro pins s σ H xs us Q I r ⟨c, u, b, ex, hv, F, hk, hd, q⟩
  subst ex
  match us, r with
  | [u1, u2], .cons r1 (.cons r2 .nil) =>
    obtain rfl : u1 = Value.ref a := r1
    obtain rfl := hv.eq r2
    obtain ⟨od, J⟩ := xc_inst I hp hz hf hd
    exact PySem.W.kia_one (PySem.W.kitx_exc F.cl F.ga F.gt F.sb F.ca F.gn F.tk F.mo) I.kIn J hk (fun z => nomatch z) fun tk => ⟨.bl b, H, I.kept (t' := tk) fun _ _ z => z, rfl, q⟩
theorem xcr_dict {ρ Ow : List Addr} {fl : List Nm} {fs : List G.D} (h : XcR T H ρ Ow dx fl fs) : ∀ d, dx = some d → ∃ fs, H d = some (.xd fs) := by
  intro d e
  subst e
  unfold XcR at h
  split at h
  · rename_i e; cases e
  · rename_i e
    cases e
    obtain ⟨v, h1, _⟩ := h
    exact ⟨_, h1⟩
  · exact h.elim
/-- isinstance(e, T), e the exception -/
theorem je_xis {τ : Ty} {u : Value} {c : V} (C : CxG X T N sc n) (Hh : HotAt X T xf) (hs : ∀ c b, xisV Γ c τ = some b → XcF X.K (T.exc c) ∧ PySem.W.kitOne X.K (.ref (T.exc c)) u = some b) (hv : L2.ClsV c u) (hg : Gl X "isinstance") (hm : X.mg "isinstance" = none) (hc : PE X (.Name x p2) (L2.tC c)) (hy : PE X (.Name y py) (L2.tVar i)) :
    JE X T xf W (.Call (.Name "isinstance" p) [.Name y py, .Name x p2] [] pos) (xisE Γ i τ) true := by
  obtain ⟨a, dx, c0, oe, hx, hp, hz, hf⟩ := Hh
  refine .of C (PE.imp (L2.pe_callB (cr_xis hp hz hf) hg hm PyProof.Rows.boot_isinstance (L2.pa_cons hy (L2.pa_cons hc L2.pa_nil (by rfl)) (plain_star rfl _ _)) (by decide) (by decide) (plain_star rfl _ _) (by rfl)) fun σ H Q ⟨env, st, ρ, Ow, en, sr, po⟩ => ?_)
  cases hi : env[i]? with
  | none => simp only [hi] at po; exact po.elim
  | some sl =>
    cases sl with
    | xc c1 fs =>
      obtain ⟨a1, dx1, fl, h1, h2, h3⟩ := en.xc hi
      rw [hx] at h2
      cases h2
      simp only [hi] at po
      obtain ⟨d, e1, q⟩ := Post.of sr po
      obtain ⟨b, e2, e3⟩ := Option.map_eq_some_iff.mp e1
      subst e3
      obtain ⟨F, hk⟩ := hs _ _ e2
      exact ⟨.ref a, h1, c, u, b, rfl, hv, F, hk, xcr_dict h3, q _ (.bl b)⟩
    | _ => simp only [hi] at po; exact po.elim
/-- e.f, e the exception -/
def tXat (K : PySem.W.Frag) (a D : Addr) (dx : Option Addr) (f : PySem.Str) (te : TE) : TE := fun σ H Q => te σ H fun z H1 => z = .ref a ∧ XcF K D ∧ PySem.W.findIn K (.ref D) f = some none ∧ ∃ (d : Addr) (fs : List (PySem.Str × V)) (v : V), dx = some d ∧ H1 d = some (.xd fs) ∧ fs.lookup f = some v ∧ Q v H1
theorem pe_xat {te : TE} (hp : (a, oe) ∈ X.pn) (hz : L2.Zc (.ref D) dx oe) (hf : ∃ fv, oe.data = .fields fv) (he : PE X e te) (hb : attributeBase e f X.env (eval e X.env) = eval e X.env) : PE X (.Attribute e f pos) (tXat X.K a D dx f te) := by
  refine ⟨fun pins s σ H Q I h => L2.attr_of hb (L2.thn (he.run pins s σ H _ I h) fun u s1 ⟨z, H1, I1, rz, ez, F, hno, d, fs, v, ed, ea, l, q⟩ => ?_)⟩
  subst ez ed
  obtain rfl : u = Value.ref a := rz
  have hx : L2.ObjOk X.prog X.w H1 s1.heap d (.xd fs) := I1.hok d _ ea
  obtain ⟨mA, hns, hr⟩ := hx
  obtain ⟨od, ho, hl⟩ := L2.lookIn_ns hns
  obtain ⟨w, hw, rw'⟩ := L2.RelO.some_of (v := v) (o := mA f) (by rw [← l]; exact hr f)
  have hn : PySem.W.notCls oe = true := by
    obtain ⟨fv, e1⟩ := hf
    unfold PySem.W.notCls
    rw [e1] <;> rfl
  have J : PySem.W.InstAt s1.heap a oe D (some od) := ⟨(I1.pin (a, oe) (List.mem_append_left _ hp)).1, hz.1, hn, by rw [hz.2]; exact ho⟩
  refine PySem.HandSPX.exc_get I1.kIn J F.ga F.gt F.sb (PySem.W.findObj_own F.hd hno rfl (by rw [hl, hw])) (L2.handed_of rw') ?_
  exact ⟨v, H1, I1.tok _, rw', q⟩
theorem je_xat {fn : Nm} (C : CxG X T N sc n) (Hh : HotAt X T xf) (hs : ∀ c q, Γ.exs c = some q → q.field = [fn] → xf c = [fn] ∧ XcF X.K (T.exc c) ∧ PySem.W.findIn X.K (.ref (T.exc c)) f = some none) (hnm : T.nm fn = f) (hy : PE X (.Name y py) (L2.tVar i)) :
    JE X T xf W (.Attribute (.Name y py) f pos) (xatE Γ fn i) true := by
  obtain ⟨a, dx, c0, oe, hx, hp, hz, hf⟩ := Hh
  refine .of C (PE.imp (pe_xat hp hz hf hy (by rfl)) fun σ H Q ⟨env, st, ρ, Ow, en, sr, po⟩ => ?_)
  cases hi : env[i]? with
  | none => simp only [hi] at po; exact po.elim
  | some sl =>
    cases sl with
    | xc c1 fs =>
      obtain ⟨a1, dx1, fl, h1, h2, h3⟩ := en.xc hi
      rw [hx] at h2
      cases h2
      match fs, po, h3, hi with
      | [d], po, h3, hi =>
        simp only [hi] at po
        cases hq : Γ.exs c0 with
        | none => simp only [hq] at po; exact po.elim
        | some q =>
          simp only [hq] at po
          by_cases hfl : q.field = [fn]
          · rw [if_pos hfl] at po
            obtain ⟨e1, F, hno⟩ := hs _ _ hq hfl
            rw [e1] at h3
            unfold XcR at h3
            cases dx with
            | none => exact h3.elim
            | some d0 =>
              obtain ⟨v, g1, _, _, r⟩ := h3
              rw [hnm] at g1
              exact ⟨.ref a, h1, rfl, F, hno, d0, _, v, rfl, g1, by simp [List.lookup], Post.ok sr po v r⟩
          · rw [if_neg hfl] at po; exact po.elim
      | [], po, _, hi => simp only [hi] at po; exact po.elim
      | _ :: _ :: _, po, _, hi => simp only [hi] at po; exact po.elim
    | _ => simp only [hi] at po; exact po.elim
end
/-! ### defs that an exception is passed to -/
def WantH (T : Tb) (xf : Nat → List Nm) (c : Fd) (dx : Option Addr) (cn : Nat) (vs : List V) (H : Hp) (Q : VK) : Prop :=
  ∃ st ρ Ow ds fs, StR T H ρ Ow st ∧ RVs T H ρ Ow vs ds ∧ XcR T H ρ Ow dx (xf cn) fs ∧ Post ⟨T, xf, W0, []⟩ H ρ Ow (fun d _ H' ρ' => ∀ v, RV T H' ρ' Ow v d → Q v H') (c (.exc cn fs :: ds) st)
def Tb.hot (T : Tb) (xf : Nat → List Nm) (a : Addr) (dx : Option Addr) (cn : Nat) : Tb := { T with hx := some (a, dx, cn, xf cn) }
structure FnHot (Y : Wd) (k : Nat) (f : Addr) (fd : FuncData) (ps : List PySem.Str) (c : Fd) : Prop where
  run : ∀ (A : Around) (outer : List PySem.Env) (s : Shared) (H : Hp) (args : Args) (us : List Value) (vs : List V) (Q : VK) (a : Addr) (dx : Option Addr) (cn : Nat) (oe : PySem.Obj), L2H.RoomH k A → A.guards = some [] → L2H.PinOk outer H s (a, oe) → L2.Zc (.ref (Y.T.exc cn)) dx oe → (∃ fv, oe.data = .fields fv) →
    Env0 Y.P Y.w Y.K Y.mg Y.base A outer s H → BindsTo s fd args (ps.zip (.ref a :: us)) → Vals vs us → vs.length + 1 = ps.length → WantH (Y.T.hot Y.xf a dx cn) Y.xf c dx cn vs H Q →
    codeAny (model Y.P Y.w) A (.call (.ref f) args) (CR (L2.CX Y.P Y.w) outer Y.P Y.w H s Q fun _ _ _ => False) s
theorem FnHot.mono {Y : Wd} {j k : Nat} {f : Addr} {fd : FuncData} {ps : List PySem.Str} {c : Fd} (F : FnHot Y j f fd ps c) (h : j ≤ k) : FnHot Y k f fd ps c :=
  ⟨fun A outer s H args us vs Q a dx cn oe hr => F.run A outer s H args us vs Q a dx cn oe (hr.mono h)⟩
section
variable {Y : Wd} {N ps : List PySem.Str} {qual : PySem.Str} {scope : Scope} {f : Addr} {cdv : Value} {k : Nat}
theorem start_xc {T : Tb} {H : Hp} {ρ Ow : List Addr} {vs : List V} {ds : List D} {st : Store} {m : Nat} {a : Addr} {dx : Option Addr} {cn : Nat} {fl : List Nm} {fs : List D} (hm : N.length = m) (hl : vs.length + 1 ≤ m) (hx : T.hx = some (a, dx, cn, fl)) (xr : XcR T H ρ Ow dx fl fs) (sr : StR T H ρ Ow st) (rs : RVs T H ρ Ow vs ds) :
    Fr T Ow H ρ Ow (L2.start N (.ref a :: vs)) (.xc cn fs :: (ds.map Sl.v ++ List.replicate (m - (ds.length + 1)) .em)) st := by
  have e1 := rs.length
  have tail : ∀ (i : Nat) (s : Sl), (ds.map Sl.v ++ List.replicate (m - (ds.length + 1)) Sl.em)[i]? = some s → (∃ d, s = .v d ∧ ds[i]? = some d) ∨ s = .em := fun i s h => by
    by_cases hi : i < (ds.map Sl.v).length
    · rw [List.getElem?_append_left hi, List.getElem?_map] at h
      obtain ⟨d, h1, h2⟩ := Option.map_eq_some_iff.mp h
      exact .inl ⟨d, h2.symm, h1⟩
    · rw [List.getElem?_append_right (by omega), List.getElem?_replicate] at h
      split at h
      · exact .inr (Option.some.inj h).symm
      · cases h
  have own0 : ∀ (i : Nat) (xs : List D), (Sl.xc cn fs :: (ds.map Sl.v ++ List.replicate (m - (ds.length + 1)) .em))[i]? ≠ some (.own xs) := fun i xs h => by
    cases i with
    | zero => cases h
    | succ i =>
      rw [List.getElem?_cons_succ] at h
      rcases tail i _ h with ⟨d, z, _⟩ | z <;> cases z
  refine ⟨⟨?_, fun i s h => ?_, fun i j xs ys b h1 _ _ _ => absurd h1 (own0 i xs)⟩, sr, fun b hb => hb, fun i xs b h1 _ => absurd h1 (own0 i xs)⟩
  · unfold L2.start
    simp only [List.length_append, List.length_map, List.length_replicate, List.length_cons]
    omega
  · cases i with
    | zero =>
      rw [List.getElem?_cons_zero] at h
      cases h
      exact ⟨dx, fl, hx, xr⟩
    | succ i =>
      rw [List.getElem?_cons_succ] at h
      rcases tail i _ h with ⟨d, rfl, hd⟩ | rfl
      · obtain ⟨v, hv, r⟩ := rs.get hd
        have hi2 := (List.getElem?_eq_some_iff.mp hv).1
        have e2 : (L2.start N (.ref a :: vs))[i + 1]? = some (some v) := by
          unfold L2.start
          rw [List.getElem?_append_left (by simpa using hi2), List.getElem?_map, List.getElem?_cons_succ, hv]; rfl
        rw [e2]
        exact r
      · cases (L2.start N (.ref a :: vs))[i + 1]? with
        | none => trivial
        | some o => cases o <;> trivial
theorem fnHot_of {name : PySem.Str} {params : Arguments} {body : List Stmt} {dV kV doc pm ct oc : Value} {an od : Option Addr} {osl : Array (Option Value)} {g : StS} {c : Fd} {m : Nat}
    (lk : Y.K.lookup f = some ⟨oc, od, .func (PySem.W.fnOf name qual params body scope dV kV doc pm an cdv ct), osl⟩) (hcd : PySem.W.codeIn Y.K cdv qual = true) (S : FnScope N ps scope) (hm : N.length = m) (eK : Y.K = Y.T.K)
    (hc : ∀ cn fs ds st, ds.length + 1 = ps.length → c (.exc cn fs :: ds) st = (match g (.xc cn fs :: (ds.map Sl.v ++ List.replicate (m - (ds.length + 1)) .em)) st with
      | .rt d st => .ok d st
      | .nx _ st => .ok .non st
      | _ => .bad))
    (hbody : ∀ (X : Cx) (a : Addr) (dx : Option Addr) (cn : Nat) (Ow0 : List Addr), CxG X (Y.T.hot Y.xf a dx cn) N scope k → (∀ x, X.fn x = true) → HotAt X (Y.T.hot Y.xf a dx cn) Y.xf → X.prog = Y.P → X.w = Y.w → X.K = Y.K → X.mg = Y.mg → X.base = Y.base → JSs X ⟨Y.T.hot Y.xf a dx cn, Y.xf, W0, Ow0, false⟩ body g) :
    FnHot Y (k + 1) f (PySem.W.fnOf name qual params body scope dV kV doc pm an cdv ct) ps c := by
  refine ⟨fun A outer s H args us vs Q a dx cn oe hr hgd hpin hz hf e0 hb r hl ⟨st, ρ, Ow, ds, fs, sr, rs, xr, p⟩ => ?_⟩
  have grown : ∀ b o, Y.base.get? b = some o → s.heap.get? b = some o := fun b o e => (e0.bs b o e).1
  have KX : Y.K.In s.heap := e0.mod.kin.keeps grown
  have kinds : ∀ z ∈ ps.zip (.ref a :: us), scope.names.lookup z.1 = some .local ∨ (scope.names.lookup z.1 = some .cell ∧ ((cellsFrom (s.heap.objs.size + 1) scope.names []).lookup z.1).isSome = true) := by
    rintro ⟨x, v⟩ hz
    rcases S.par x (List.of_mem_zip hz).1 with q | q
    · exact .inl q
    · exact .inr ⟨q, PySem.W.cellsFrom_some _ _ _ (.inl q)⟩
  have hpl : ps.length ≤ m := by
    have q := congrArg List.length S.pre
    rw [List.length_take, hm] at q
    omega
  refine codeAny_call_function hr.depth (KX _ _ lk) rfl S.co S.gen rfl (PySem.W.codeRec_of KX hcd) (hb _ _ _ _ (wpAny_newFunctionEnv_cells S.kind kinds fun env he s1 x => ?_))
  subst he
  refine ⟨(e0.mod.nolimit.keeps grown).keeps x.toInCall.keep, codeAny_func ?_⟩
  have hlen : (V.ref a :: vs).length = ps.length := hl
  generalize hX : L2H.cxH (L2.CX Y.P Y.w) Y.P Y.w Y.K Y.mg Y.base N qual scope f cdv A outer s H (fun _ _ _ => False) (a, oe) = X
  have I : Inv X [] (L2.start N (.ref a :: vs)) H s1 := by rw [← hX]; exact L2H.inv_startH S hpin e0 hlen (.cons rfl r) x
  have C0 : CxG X (Y.T.hot Y.xf a dx cn) N scope k := by
    subst hX
    exact ⟨eK, rfl, S.nd, rfl, hr.deeper _, hgd⟩
  have J := hbody X a dx cn Ow C0 (fun _ => by rw [← hX]; rfl) ⟨a, dx, cn, oe, rfl, by rw [← hX]; exact List.mem_cons_self, hz, hf⟩ (by rw [← hX]; rfl) (by rw [← hX]; rfl) (by rw [← hX]; rfl) (by rw [← hX]; rfl) (by rw [← hX]; rfl)
  have hds : ds.length + 1 = ps.length := by rw [← rs.length]; exact hl
  have wish : tStm ⟨Y.T.hot Y.xf a dx cn, Y.xf, W0, Ow, false⟩ g { nx := fun _ H' => Q .non H', rt := Q } (L2.start N (.ref a :: vs)) H := by
    refine ⟨_, st, ρ, Ow, start_xc hm (by rw [hl]; exact hpl) rfl xr sr rs, ?_⟩
    rw [hc cn fs ds st hds] at p
    revert p
    generalize g (.xc cn fs :: (ds.map Sl.v ++ List.replicate (m - (ds.length + 1)) .em)) st = r0
    intro p
    cases r0 with
    | rt d st1 => exact body_want (xf := Y.xf) (E := fun _ _ _ => False) (r := .rt d st1) sr.disj rfl p
    | nx e st1 => exact body_want (xf := Y.xf) (E := fun _ _ _ => False) (r := .nx e st1) sr.disj rfl p
    | _ => exact p.elim
  have done := J.run [] s1 _ H _ I wish
  subst hX
  refine wpAny_mono done (fun fl s' hs => ?_) fun e s' hs => hs
  cases fl with
  | ret u =>
    obtain ⟨v, σ', H', I', rv, q⟩ := hs
    exact ⟨v, H', I'.os, I'.bare, I'.base, I'.hok, rv, q⟩
  | next =>
    obtain ⟨σ', H', I', q⟩ := hs
    exact ⟨V.non, H', I'.os, I'.bare, I'.base, I'.hok, rfl, q⟩
  | brk =>
    obtain ⟨_, _, _, q⟩ := hs
    exact q.elim
  | cont =>
    obtain ⟨_, _, _, q⟩ := hs
    exact q.elim
end
section
variable {X : Cx} {Y : Wd} {N : List PySem.Str} {sc : Scope} {n k : Nat} {x y : PySem.Str} {f : Addr} {fd : FuncData} {ps : List PySem.Str} {c : Fd} {p py pos : Pos} {es : List Expr} {ss : List G.Sem} {i : Nat}
/-- f(e, ..), e the exception -/
theorem je_xcall (C : CxG X Y.T N sc n) (eP : X.prog = Y.P) (ew : X.w = Y.w) (eK : X.K = Y.K) (em : X.mg = Y.mg) (eb : X.base = Y.base) (Hh : HotAt X Y.T Y.xf) (F : FnHot Y k f fd ps c) (hk : k ≤ n) (B : Fk Y x f fd ps) (hg : Gl X x) (hl : ss.length + 1 = ps.length) (hy : PE X (.Name y py) (L2.tVar i)) (js : JEs X Y.T Y.xf W0 es ss) :
    JE X Y.T Y.xf W0 (.Call (.Name x p) (.Name y py :: es) [] pos) (xcallE c i ss) true := by
  obtain ⟨a, dx, cn, oe, hx, hp, hz, hf⟩ := Hh
  have hm : X.mg x = some (.ref f) := by rw [em]; exact B.mg
  have hkp : PySem.W.keepIn X.K (.ref f) = true := by rw [eK]; exact B.keep
  have hT : Y.T.hot Y.xf a dx cn = Y.T := by
    unfold Tb.hot
    rw [← hx]
  refine .of C ⟨fun pins s σ H Q I ⟨env, st, ρ, Ow, en, sr, po⟩ => ?_⟩
  cases hi : env[i]? with
  | none => simp only [hi] at po; exact po.elim
  | some sl =>
    cases sl with
    | xc c1 fs =>
      obtain ⟨a1, dx1, fl, h1, h2, h3⟩ := en.xc hi
      rw [hx] at h2
      cases h2
      simp only [hi] at po
      have q1 : tArg Y.T Y.xf W0 (args ss) σ H fun vs H1 => vs.length + 1 = ps.length ∧ WantH Y.T Y.xf c dx cn vs H1 Q := by
        refine ⟨env, st, ρ, Ow, en, sr, (Post.bind po).eqn.mono fun ds st1 H1 ρ1 e1 s1 q vs rs => ?_⟩
        refine ⟨by rw [rs.length, args_len q.1, hl], st1, ρ1, Ow, ds, fs, s1, rs, h3.ext e1, ?_⟩
        have q2 := q.2
        cases hcall : c (.exc cn fs :: ds) st1 with
        | ok d st2 => rw [hcall] at q2; exact q2
        | ex cc fs st2 => rw [hcall] at q2; exact q2
        | bad => rw [hcall] at q2; exact q2
      refine wpAny_Call_Name_kw (L2.ld_glob I hg hm ?_ B.ne)
      refine PySem.W.callWith_K (h₀ := X.base) I.ok.mod.kin hkp (L2.thn ((L2.pa_cons hy (pa_args js) (plain_star rfl _ _)).run pos pins s σ H (fun vs H1 => ∃ ws, vs = .ref a :: ws ∧ ws.length + 1 = ps.length ∧ WantH Y.T Y.xf c dx cn ws H1 Q) I ⟨.ref a, h1, ?_⟩) fun us s1 ⟨vs, H1, I1, r, ws, ev, g1, g2⟩ => ⟨I1.kIn, ?_⟩) (plain_star rfl _ _) (plain_all js)
      · obtain ⟨env, st, ρ, Ow, en, sr, po⟩ := q1
        exact ⟨env, st, ρ, Ow, en, sr, po.mono fun ds st1 H1 ρ1 e1 s1 q vs rs => ⟨vs, rfl, q vs rs⟩⟩
      · subst ev
        match us, r with
        | u0 :: us, .cons r0 r =>
          obtain rfl : u0 = Value.ref a := r0
          have P1 := I1.pin (a, oe) (List.mem_append_left _ hp)
          have pin : L2H.PinOk X.stack H1 s1 (a, oe) := ⟨P1.1, P1.2.1, fun hq => (List.mem_cons.mp (I1.stkSub a hq)).elim P1.2.2.1 P1.2.2.2.1, P1.2.2.2.2⟩
          have e0 : Env0 Y.P Y.w Y.K Y.mg Y.base X.A X.stack s1 H1 := by
            have q := I1.env0
            rw [eP, ew, eK, em, eb] at q
            exact q
          have b := B.binds s1 (.ref a :: us) (by rw [← eK]; exact I1.kIn) (by rw [List.append_nil, ← g1, List.length_cons, r.length])
          rw [List.append_nil] at b
          have go := F.run X.A X.stack s1 H1 ⟨.ref a :: us, []⟩ us ws Q a dx cn oe (C.rm.mono hk) C.guards pin hz hf e0 b r g1 (by rw [hT]; exact g2)
          rw [← eP, ← ew] at go
          refine wpAny_call (codeAny_mono go fun res s' hq => ?_)
          cases res with
          | error e =>
            obtain ⟨_, _, _, _, _, _, _, _, _, _, _, _, z⟩ := hq
            exact z.elim
          | ok fl =>
            cases fl with
            | ret u => exact I1.after hq
            | _ => exact hq.elim
    | _ => simp only [hi] at po; exact po.elim
end
end G
/-! try: .., several clauses with a name. -/
namespace G
open PySem PySem.Spec PyProof.Rows
open L2 (V Hp HO upd SqL SqT Rd VK XK TE TT TA TI TS TG TGs Ends WX Cx PE PT PA PI PS PSs PG PGs Inv OpR CallR RelV Vals R2 PC PW Sp Room Env0 CR FnScope cxOf Binds Gl Names Takes SP Zc Sky frs)
abbrev Suite : Type := Addr → Value → Option Addr → TS
/-- behind a suite the name is gone -/
def outE (i : Nat) (D : Ends) : Ends := { nx := fun σ H => D.nx (σ.set i none) H, rt := D.rt, bk := fun σ H => D.bk (σ.set i none) H, ct := fun σ H => D.ct (σ.set i none) H }
/-- what the clauses want of an exception: one of them takes it -/
def wN (K : PySem.W.Frag) (i : Nat) (D : Ends) : List (Value × Suite) → WX
  | [], _, _, _, _ => False
  | (c, ts) :: r, cls, d, σ, H => ∃ b, PySem.W.exmOne K cls c = some b ∧ (b = true → ∀ a, H a = none → ts a cls d (outE i D) (σ.set i (some (.ref a))) H) ∧ (b = false → wN K i D r cls d σ H)
inductive HdsN (X : Cx) (n : PySem.Str) : List ExceptHandler → List (Value × Suite) → Prop
  | nil : HdsN X n [] []
  | cons {x : PySem.Str} {c : Value} {ts : Suite} {b : Stmt} {bs : List Stmt} {np pos : Pos} {hds : List ExceptHandler} {l : List (Value × Suite)} (hc : Names X x c)
      (su : ∀ (a : Addr) (oe : PySem.Obj) (cls : Value) (d : Option Addr) (pn : List (Addr × PySem.Obj)), Zc cls d oe → (∃ fv, oe.data = .fields fv) → PSs (X.suite a ((a, oe) :: pn)) (b :: bs) (ts a cls d)) (r : HdsN X n hds l) :
      HdsN X n (.ExceptHandler (some (.Name x np)) (some n) (b :: bs) pos :: hds) ((c, ts) :: l)
section
variable {X : Cx} {n : PySem.Str} {i : Nat} {body : List Stmt} {h : ExceptHandler} {hds : List ExceptHandler} {l : List (Value × Suite)} {pos : Pos} {tb : WX → TS}
theorem ps_tryN (hs : X.stack = X.env :: X.outer) (hf : X.env.frame = some X.env.locals) (hN : X.N.Nodup) (hi : X.N[i]? = some n) (hln : X.env.kindOf n = some .local)
    (hb : ∀ (W : WX) (pn : List (Addr × PySem.Obj)) (xe : Value → Shared → Prop), Takes (X.tr pn xe) W → PassesOwn (model X.prog X.w) X.A X.env xe → PSs (X.tr pn xe) body (tb W))
    (hh : HdsN X n (h :: hds) l) : PS X (.Try body (h :: hds) [] [] pos) fun D σ H => tb (wN X.K i D l) D σ H := by
  refine ⟨fun pins s σ H D I hw => ?_⟩
  have ok := I.ok
  have frm : X.A.frames = some (X.env :: X.outer) := ok.frames.trans (by rw [hs])
  refine wpAny_Try_except (wpAny_mono ((hb (wN X.K i D l) (X.pn ++ pins) (fun e t1 => wpAny (model X.prog X.w) X.A (noteFrame e X.env) (fun _ t2 => wpAny (model X.prog X.w) X.A (setFlight e none)
    (fun _ t3 => wpAny (model X.prog X.w) X.A (handleBy e X.env (h :: hds)) (SP X pins D) X.xe t3) X.xe t2) X.xe t1) (fun u t xx => ?_) PassesOwn.looking).run [] s σ H D (I.toTry _) hw) (fun fl t hsp => ?_) fun _ _ z => z)
  · obtain ⟨a, B, sJ, pns, τ, G1, cls, d, eu, J0, k1, k2, k3, k4, k5, k6, w⟩ := xx
    subst eu
    have J : Inv X pins τ G1 sJ := J0.ofTry ok
    show wpAny (model X.prog X.w) X.A (noteFrame (.ref a) X.env) _ _ t
    refine Sky.land Zc.steady frm hf (by rw [← hs]; exact k3) fun g3 fl3 up3 => ?_
    have J3 : Inv X pins τ G1 { t with heap := g3 } := J.landed k1 fl3.1 (k2.trans up3) k5 k6
    obtain ⟨o3, f3, at3, z3, d3⟩ := fl3.there
    have nfr : a ∉ frs (X.env :: X.outer) := fun hm => by
      obtain ⟨_, o', e', no⟩ := fl3.2.2.1.mem hm
      rw [at3] at e'
      cases e'
      exact no _ d3
    have nL : a ≠ X.env.locals := fun z => nfr (List.mem_filterMap.mpr ⟨X.env, List.mem_cons_self, by rw [hf, z]⟩)
    have nF : a ∉ X.fs := fun hm => by
      obtain ⟨e, he, q⟩ := List.mem_filterMap.mp hm
      exact nfr (List.mem_filterMap.mpr ⟨e, List.mem_cons_of_mem _ he, q⟩)
    have S3 := J3.suite at3 d3 k4 nL nF
    have go : ∀ {hds' : List ExceptHandler} {l' : List (Value × Suite)}, HdsN X n hds' l' → wN X.K i D l' cls d τ G1 → wpAny (model X.prog X.w) X.A (handleBy (.ref a) X.env hds') (SP X pins D) X.xe { t with heap := g3 } := by
      intro hds' l' hk
      induction hk with
      | nil => exact fun z => z.elim
      | @cons x c ts b0 bs np ps hd2 l2 hc su _ ih =>
        intro w
        obtain ⟨b, hb1, yes, no⟩ := w
        refine wpAny_handleBy_cons (codeAny_handlers_test ?_) (by intro q; cases q)
        have look : PySem.W.Looks (model X.prog X.w) g3 (typeOf (.ref a)) cls := fun A Q E s k q => wpAny_typeOf_ref (k _ _ at3) (by rw [z3.1]; exact q)
        have L := PySem.W.exm_one (M := model X.prog X.w) J3.kIn look hb1
        have nm : ∀ {Q : Value → Shared → Prop} {E : Value → Shared → Prop}, Q c { t with heap := g3 } → wpAny (model X.prog X.w) (X.A.mark (some (.ref a))) (eval (.Name x np) X.env) Q E { t with heap := g3 } := fun {Q E} q => by
          rcases hc with ⟨hg, hdb, hm | ⟨hm, hv, hnn⟩⟩
          · exact L2.ld_glob (X := X.suite a ((a, o3) :: (X.pn ++ pins))) S3 hg hm q hdb
          · exact L2.ld_blt (X := X.suite a ((a, o3) :: (X.pn ++ pins))) S3 hg hm hv q hnn hdb
        refine nm (L.here ?_)
        cases b with
        | false =>
          show wpAny _ X.A (handleBy (.ref a) X.env hd2) _ _ _
          exact ih (no rfl)
        | true =>
          refine codeAny_handlers_suite_as (PySem.HandSPX.lands_againZ fl3 fun g4 fl4 up4 => ?_)
          have J4 : Inv X pins τ G1 { t with heap := g4 } := J.landed k1 fl4.1 ((k2.trans up3).trans up4) k5 k6
          obtain ⟨o4, f4, at4, z4, d4⟩ := fl4.there
          refine L2.store_ok (X := X.suite a ((a, o4) :: (X.pn ++ pins))) (v := .ref a) (J4.suite at4 d4 k4 nL nF) hN hi (.inl hln) rfl (fun t5 S5 => ?_) (.inr hln)
          refine wpAny_mono ((su a o4 cls d (X.pn ++ pins) z4 ⟨_, d4⟩).run [] t5 _ G1 _ S5 (yes rfl a k4)) (fun fl t6 hsp => ?_) fun _ _ z => z.elim
          have fin : ∀ {σ6 : L2.St} {H6 : Hp} {Q : Shared → Prop}, Inv (X.suite a ((a, o4) :: (X.pn ++ pins))) [] σ6 H6 t6 → (∀ t7, Inv X pins (σ6.set i none) H6 t7 → Q t7) →
              wpAny (model X.prog X.w) X.A (do bindName X.env n .none; unbindBehindTheSuite X.env n ps) (fun _ t7 => Q t7) X.xe t6 := fun {σ6 H6 Q} S6 hq => L2.gone_ok (S6.unsuite ok) hN hi hln hq
          cases fl with
          | next =>
            obtain ⟨_, _, S6, q6⟩ := hsp
            exact fin S6 fun _ J7 => ⟨_, _, J7, q6⟩
          | brk =>
            obtain ⟨_, _, S6, q6⟩ := hsp
            exact fin S6 fun _ J7 => ⟨_, _, J7, q6⟩
          | cont =>
            obtain ⟨_, _, S6, q6⟩ := hsp
            exact fin S6 fun _ J7 => ⟨_, _, J7, q6⟩
          | ret u =>
            obtain ⟨_, _, _, S6, r6, q6⟩ := hsp
            exact fin S6 fun _ J7 => ⟨_, _, _, J7, r6, q6⟩
    exact go hh w
  · cases fl with
    | next =>
      obtain ⟨_, _, J', q⟩ := hsp
      exact wpAny_execs_nil ⟨_, _, J'.ofTry ok, q⟩
    | brk =>
      obtain ⟨_, _, J', q⟩ := hsp
      exact ⟨_, _, J'.ofTry ok, q⟩
    | cont =>
      obtain ⟨_, _, J', q⟩ := hsp
      exact ⟨_, _, J'.ofTry ok, q⟩
    | ret u =>
      obtain ⟨_, _, _, J', r, q⟩ := hsp
      exact ⟨_, _, _, J'.ofTry ok, r, q⟩
end
section
variable {X : Cx} {w : WS} {N : List PySem.Str} {sc : Scope} {k : Nat} {n : PySem.Str} {i : Nat} {body : List Stmt} {hds : List ExceptHandler} {gs : List (Nat × StS)} {pos : Pos} {f : StS}
/-- the suites keep their meanings -/
inductive HdsG (X : Cx) (w : WS) (n : PySem.Str) (ok : Nat → Prop) : List ExceptHandler → List (Nat × StS) → Prop
  | nil : HdsG X w n ok [] []
  | cons {x : PySem.Str} {c : Nat} {g : StS} {b : Stmt} {bs : List Stmt} {np pos : Pos} {hds : List ExceptHandler} {gs : List (Nat × StS)} (hc : Names X x (.ref (w.T.exc c))) (hx : ∀ c', ok c' → PySem.W.exmOne X.K (.ref (w.T.exc c')) (.ref (w.T.exc c)) = some (decide (c' = c)))
      (su : ∀ (a : Addr) (oe : PySem.Obj) (d : Option Addr) (pn : List (Addr × PySem.Obj)), Zc (.ref (w.T.exc c)) d oe → (∃ fv, oe.data = .fields fv) → JSs (X.suite a ((a, oe) :: pn)) ⟨w.T.hot w.xf a d c, w.xf, W0, w.Ow0, w.fre⟩ (b :: bs) g) (r : HdsG X w n ok hds gs) :
      HdsG X w n ok (.ExceptHandler (some (.Name x np)) (some n) (b :: bs) pos :: hds) ((c, g) :: gs)
def suiteOf (w : WS) (g : StS) (c : Nat) : Suite := fun a cls d D σ H => cls = .ref (w.T.exc c) ∧ tStm ⟨w.T.hot w.xf a d c, w.xf, W0, w.Ow0, w.fre⟩ g D σ H
theorem hdsG_n {ok : Nat → Prop} (h : HdsG X w n ok hds gs) : HdsN X n hds (gs.map fun p => (.ref (w.T.exc p.1), suiteOf w p.2 p.1)) := by
  induction h with
  | nil => exact .nil
  | cons hc hx su r ih =>
    refine .cons hc (fun a oe cls d pn hz hf => ⟨fun pins s σ H D I q => ?_⟩) ih
    obtain ⟨e, q⟩ := q
    subst e
    exact (su a oe d pn hz hf).run pins s σ H D I q
/-- the frame's slots, within a suite -/
theorem Fr.hot {T : Tb} {xf : Nat → List Nm} {Ow0 : List Addr} {H : Hp} {ρ Ow : List Addr} {σ : L2.St} {env : Env} {st : Store} {a : Addr} {dx : Option Addr} {c : Nat} {fs : List D} (hx0 : T.hx = none) (fr : Fr T Ow0 H ρ Ow σ env st) (hi : i < σ.length) (xr : XcR T H ρ Ow dx (xf c) fs) :
    Fr (T.hot xf a dx c) Ow0 H ρ Ow (σ.set i (some (.ref a))) (env.set i (.xc c fs)) st := by
  have hl : i < env.length := by rw [fr.en.len]; exact hi
  have old : ∀ (j : Nat) (xs : List D) (b : Addr), (env.set i (.xc c fs))[j]? = some (.own xs) → (σ.set i (some (.ref a)))[j]? = some (some (.ref b)) → j ≠ i ∧ env[j]? = some (.own xs) ∧ σ[j]? = some (some (.ref b)) := fun j xs b h1 h2 => by
    by_cases e : j = i
    · subst e
      rw [List.getElem?_set_self hl] at h1
      cases h1
    · rw [List.getElem?_set_ne (Ne.symm e)] at h1 h2
      exact ⟨e, h1, h2⟩
  refine ⟨⟨by rw [List.length_set, List.length_set]; exact fr.en.len, fun j s h => ?_, fun j l xs ys b h1 h2 h3 h4 => ?_⟩, fr.sr.hx, fr.sub, fun j xs b h1 h2 => ?_⟩
  · by_cases e : j = i
    · subst e
      rw [List.getElem?_set_self hl] at h
      cases h
      rw [List.getElem?_set_self hi]
      exact ⟨dx, xf c, rfl, xr.hx⟩
    · rw [List.getElem?_set_ne (Ne.symm e)] at h ⊢
      have q := fr.en.at_ j s h
      revert q
      cases s with
      | em => exact fun _ => by cases σ[j]? with
        | none => trivial
        | some o => cases o <;> trivial
      | v d =>
        cases σ[j]? with
        | none => exact fun q => q.elim
        | some o =>
          cases o with
          | none => exact fun q => q.elim
          | some v => exact fun q => RV.hx (show RV T H ρ Ow v d from q)
      | own ds =>
        cases σ[j]? with
        | none => exact fun q => q.elim
        | some o =>
          cases o with
          | none => exact fun q => q.elim
          | some v =>
            cases v with
            | ref b =>
              intro q
              obtain ⟨m, vs, h1, z, rs⟩ := (q : b ∈ Ow ∧ ∃ vs, H b = some (.lst vs) ∧ vs.length ≤ LIM ∧ RVs T H ρ Ow vs ds)
              exact ⟨m, vs, h1, z, rs.hx⟩
            | _ => exact fun q => q.elim
      | xc c1 fs1 =>
        cases σ[j]? with
        | none => exact fun q => q.elim
        | some o =>
          cases o with
          | none => exact fun q => q.elim
          | some v =>
            cases v with
            | ref b =>
              intro q
              obtain ⟨dx1, fl1, h1, _⟩ := (q : ∃ dx fl, T.hx = some (b, dx, c1, fl) ∧ XcR T H ρ Ow dx fl fs1)
              rw [hx0] at h1
              cases h1
            | _ => exact fun q => q.elim
  · obtain ⟨_, a1, a2⟩ := old j xs b h1 h3
    obtain ⟨_, b1, b2⟩ := old l ys b h2 h4
    exact fr.en.apart j l xs ys b a1 b1 a2 b2
  · obtain ⟨_, a1, a2⟩ := old j xs b h1 h2
    exact fr.out j xs b a1 a2
/-- and behind it -/
theorem Fr.cool {T : Tb} {xf : Nat → List Nm} {Ow0 : List Addr} {H : Hp} {ρ Ow : List Addr} {σ : L2.St} {env : Env} {st : Store} {a : Addr} {dx : Option Addr} {c : Nat} (fr : Fr (T.hot xf a dx c) Ow0 H ρ Ow σ env st) : Fr T Ow0 H ρ Ow (σ.set i none) (coolE i env) st := by
  have back : ∀ (j : Nat) (s : Sl), (coolE i env)[j]? = some s → s ≠ .em → j ≠ i ∧ env[j]? = some s ∧ (∀ c fs, s ≠ .xc c fs) := fun j s h hs => by
    unfold coolE at h
    rw [List.getElem?_map] at h
    obtain ⟨s0, h1, h2⟩ := Option.map_eq_some_iff.mp h
    by_cases e : j = i
    · subst e
      have hl : j < env.length := by
        have := (List.getElem?_eq_some_iff.mp h1).1
        simpa using this
      rw [List.getElem?_set_self hl] at h1
      cases h1
      exact absurd h2.symm hs
    · rw [List.getElem?_set_ne (Ne.symm e)] at h1
      cases s0 with
      | xc c1 fs1 => exact absurd h2.symm hs
      | _ => subst h2; exact ⟨e, h1, fun _ _ z => by cases z⟩
  have own : ∀ (j : Nat) (xs : List D) (b : Addr), (coolE i env)[j]? = some (.own xs) → (σ.set i none)[j]? = some (some (.ref b)) → env[j]? = some (.own xs) ∧ σ[j]? = some (some (.ref b)) := fun j xs b h1 h2 => by
    obtain ⟨e, h3, _⟩ := back j _ h1 (fun z => by cases z)
    rw [List.getElem?_set_ne (Ne.symm e)] at h2
    exact ⟨h3, h2⟩
  refine ⟨⟨by unfold coolE; rw [List.length_map, List.length_set, List.length_set]; exact fr.en.len, fun j s h => ?_, fun j l xs ys b h1 h2 h3 h4 => ?_⟩, fr.sr.unhx, fr.sub, fun j xs b h1 h2 => ?_⟩
  · by_cases hs : s = .em
    · subst hs
      cases (σ.set i none)[j]? with
      | none => trivial
      | some o => cases o <;> trivial
    · obtain ⟨e, h1, h2⟩ := back j s h hs
      rw [List.getElem?_set_ne (Ne.symm e)]
      have q := fr.en.at_ j s h1
      revert q
      cases s with
      | em => exact absurd rfl hs
      | v d =>
        cases σ[j]? with
        | none => exact fun q => q.elim
        | some o =>
          cases o with
          | none => exact fun q => q.elim
          | some v => exact fun q => RV.unhx (z := some (a, dx, c, xf c)) (show RV (T.hot xf a dx c) H ρ Ow v d from q)
      | own ds =>
        cases σ[j]? with
        | none => exact fun q => q.elim
        | some o =>
          cases o with
          | none => exact fun q => q.elim
          | some v =>
            cases v with
            | ref b =>
              intro q
              obtain ⟨m, vs, h1, z, rs⟩ := (q : b ∈ Ow ∧ ∃ vs, H b = some (.lst vs) ∧ vs.length ≤ LIM ∧ RVs (T.hot xf a dx c) H ρ Ow vs ds)
              exact ⟨m, vs, h1, z, RVs.unhx (z := some (a, dx, c, xf c)) rs⟩
            | _ => exact fun q => q.elim
      | xc c1 fs1 => exact absurd rfl (h2 c1 fs1)
  · obtain ⟨a1, a2⟩ := own j xs b h1 h3
    obtain ⟨b1, b2⟩ := own l ys b h2 h4
    exact fr.en.apart j l xs ys b a1 b1 a2 b2
  · obtain ⟨a1, a2⟩ := own j xs b h1 h2
    exact fr.out j xs b a1 a2
theorem PostR.cool {a : Addr} {dx : Option Addr} {c : Nat} {H : Hp} {ρ Ow : List Addr} {Z : Ends} {r : R} (p : PostR w H ρ Ow Z (r.cool i)) : PostR ⟨w.T.hot w.xf a dx c, w.xf, W0, w.Ow0, w.fre⟩ H ρ Ow (outE i Z) r := by
  cases r with
  | nx env st => exact fun σ H' ρ' Ow' s f => p _ H' ρ' Ow' s f.cool
  | bk env st => exact fun σ H' ρ' Ow' s f => p _ H' ρ' Ow' s f.cool
  | ct env st => exact fun σ H' ρ' Ow' s f => p _ H' ρ' Ow' s f.cool
  | rt d st =>
    intro v H' ρ' Ow' s sr r
    refine p v H' ρ' Ow' s (StR.unhx (z := some (a, dx, c, w.xf c)) sr) ?_
    cases hfr : w.fre with
    | false =>
      have r' : RRt w.fre (w.T.hot w.xf a dx c) H' ρ' Ow' w.Ow0 v d := r
      rw [hfr] at r'
      exact RV.unhx (z := some (a, dx, c, w.xf c)) (show RV (w.T.hot w.xf a dx c) H' ρ' Ow' v d from r')
    | true =>
      have r' : RRt w.fre (w.T.hot w.xf a dx c) H' ρ' Ow' w.Ow0 v d := r
      rw [hfr] at r'
      obtain ⟨b, vs, xs, e1, e2, e3, e4, e5, e6, rs⟩ := r'
      exact ⟨b, vs, xs, e1, e2, e3, e4, e5, e6, RVs.unhx (z := some (a, dx, c, w.xf c)) rs⟩
  | ex env c fs st => exact p.elim
  | bad => exact p.elim
theorem exr_xcr {T : Tb} {xf : Nat → List Nm} {H : Hp} {ρ Ow : List Addr} {cls : Value} {dx : Option Addr} {c : Nat} {fs : List D} (h : ExR T xf H ρ Ow cls dx c fs) : cls = .ref (T.exc c) ∧ XcR T H ρ Ow dx (xf c) fs := h
theorem wn_of {ok : Nat → Prop} {D : Ends} {d : Option Addr} {σ : L2.St} {H : Hp} {c : Nat} {g : StS} (hh : HdsG X w n ok hds gs) (okc : ok c) (hg : gs.lookup c = some g)
    (hsu : ∀ a, H a = none → tStm ⟨w.T.hot w.xf a d c, w.xf, W0, w.Ow0, w.fre⟩ g (outE i D) (σ.set i (some (.ref a))) H) : wN X.K i D (gs.map fun p => (.ref (w.T.exc p.1), suiteOf w p.2 p.1)) (.ref (w.T.exc c)) d σ H := by
  induction hh with
  | nil => cases hg
  | @cons x c1 g1 b bs np pos hds gs hc hx su r ih =>
    refine ⟨decide (c = c1), hx c okc, fun e a ha => ?_, fun e => ih ?_⟩
    · have e := of_decide_eq_true e
      subst e
      have e2 : g1 = g := by simpa [List.lookup] using hg
      subst e2
      exact ⟨rfl, hsu a ha⟩
    · have e := of_decide_eq_false e
      have e2 : (c == c1) = false := by simpa using e
      simpa [List.lookup, e2] using hg
theorem js_try {h : ExceptHandler} {ok : Nat → Prop} (C : CxS X w N sc k) (hs : X.stack = X.env :: X.outer) (hf : X.env.frame = some X.env.locals) (hi : X.N[i]? = some n) (hln : X.env.kindOf n = some .local)
    (hb : ∀ (W : WX) (pn : List (Addr × PySem.Obj)) (xe : Value → Shared → Prop), Takes (X.tr pn xe) W → PassesOwn (model X.prog X.w) X.A X.env xe → JSs (X.tr pn xe) { w with W := W } body f)
    (hok : ∀ c g, gs.lookup c = some g → ok c) (hh : HdsG X w n ok (h :: hds) gs) : JS X w (.Try body (h :: hds) [] [] pos) (tryS f i gs) := by
  have hN : X.N.Nodup := by rw [C.eN]; exact C.nd
  refine PS.imp (ps_tryN (tb := fun W => tStm { w with W := W } f) hs hf hN hi hln (fun W pn xe tk po => hb W pn xe tk po) (hdsG_n hh)) fun Z σ H ⟨env, st, ρ, Ow, fr, p⟩ => ⟨env, st, ρ, Ow, fr, ?_⟩
  have p : PostR w H ρ Ow Z (tryS f i gs env st) := p
  unfold tryS at p
  cases hr : f env st with
  | nx env1 st1 => rw [hr] at p; exact p
  | bk env1 st1 => rw [hr] at p; exact p
  | ct env1 st1 => rw [hr] at p; exact p
  | rt d st1 => rw [hr] at p; exact p
  | bad => rw [hr] at p; exact p
  | ex env1 c fs st1 =>
    rw [hr] at p
    cases hg : gs.lookup c with
    | none => simp only [hg] at p; exact p.elim
    | some g =>
      simp only [hg] at p
      by_cases hl : i < env1.length
      · rw [if_pos hl] at p
        intro cls dx τ H1 ρ1 Ow1 s1 f1 x1
        obtain ⟨ec, xr⟩ := exr_xcr x1
        subst ec
        exact wn_of hh (hok c g hg) hg fun a ha => ⟨_, st1, ρ1, Ow1, f1.hot C.hx0 (by rw [← f1.en.len]; exact hl) xr, PostR.cool (PostR.later s1 p)⟩
      · rw [if_neg hl] at p; exact p.elim
end
end G
/-! A program's tables, and what the head tells of them. -/
namespace G
open PySem PySem.Spec PyProof.Rows
open L2 (V Hp HO upd SqL SqT Rd VK XK TE TT TA TI TS TG TGs Ends WX Cx PE PT PA PI PS PSs PG PGs Inv OpR CallR RelV Vals R2 PC PW Gl Room FunD Binds)
/-- where a def stands: a global's, a class's method, the getter of a property, a class method -/
inductive Pa where
  | glo (x : PySem.Str) | me (C m : PySem.Str) | prop (C m : PySem.Str) | cm (C m : PySem.Str)
deriving DecidableEq
def recG (K : PySem.W.Frag) (p : Addr) (t : String) : Addr := match PySem.W.recIn K p t with
  | some (.ref g :: _) => g
  | _ => 0
def Pa.ad (K : PySem.W.Frag) : Pa → Addr
  | .glo x => He.ga K x
  | .me C m => He.ma K (He.ga K C) m
  | .prop C m => recG K (He.ma K (He.ga K C) m) "property"
  | .cm C m => recG K (He.ma K (He.ga K C) m) "classmethod"
/-- a def -/
structure Df where
  pa : Pa
  name : PySem.Str
  qual : PySem.Str
  params : Arguments
  body : List Stmt
  scope : Scope
  N : List PySem.Str
  ps : List PySem.Str
  sem : Ctx → StS
  fre : Bool
  hot : Bool
structure ClT where
  x : PySem.Str
  cl : Cl
  cms : List (PySem.Str × Nat)
structure XcT where
  x : PySem.Str
  q : Xc
  init : Nat
structure PT where
  defs : List Df
  cls : List ClT
  exs : List XcT
  nms : List PySem.Str
  free : List PySem.Str
  gints : List (PySem.Str × Int)
  gstrs : List (PySem.Str × List Nat)
  tys : List Ty
  tabs : List Nat
  /-- exceptions are asked for: the types, the base classes -/
  xon : Bool
  xtys : List Ty
  bases : List PySem.Str
/-! ### names -/
def nmOf (l : List PySem.Str) (i : Nat) : PySem.Str := match l[i]? with
  | some x => x
  | none => ⟨#[1114112 + i]⟩
def okNms (l : List PySem.Str) : Bool := decide l.Nodup && l.all fun x => x.cps.all okCode
theorem nmOf_inj {l : List PySem.Str} (h : okNms l = true) {i j : Nat} (e : nmOf l i = nmOf l j) : i = j := by
  unfold okNms at h
  rw [Bool.and_eq_true, decide_eq_true_eq, List.all_eq_true] at h
  obtain ⟨nd, hc⟩ := h
  have far : ∀ {x : PySem.Str} {k : Nat}, x ∈ l → x ≠ ⟨#[1114112 + k]⟩ := fun {x k} hx e => by
    have := hc x hx
    rw [e] at this
    simp [okCode] at this
    omega
  unfold nmOf at e
  cases hi : l[i]? with
  | none =>
    cases hj : l[j]? with
    | none =>
      rw [hi, hj] at e
      simp at e
      exact e
    | some y =>
      rw [hi, hj] at e
      exact absurd e.symm (far (List.mem_of_getElem? hj))
  | some x =>
    cases hj : l[j]? with
    | none =>
      rw [hi, hj] at e
      exact absurd e (far (List.mem_of_getElem? hi))
    | some y =>
      rw [hi, hj] at e
      have e' : x = y := e
      subst e'
      obtain ⟨h1, e1⟩ := List.getElem?_eq_some_iff.mp hi
      obtain ⟨h2, e2⟩ := List.getElem?_eq_some_iff.mp hj
      exact (List.getElem_inj nd).mp (e1.trans e2.symm)
/-- a def's code object, its table, the name of a lambda in it -/
def codeAd (K : PySem.W.Frag) (a : Addr) : Value := match K.lookup a with
  | some ⟨_, _, .func fd, _⟩ => fd.code
  | _ => .none
def cAd (K : PySem.W.Frag) (a : Addr) : Addr := match codeAd K a with
  | .ref c => c
  | _ => 0
def tabAd (K : PySem.W.Frag) (a : Addr) : Addr := match K.lookup (cAd K a) with
  | some ⟨_, _, .fields vs, _⟩ => (match (vs[11]? : Option Value) with
    | some (.ref P) => P
    | _ => 0)
  | _ => 0
def lamQ (q : PySem.Str) : PySem.Str := q ++ ".<locals>." ++ "<lambda>"
def PT.dAd (pt : PT) (K : PySem.W.Frag) (i : Nat) : Addr := match pt.defs[i]? with
  | some d => d.pa.ad K
  | none => 0
def PT.dQ (pt : PT) (i : Nat) : PySem.Str := match pt.defs[i]? with
  | some d => lamQ d.qual
  | none => ""
def tbOf (pt : PT) (K : PySem.W.Frag) : Tb where
  K := K
  cls := fun c => match pt.cls[c]? with
    | some t => He.ga K t.x
    | none => 0
  exc := fun c => match pt.exs[c]? with
    | some t => He.ga K t.x
    | none => 0
  nm := nmOf pt.nms
  flds := fun c => match pt.cls[c]? with
    | some t => t.cl.fields
    | none => []
  tabs := pt.tabs.map fun i => (tabAd K (pt.dAd K i), pt.dQ i)
  hx := none
def xfOf (pt : PT) (c : Nat) : List Nm := match pt.exs[c]? with
  | some t => t.q.field
  | none => []
def PT.ctx (pt : PT) (call : Nat → Fd) : Ctx := ⟨call, fun c => (pt.cls[c]?).map (·.cl), fun c => (pt.exs[c]?).map (·.q), fun _ => none⟩
def Df.run (d : Df) (Γ : Ctx) : Fd := match d.hot with
  | false => runF d.ps.length d.N.length (d.sem Γ)
  | true => runH d.ps.length d.N.length (d.sem Γ)
def PT.call (pt : PT) : Nat → Nat → Fd
  | 0, _ => fun _ _ => .bad
  | n + 1, f => match pt.defs[f]? with
    | some d => d.run (pt.ctx (pt.call n))
    | none => fun _ _ => .bad
/-! ### what is looked at -/
def fnA (K : PySem.W.Frag) (a : Addr) : He.FnW := match K.lookup a with
  | some ⟨_, _, .func fd, _⟩ => some (fd.name, fd.qualname, fd.params, fd.body, fd.scope, fd.globals, fd.closure, fd.builtins)
  | _ => none
def Df.val (d : Df) : He.FnW := some (d.name, d.qual, d.params, .stmts d.body, d.scope, mainGlobals, [], builtinsNs)
def fnB (K : PySem.W.Frag) (a : Addr) (qual : PySem.Str) : Bool := PySem.W.keepIn K (.ref a) && (match K.lookup a with
  | some ⟨_, _, .func fd, _⟩ => PySem.W.codeIn K fd.code qual && He.dflB K fd.defaults []
  | _ => false)
theorem fn_says {K : PySem.W.Frag} {d : Df} (e : fnA K (d.pa.ad K) = d.val) (c : fnB K (d.pa.ad K) d.qual = true) : ∃ fd, FunD K d.name d.qual d.params d.body d.scope [] [] (d.pa.ad K) fd := by
  obtain ⟨kp, c2⟩ := He.ba c
  unfold fnA at e
  cases q : K.lookup (d.pa.ad K) with
  | none =>
    rw [q] at c2
    cases c2
  | some o =>
    obtain ⟨oc, od, dt, osl⟩ := o
    rw [q] at c2 e
    cases dt with
    | func fd =>
      obtain ⟨n1, n2, n3, n4, n5, n6, n7, n8, n9, n10, n11, n12, n13, n14, n15⟩ := fd
      have e2 : (some (n1, n2, n3, n4, n5, n6, n7, n15) : He.FnW) = some (d.name, d.qual, d.params, .stmts d.body, d.scope, mainGlobals, [], builtinsNs) := e
      simp only [Option.some.injEq, Prod.mk.injEq] at e2
      obtain ⟨h1, h2, h3, h4, h5, h6, h7, h8⟩ := e2
      subst h1 h2 h3 h4 h5 h6 h7 h8
      have c3 : (PySem.W.codeIn K n13 d.qual && He.dflB K n8 []) = true := c2
      obtain ⟨k1, k2⟩ := He.ba c3
      exact ⟨_, ⟨oc, od, n8, n9, n10, n11, n12, n13, n14, osl, rfl, q, k1, He.dflB_ok (dvs := []) k2, .inl rfl⟩, kp⟩
    | _ => cases c2
/-- a class's instances -/
def clTyB (K : PySem.W.Frag) (C : Addr) : Bool := He.eqO (PySem.W.findIn K (.ref C) "__class__") (some (some (.builtin "object.__class__"))) &&
  (He.eqO (PySem.W.specialIn K (.builtin "object.__class__") "__get__") (some (some (.builtin "getset_descriptor.__get__"))) && (decide (PySem.W.takesIn K (.builtin "object.__class__") = some true) && decide (PySem.W.mroIn K C (.type "object") = some true)))
theorem clTy_ok {K : PySem.W.Frag} {C : Addr} (c : L2.Cls K C) (h : clTyB K C = true) : ClTy K C := by
  obtain ⟨h1, h⟩ := He.ba h
  obtain ⟨h2, h⟩ := He.ba h
  obtain ⟨h3, h4⟩ := He.ba h
  exact ⟨c, He.eqO_ok h1, He.eqO_ok h2, of_decide_eq_true h3, of_decide_eq_true h4⟩
def propB (K : PySem.W.Frag) (C : Addr) (f : PySem.Str) : Bool := He.eqO (PySem.W.findIn K (.ref C) f) (some (some (.ref (He.ma K C f)))) &&
  (He.eqO (PySem.W.specialIn K (.ref (He.ma K C f)) "__get__") (some (some (.builtin "property.__get__"))) && (decide (PySem.W.takesIn K (.ref (He.ma K C f)) = some true) &&
    (match PySem.W.recIn K (He.ma K C f) "property" with
    | some (.ref _ :: _) => true
    | _ => false)))
theorem prop_ok {K : PySem.W.Frag} {C : Addr} {f : PySem.Str} (h : propB K C f = true) : L2.PropOf K C f (He.ma K C f) (recG K (He.ma K C f) "property") := by
  obtain ⟨h1, h⟩ := He.ba h
  obtain ⟨h2, h⟩ := He.ba h
  obtain ⟨h3, h4⟩ := He.ba h
  refine ⟨He.eqO_ok h1, He.eqO_ok h2, of_decide_eq_true h3, ?_⟩
  unfold recG
  cases e : PySem.W.recIn K (He.ma K C f) "property" with
  | none => rw [e] at h4; cases h4
  | some l =>
    rw [e] at h4
    cases l with
    | nil => cases h4
    | cons v r => cases v <;> first | exact ⟨r, rfl⟩ | cases h4
def cmB (K : PySem.W.Frag) (C : Addr) (m : PySem.Str) : Bool := PySem.W.readsIn K C (.type "type") && (He.eqO (PySem.W.specialIn K (.ref C) "__getattribute__") (some (some (.builtin "type.__getattribute__"))) &&
  ((match PySem.W.findCls K (.ref C) (.type "type") m with
    | some (.get a b c d) => decide (a = .builtin "classmethod.__get__") && (decide (b = .ref (He.ma K C m)) && (decide (c = .none) && decide (d = .ref C)))
    | _ => false) && (PySem.W.fnIn K (recG K (He.ma K C m) "classmethod") &&
    (match PySem.W.recIn K (He.ma K C m) "classmethod" with
    | some (.ref _ :: _) => true
    | _ => false))))
theorem cm_ok {K : PySem.W.Frag} {C : Addr} {m : PySem.Str} (h : cmB K C m = true) : ClX.CRead K C (.type "type") ∧ ClX.CMet K C (.type "type") m (He.ma K C m) (recG K (He.ma K C m) "classmethod") := by
  obtain ⟨h1, h⟩ := He.ba h
  obtain ⟨h2, h⟩ := He.ba h
  obtain ⟨h3, h⟩ := He.ba h
  obtain ⟨h4, h5⟩ := He.ba h
  refine ⟨⟨h1, He.eqO_ok h2⟩, ?_, ?_, h4⟩
  · split at h3
    · rename_i a b c d e
      obtain ⟨g1, h3⟩ := He.ba h3
      obtain ⟨g2, h3⟩ := He.ba h3
      obtain ⟨g3, g4⟩ := He.ba h3
      rw [e, of_decide_eq_true g1, of_decide_eq_true g2, of_decide_eq_true g3, of_decide_eq_true g4]
    · cases h3
  unfold recG
  cases e : PySem.W.recIn K (He.ma K C m) "classmethod" with
  | none => rw [e] at h5; cases h5
  | some l =>
    rw [e] at h5
    cases l with
    | nil => cases h5
    | cons v r => cases v <;> first | exact ⟨r, rfl⟩ | cases h5
end G
/-! The check over the fragment, the hook, the facts. -/
namespace G
open PySem PySem.Spec PyProof.Rows
open L2 (V Hp HO upd SqL SqT Rd VK XK TE TT TA TI TS TG TGs Ends WX Cx PE PT PA PI PS PSs PG PGs Inv OpR CallR RelV Vals R2 PC PW Gl Room FunD Binds)
/-! ### exceptions' bases -/
def bId : Nat → String
  | 0 => "ValueError"
  | 1 => "LookupError"
  | _ => "ArithmeticError"
def bNew : Nat → String
  | 0 => "ValueError.__new__"
  | 1 => "LookupError.__new__"
  | _ => "ArithmeticError.__new__"
def bInit : Nat → String
  | 0 => "ValueError.__init__"
  | 1 => "LookupError.__init__"
  | _ => "ArithmeticError.__init__"
def bMro : Nat → List Value
  | 0 => [.type "ValueError", .type "Exception", .type "BaseException", .type "object"]
  | 1 => [.type "LookupError", .type "Exception", .type "BaseException", .type "object"]
  | _ => [.type "ArithmeticError", .type "Exception", .type "BaseException", .type "object"]
theorem exB : ∀ b : Nat, ExB (bId b) (bNew b) (bInit b) (bMro b)
  | 0 => ⟨PySem.F.excBase_ValueError, PySem.F.store_ValueError, rfl⟩
  | 1 => ⟨PySem.F.excBase_LookupError, PySem.F.store_LookupError, rfl⟩
  | _ + 2 => ⟨PySem.F.excBase_ArithmeticError, PySem.F.store_ArithmeticError, rfl⟩
def excB (K : PySem.W.Frag) (C : Addr) (bmB : List Value) (newId : String) : Bool := (match K.lookup C with
  | some ⟨.type "type", _, .cls cd, sl⟩ => (match cd.mro, sl.toList with
    | .ref C' :: bm, [_, _, _, _, some (.builtin n), _] => C' == C && n == newId && !cd.hasDel && cd.hasDict && PySem.W.excTail bmB bm
    | _, _ => false)
  | _ => false) && (PySem.W.excOver K C bmB && (He.eqO (PySem.W.findIn K (.ref C) "__setattr__") (some (some (.builtin "object.__setattr__"))) &&
  (decide (PySem.W.subIn K (.ref C) (.type "BaseException") = some true) && (decide (PySem.W.typeIn K (.ref C) = some (.type "type")) && PySem.W.keepIn K (.ref C)))))
theorem exc_ok {K : PySem.W.Frag} {C : Addr} {bmB : List Value} {newId : String} (h : excB K C bmB newId = true) : ExC K C newId bmB := by
  obtain ⟨q, h⟩ := He.ba h
  obtain ⟨h2, h⟩ := He.ba h
  obtain ⟨h3, h⟩ := He.ba h
  obtain ⟨h4, h⟩ := He.ba h
  obtain ⟨h5, h6⟩ := He.ba h
  refine ⟨?_, h2, He.eqO_ok h3, of_decide_eq_true h4, of_decide_eq_true h5, h6⟩
  split at q
  · rename_i dd cd sl ho
    split at q
    · rename_i C' bm k0 k1 k2 k3 n k5 hm hs
      simp only [Bool.and_eq_true, beq_iff_eq, Bool.not_eq_true'] at q
      obtain ⟨⟨⟨⟨rfl, rfl⟩, hdel⟩, hdict⟩, ht⟩ := q
      obtain ⟨nm, bs, mro, ns, qn, hd, sn, sub, ab, col, del⟩ := cd
      dsimp only at hm hdel hdict
      subst hm hdel hdict
      have hsl : sl = #[k0, k1, k2, k3, some (.builtin n), k5] := by
        obtain ⟨l⟩ := sl
        simp only at hs
        rw [hs]
      subst hsl
      exact ⟨nm, qn, ns, bs, bm, sn, sub, ab, col, dd, k0, k1, k2, k3, k5, ho, ht⟩
    · cases q
  · cases q
/-! ### the check -/
def glB (K : PySem.W.Frag) (x : PySem.Str) : Bool := (He.Fa.glo x).ok K
def defAt (pt : PT) (i : Nat) (pa : Pa) (n : Nat) : Bool := match pt.defs[i]? with
  | some d => decide (d.pa = pa) && decide (d.ps.length = n)
  | none => false
/-- != of an own class is object's -/
def neB (K : PySem.W.Frag) (C : Addr) : Bool := decide (PySem.W.findIn K (.ref C) "__ne__" = some (some (.builtin "object.__ne__")))
def clsB0 (pt : PT) (K : PySem.W.Frag) (t : ClT) : Bool := glB K t.x && ((He.Fa.cls t.x).ok K && (clTyB K (He.ga K t.x) && (decide t.cl.fields.Nodup && ((t.cl.fields.all fun f => (He.Fa.noat t.x (nmOf pt.nms f)).ok K) &&
  ((He.Fa.mkr t.x).ok K && ((match pt.defs[t.cl.init]? with
    | some d => decide (d.pa = .me t.x "__init__")
    | none => false) && ((t.cl.props.all fun p => propB K (He.ga K t.x) (nmOf pt.nms p.1) && defAt pt p.2 (.prop t.x (nmOf pt.nms p.1)) 1) &&
  ((t.cl.meths.all fun p => (He.Fa.meth t.x (nmOf pt.nms p.1)).ok K && (match pt.defs[p.2]? with
    | some d => decide (d.pa = .me t.x (nmOf pt.nms p.1))
    | none => false)) && (t.cms.all fun p => cmB K (He.ga K t.x) p.1 && (match pt.defs[p.2]? with
    | some d => decide (d.pa = .cm t.x p.1)
    | none => false))))))))))
def excChk (pt : PT) (K : PySem.W.Frag) (t : XcT) : Bool := glB K t.x && (excB K (He.ga K t.x) (bMro t.q.base) (bNew t.q.base) && (match t.q.field with
  | [] => true
  | [f] => He.eqO (PySem.W.findIn K (.ref (He.ga K t.x)) (nmOf pt.nms f)) (some none) && ((He.Fa.meth t.x "__init__").ok K && (decide (PySem.W.typeIn K (.ref (He.ma K (He.ga K t.x) "__init__")) = some (.type "function")) && (match pt.defs[t.init]? with
    | some d => decide (d.pa = .me t.x "__init__")
    | none => false)))
  | _ => false))
def tyV (pt : PT) (K : PySem.W.Frag) : Ty → Value
  | .int => .type "int"
  | .bool => .type "bool"
  | .str => .type "str"
  | .tuple => .type "tuple"
  | .own c => .ref ((tbOf pt K).cls c)
  | _ => .none
def kitB (K : PySem.W.Frag) (t u : Value) (b : Bool) : Bool := decide (PySem.W.kitOne K t u = some b)
def tyB (pt : PT) (K : PySem.W.Frag) (τ : Ty) : Bool := kitB K (.type "NoneType") (tyV pt K τ) false && (kitB K (.type "bool") (tyV pt K τ) τ.isBl && (kitB K (.type "int") (tyV pt K τ) τ.isInt && (kitB K (.type "str") (tyV pt K τ) τ.isStr && (kitB K (.type "tuple") (tyV pt K τ) τ.isTup && (kitB K (.type "list") (tyV pt K τ) false && (kitB K (.type "dict") (tyV pt K τ) false &&
  ((List.range pt.cls.length).all fun c => kitB K (.ref ((tbOf pt K).cls c)) (tyV pt K τ) (τ.isOwn c))))))))
def chkD1 (K : PySem.W.Frag) (d : Df) : Bool := fnB K (d.pa.ad K) d.qual && (match d.pa with
    | .glo x => glB K x
    | _ => true)
def chkD (pt : PT) (K : PySem.W.Frag) : Bool := pt.defs.all (chkD1 K)
def chkF (pt : PT) (K : PySem.W.Frag) : Bool := pt.free.all fun x => (He.Fa.free x).ok K
def chkI1 (K : PySem.W.Frag) (p : PySem.Str × Int) : Bool := (He.Fa.int p.1 p.2).ok K
def chkI (pt : PT) (K : PySem.W.Frag) : Bool := pt.gints.all (chkI1 K)
def chkS1 (K : PySem.W.Frag) (p : PySem.Str × List Nat) : Bool := (He.Fa.str p.1 ⟨p.2.toArray⟩).ok K && (decide (p.2.length ≤ 1000) && p.2.all okCode)
def chkS (pt : PT) (K : PySem.W.Frag) : Bool := pt.gstrs.all (chkS1 K)
def tabB (pt : PT) (K : PySem.W.Frag) (i : Nat) : Bool := (match codeAd K (pt.dAd K i) with
  | .ref _ => true
  | _ => false) && (PySem.W.codeHdIn K (cAd K (pt.dAd K i)) (tabAd K (pt.dAd K i)) && (match K.lookup (tabAd K (pt.dAd K i)) with
  | none => true
  | some _ => false))
def chkT (pt : PT) (K : PySem.W.Frag) : Bool := pt.tabs.all (tabB pt K) && decide (pt.tabs.map fun i => tabAd K (pt.dAd K i)).Nodup
def clsB (pt : PT) (K : PySem.W.Frag) (t : ClT) : Bool := neB K (He.ga K t.x) && clsB0 pt K t
/-! exceptions that are asked for -/
def PT.xnm (pt : PT) (j : Nat) : PySem.Str := if j < 100 then (match pt.exs[j]? with
  | some t => t.x
  | none => "") else pt.bases.getD (j - 100) ""
def xtyV (pt : PT) (K : PySem.W.Frag) : Ty → Value
  | .exc j => .ref (He.ga K (pt.xnm j))
  | .value => .type "ValueError"
  | .lookup => .type "LookupError"
  | .arith => .type "ArithmeticError"
  | _ => .none
def xcB (K : PySem.W.Frag) (C : Addr) : Bool := (PySem.W.clsIn K C).isSome && (He.eqO (PySem.W.findIn K (.ref C) "__getattribute__") (some (some (.builtin "BaseException.__getattribute__"))) && (decide (PySem.W.findIn K (.ref C) "__getattr__" = some none) && (He.eqO (PySem.W.findIn K (.ref C) "__class__") (some (some (.builtin "object.__class__"))) &&
  (He.eqO (PySem.W.specialIn K (.builtin "object.__class__") "__get__") (some (some (.builtin "getset_descriptor.__get__"))) && (decide (PySem.W.takesIn K (.builtin "object.__class__") = some true) && (decide (PySem.W.mroIn K C (.type "object") = some true) && PySem.W.hasDictIn K C))))))
def xty1 (pt : PT) (K : PySem.W.Frag) (τ : Ty) (c : Nat) : Bool := match pt.exs[c]? with
  | some t => (match xisX t.q c τ with
    | some b => kitB K (.ref (He.ga K t.x)) (xtyV pt K τ) b
    | none => true)
  | none => true
def xglB (pt : PT) (K : PySem.W.Frag) : Ty → Bool
  | .exc j => glB K (pt.xnm j)
  | _ => true
def xpair (pt : PT) (K : PySem.W.Frag) (c c' : Nat) : Bool := decide (PySem.W.subIn K (.ref ((tbOf pt K).exc c')) (.ref ((tbOf pt K).exc c)) = some (decide (c' = c)))
def chkX (pt : PT) (K : PySem.W.Frag) : Bool := !pt.xon || ((pt.exs.all fun t => xcB K (He.ga K t.x)) && (((List.range pt.exs.length).all fun c => (List.range pt.exs.length).all (xpair pt K c)) && (pt.xtys.all fun τ => xglB pt K τ && (List.range pt.exs.length).all (xty1 pt K τ))))
def chkU (pt : PT) (K : PySem.W.Frag) : Bool := chkT pt K && (okNms pt.nms && (chkD pt K && (pt.cls.all (clsB pt K) && (pt.exs.all (excChk pt K) && (chkF pt K && (chkI pt K && (chkS pt K && pt.tys.all (tyB pt K))))))))
def chk (pt : PT) (K : PySem.W.Frag) : Bool := chkX pt K && chkU pt K
theorem ba8 {a b c d e f g h : Bool} (q : (a && (b && (c && (d && (e && (f && (g && h))))))) = true) : a = true ∧ b = true ∧ c = true ∧ d = true ∧ e = true ∧ f = true ∧ g = true ∧ h = true := by
  simpa [Bool.and_eq_true] using q
abbrev AlP : Type := (Bool × List He.FnW) × List (Option PySem.Obj)
def obsP (pt : PT) (K : PySem.W.Frag) : Bool × List He.FnW := (chk pt K, pt.defs.map fun d => fnA K (d.pa.ad K))
def valP (pt : PT) : Bool × List He.FnW := (true, pt.defs.map Df.val)
def tabObs (pt : PT) (K : PySem.W.Frag) (g : Addr → Option PySem.Obj) : List (Option PySem.Obj) := pt.tabs.map fun i => g (tabAd K (pt.dAd K i))
def tabVal (pt : PT) : List (Option PySem.Obj) := pt.tabs.map fun _ => some (PySem.W.tabObj #[])
/-- all but the tables of code objects -/
def gT (g : Addr → Option PySem.Obj) (a : Addr) : Option PySem.Obj := match g a with
  | some o => (match o.cls, o.data with
    | .none, .fields _ => none
    | _, _ => some o)
  | none => none
theorem gT_of {g : Addr → Option PySem.Obj} {a : Addr} {o : PySem.Obj} (h : gT g a = some o) : g a = some o := by
  unfold gT at h
  split at h
  · rename_i o' ho
    split at h
    · cases h
    · rw [← h]; exact ho
  · cases h
def frP (g : Addr → Option PySem.Obj) (n : Nat) : PySem.W.Frag := He.frG (gT g) (He.asD g n ++ [PySem.cStatics])
theorem frP_in {s : Shared} {n : Nat} : (frP s.heap.get? n).In s.heap := fun a o e => gT_of (He.frG_at _ e)
def obsPG (n : Nat) (pt : PT) (g : Addr → Option PySem.Obj) : AlP := (obsP pt (frP g n), tabObs pt (frP g n) g)
def hookP (n : Nat) (pt : PT) : PySem.W.Hook where
  α := AlP
  obs := fun s => obsPG n pt s.heap.get?
  val := fun _ => (valP pt, tabVal pt)
  says := fun _ h => ∃ K : PySem.W.Frag, K.In h ∧ obsP pt K = valP pt ∧ ∀ i ∈ pt.tabs, h.get? (tabAd K (pt.dAd K i)) = some (PySem.W.tabObj #[])
  of := fun _ _ e => ⟨_, frP_in, congrArg Prod.fst e, fun i hi => List.map_inj_left.mp (congrArg Prod.snd e) i hi⟩
  keeps := fun _ _ _ ⟨K, hK, c, t⟩ k => ⟨K, PySem.W.Frag.In.keeps hK k, c, fun i hi => k _ _ (t i hi)⟩
theorem obsPG_eq {n : Nat} {pt : PT} {g : Addr → Option PySem.Obj} {s : Shared} (h : ∀ a, g a = s.heap.get? a) : obsPG n pt g = (hookP n pt).obs s := by
  have e : g = s.heap.get? := funext h
  rw [e] <;> rfl
/-! ### the facts -/
structure St (pt : PT) (Y : Wd) : Prop where
  eT : Y.T = { tbOf pt Y.K with hx := Y.T.hx }
  exf : Y.xf = xfOf pt
  kin : Y.K.In Y.base
  ns : Y.base.Ns mainGlobals Y.mg
  says : obsP pt Y.K = valP pt
section
variable {pt : PT} {Y : Wd}
theorem St.chkX (S : St pt Y) : chkX pt Y.K = true := (He.ba (show chk pt Y.K = true from congrArg (fun z : Bool × List He.FnW => z.1) S.says)).1
theorem St.chk0 (S : St pt Y) : chkU pt Y.K = true := (He.ba (show chk pt Y.K = true from congrArg (fun z : Bool × List He.FnW => z.1) S.says)).2
theorem St.chkT (S : St pt Y) : chkT pt Y.K = true := (He.ba S.chk0).1
theorem St.cs (S : St pt Y) : okNms pt.nms = true ∧ chkD pt Y.K = true ∧ pt.cls.all (clsB pt Y.K) = true ∧ pt.exs.all (excChk pt Y.K) = true ∧ chkF pt Y.K = true ∧ chkI pt Y.K = true ∧ chkS pt Y.K = true ∧ pt.tys.all (tyB pt Y.K) = true := ba8 (He.ba S.chk0).2
theorem St.nms (S : St pt Y) : okNms pt.nms = true := S.cs.1
theorem all_at {α : Type} {p : α → Bool} {l : List α} (h : l.all p = true) {i : Nat} {a : α} (e : l[i]? = some a) : p a = true := List.all_eq_true.mp h a (List.mem_of_getElem? e)
theorem St.fd (S : St pt Y) {i : Nat} {d : Df} (h : pt.defs[i]? = some d) : ∃ fd, FunD Y.K d.name d.qual d.params d.body d.scope [] [] (d.pa.ad Y.K) fd := by
  have e : pt.defs.map (fun d => fnA Y.K (d.pa.ad Y.K)) = pt.defs.map Df.val := congrArg (fun z : Bool × List He.FnW => z.2) S.says
  have e2 : (pt.defs.map fun d => fnA Y.K (d.pa.ad Y.K))[i]? = (pt.defs.map Df.val)[i]? := by rw [e]
  rw [List.getElem?_map, List.getElem?_map, h] at e2
  exact fn_says (Option.some.inj e2) (He.ba (all_at (p := chkD1 Y.K) S.cs.2.1 h)).1
theorem St.gl (S : St pt Y) {x : PySem.Str} (h : glB Y.K x = true) : Y.mg x = some (.ref (He.ga Y.K x)) := He.glo_ok S.kin S.ns h
theorem St.fn_gl (S : St pt Y) {i : Nat} {d : Df} {x : PySem.Str} (h : pt.defs[i]? = some d) (e : d.pa = .glo x) : Y.mg x = some (.ref (d.pa.ad Y.K)) := by
  have h1 := (He.ba (all_at (p := chkD1 Y.K) S.cs.2.1 h)).2
  rw [e] at h1 ⊢
  exact S.gl h1
theorem St.free (S : St pt Y) {x : PySem.Str} (h : pt.free.contains x = true) : Y.mg x = none := He.free_ok S.kin S.ns (List.all_eq_true.mp S.cs.2.2.2.2.1 x (by simpa using h))
theorem St.gint (S : St pt Y) {i : Nat} {x : PySem.Str} {z : Int} (h : pt.gints[i]? = some (x, z)) : ∃ t, Y.mg x = some (.int z t) := He.int_ok S.kin S.ns (all_at (p := chkI1 Y.K) S.cs.2.2.2.2.2.1 h)
theorem St.gstr (S : St pt Y) {i : Nat} {x : PySem.Str} {z : List Nat} (h : pt.gstrs[i]? = some (x, z)) : (∃ t, Y.mg x = some (.str ⟨z.toArray⟩ t)) ∧ z.length ≤ 1000 ∧ z.all okCode = true := by
  obtain ⟨h1, h2⟩ := He.ba (all_at (p := chkS1 Y.K) S.cs.2.2.2.2.2.2.1 h)
  obtain ⟨h3, h4⟩ := He.ba h2
  exact ⟨He.str_ok S.kin S.ns h1, of_decide_eq_true h3, h4⟩
theorem kit_ok {K : PySem.W.Frag} {t u : Value} {b : Bool} (h : kitB K t u b = true) : PySem.W.kitOne K t u = some b := of_decide_eq_true h
structure ClF (pt : PT) (Y : Wd) (t : ClT) : Prop where
  gl : glB Y.K t.x = true
  cls : L2.Cls Y.K (He.ga Y.K t.x)
  ty : ClTy Y.K (He.ga Y.K t.x)
  nd : t.cl.fields.Nodup
  no : ∀ f ∈ t.cl.fields, L2.NoAttr Y.K (He.ga Y.K t.x) (nmOf pt.nms f)
  mkr : L2.Mk Y.K (He.ga Y.K t.x) (He.ma Y.K (He.ga Y.K t.x) "__init__")
  init : ∃ d, pt.defs[t.cl.init]? = some d ∧ d.pa = .me t.x "__init__"
  prop : ∀ p ∈ t.cl.props, propB Y.K (He.ga Y.K t.x) (nmOf pt.nms p.1) = true ∧ defAt pt p.2 (.prop t.x (nmOf pt.nms p.1)) 1 = true
  meth : ∀ p ∈ t.cl.meths, (He.Fa.meth t.x (nmOf pt.nms p.1)).ok Y.K = true ∧ ∃ d, pt.defs[p.2]? = some d ∧ d.pa = .me t.x (nmOf pt.nms p.1)
  cm : ∀ p ∈ t.cms, cmB Y.K (He.ga Y.K t.x) p.1 = true ∧ ∃ d, pt.defs[p.2]? = some d ∧ d.pa = .cm t.x p.1
theorem def_is {pt : PT} {i : Nat} {pa : Pa} (h : (match pt.defs[i]? with
    | some d => decide (d.pa = pa)
    | none => false) = true) : ∃ d, pt.defs[i]? = some d ∧ d.pa = pa := by
  cases e : pt.defs[i]? with
  | none => rw [e] at h; cases h
  | some d =>
    rw [e] at h
    exact ⟨d, rfl, of_decide_eq_true h⟩
theorem St.cl (S : St pt Y) {c : Nat} {t : ClT} (h : pt.cls[c]? = some t) : ClF pt Y t := by
  have h1 := (He.ba (all_at S.cs.2.2.1 h)).2
  obtain ⟨g1, h1⟩ := He.ba h1
  obtain ⟨g2, h1⟩ := He.ba h1
  obtain ⟨g3, h1⟩ := He.ba h1
  obtain ⟨g4, h1⟩ := He.ba h1
  obtain ⟨g5, h1⟩ := He.ba h1
  obtain ⟨g6, h1⟩ := He.ba h1
  obtain ⟨g7, h1⟩ := He.ba h1
  obtain ⟨g8, h1⟩ := He.ba h1
  obtain ⟨g9, g10⟩ := He.ba h1
  exact ⟨g1, He.cls_ok g2, clTy_ok (He.cls_ok g2) g3, of_decide_eq_true g4, fun f hf => He.noat_ok (List.all_eq_true.mp g5 f hf), He.mkr_ok g6, def_is g7, fun p hp => He.ba (List.all_eq_true.mp g8 p hp),
    fun p hp => ⟨(He.ba (List.all_eq_true.mp g9 p hp)).1, def_is (He.ba (List.all_eq_true.mp g9 p hp)).2⟩, fun p hp => ⟨(He.ba (List.all_eq_true.mp g10 p hp)).1, def_is (He.ba (List.all_eq_true.mp g10 p hp)).2⟩⟩
theorem St.t_cls (S : St pt Y) {c : Nat} {t : ClT} (h : pt.cls[c]? = some t) : Y.T.cls c = He.ga Y.K t.x := by rw [S.eT]; simp only [tbOf, h]
theorem St.ne (S : St pt Y) {c : Nat} {t : ClT} (h : pt.cls[c]? = some t) : PySem.W.findIn Y.K (.ref (Y.T.cls c)) "__ne__" = some (some (.builtin "object.__ne__")) := by
  rw [S.t_cls h]
  exact of_decide_eq_true (He.ba (all_at S.cs.2.2.1 h)).1
theorem St.t_flds (S : St pt Y) {c : Nat} {t : ClT} (h : pt.cls[c]? = some t) : Y.T.flds c = t.cl.fields := by rw [S.eT]; simp only [tbOf, h]
theorem St.t_nm (S : St pt Y) : Y.T.nm = nmOf pt.nms := by rw [S.eT]; rfl
theorem St.t_exc (S : St pt Y) {c : Nat} {t : XcT} (h : pt.exs[c]? = some t) : Y.T.exc c = He.ga Y.K t.x := by rw [S.eT]; simp only [tbOf, h]
theorem St.t_K (S : St pt Y) : Y.T.K = Y.K := by rw [S.eT]; rfl
theorem nB' {b c : Bool} (h : (!b || c) = true) (hb : b = true) : c = true := by
  subst hb
  exact h
theorem St.xs (S : St pt Y) (hx : pt.xon = true) : (pt.exs.all fun t => xcB Y.K (He.ga Y.K t.x)) = true ∧ ((List.range pt.exs.length).all fun c => (List.range pt.exs.length).all (xpair pt Y.K c)) = true ∧ (pt.xtys.all fun τ => xglB pt Y.K τ && (List.range pt.exs.length).all (xty1 pt Y.K τ)) = true := by
  obtain ⟨h1, h⟩ := He.ba (nB' S.chkX hx)
  obtain ⟨h2, h3⟩ := He.ba h
  exact ⟨h1, h2, h3⟩
theorem St.xcf (S : St pt Y) (hx : pt.xon = true) {c : Nat} {t : XcT} (h : pt.exs[c]? = some t) : XcF Y.K (Y.T.exc c) := by
  rw [S.t_exc h]
  have q := List.all_eq_true.mp (S.xs hx).1 t (List.mem_of_getElem? h)
  obtain ⟨g1, q⟩ := He.ba q
  obtain ⟨g2, q⟩ := He.ba q
  obtain ⟨g3, q⟩ := He.ba q
  obtain ⟨g4, q⟩ := He.ba q
  obtain ⟨g5, q⟩ := He.ba q
  obtain ⟨g6, q⟩ := He.ba q
  obtain ⟨g7, g8⟩ := He.ba q
  have h1 := all_at S.cs.2.2.2.1 h
  have E := exc_ok (He.ba (He.ba h1).2).1
  exact ⟨g1, He.eqO_ok g2, of_decide_eq_true g3, E.exC, He.eqO_ok g4, He.eqO_ok g5, of_decide_eq_true g6, of_decide_eq_true g7, g8, E.tyC⟩
theorem St.exm (S : St pt Y) (hx : pt.xon = true) {c : Nat} {t : XcT} (h : pt.exs[c]? = some t) : ∀ c', c' < pt.exs.length → PySem.W.exmOne Y.K (.ref (Y.T.exc c')) (.ref (Y.T.exc c)) = some (decide (c' = c)) := fun c' hc' => by
  have F := S.xcf hx h
  have hc := (List.getElem?_eq_some_iff.mp h).1
  have q := of_decide_eq_true (List.all_eq_true.mp (List.all_eq_true.mp (S.xs hx).2.1 c (List.mem_range.mpr hc)) c' (List.mem_range.mpr hc'))
  have e : Y.T.exc = (tbOf pt Y.K).exc := by rw [S.eT]
  rw [← e] at q
  exact PySem.W.exm_ref F.sb F.hd F.ty q
theorem St.xis (S : St pt Y) (hx : pt.xon = true) {m : Nat} {τ : Ty} (h : pt.xtys[m]? = some τ) {c : Nat} {t : XcT} {b : Bool} (hc : pt.exs[c]? = some t) (hb : xisX t.q c τ = some b) : PySem.W.kitOne Y.K (.ref (Y.T.exc c)) (xtyV pt Y.K τ) = some b := by
  have q := (He.ba (List.all_eq_true.mp (S.xs hx).2.2 τ (List.mem_of_getElem? h))).2
  have q := List.all_eq_true.mp q c (List.mem_range.mpr (List.getElem?_eq_some_iff.mp hc).1)
  unfold xty1 at q
  rw [hc] at q
  simp only [hb] at q
  rw [S.t_exc hc]
  exact kit_ok q
theorem St.xgl (S : St pt Y) (hx : pt.xon = true) {m j : Nat} (h : pt.xtys[m]? = some (.exc j)) : Y.mg (pt.xnm j) = some (.ref (He.ga Y.K (pt.xnm j))) := S.gl (He.ba (List.all_eq_true.mp (S.xs hx).2.2 _ (List.mem_of_getElem? h))).1
end
/-- an error class's __init__ stores its one attribute -/
structure XcOk (pt : PT) (t : XcT) (f : Nm) : Prop where
  ex : ∃ (d : Df) (x1 x2 : PySem.Str) (p1 p2 p3 pos : Pos), pt.defs[t.init]? = some d ∧ d.body = [.Assign [.Attribute (.Name x1 p1) (nmOf pt.nms f) p3] (.Name x2 p2) pos] ∧ d.ps = [x1, x2] ∧ L2.FnScope [x1, x2] [x1, x2] d.scope ∧
    (x1 == ("__debug__" : PySem.Str)) = false ∧ (x1 == ("__classdict__" : PySem.Str)) = false ∧ (x2 == ("__debug__" : PySem.Str)) = false ∧ (x2 == ("__classdict__" : PySem.Str)) = false
def XOk (pt : PT) : Prop := ∀ t ∈ pt.exs, ∀ f, t.q.field = [f] → XcOk pt t f
/-- the facts at a level -/
structure Fs (pt : PT) (Y : Wd) (Γ : Ctx) (k : Nat) : Prop where
  st : St pt Y
  hx0 : Y.T.hx = none
  tb : ∀ i ∈ pt.tabs, LamX.TabB Y.base Y.mg (cAd Y.K (pt.dAd Y.K i)) (tabAd Y.K (pt.dAd Y.K i))
  xok : XOk pt
  pos : 1 ≤ k
  cls : Γ.cls = fun c => (pt.cls[c]?).map (·.cl)
  exs : Γ.exs = fun c => (pt.exs[c]?).map (·.q)
  fn : ∀ (i : Nat) (d : Df), pt.defs[i]? = some d → ∃ fd, FunD Y.K d.name d.qual d.params d.body d.scope [] [] (d.pa.ad Y.K) fd ∧ Binds Y.K fd d.ps [] ∧ FnG Y k (d.pa.ad Y.K) fd d.ps (Γ.call i)
  hotf : ∀ (i : Nat) (d : Df), pt.defs[i]? = some d → d.hot = true → ∀ fd, FunD Y.K d.name d.qual d.params d.body d.scope [] [] (d.pa.ad Y.K) fd → FnHot Y k (d.pa.ad Y.K) fd d.ps (Γ.call i)
  fnF : ∀ (i : Nat) (d : Df), pt.defs[i]? = some d → d.fre = true → ∀ fd, FunD Y.K d.name d.qual d.params d.body d.scope [] [] (d.pa.ad Y.K) fd → FnX true Y k (d.pa.ad Y.K) fd d.ps (Γ.call i)
/-- the world, an exception being handled -/
def Wd.hot (Y : Wd) (a : Addr) (dx : Option Addr) (cn : Nat) : Wd := { Y with T := Y.T.hot Y.xf a dx cn }
/-- what holds within a suite -/
structure FsH (pt : PT) (Y : Wd) (Γ : Ctx) (k : Nat) : Prop where
  st : St pt Y
  exs : Γ.exs = fun c => (pt.exs[c]?).map (·.q)
  fn : ∀ (i : Nat) (d : Df), pt.defs[i]? = some d → d.hot = true → ∃ fd, FunD Y.K d.name d.qual d.params d.body d.scope [] [] (d.pa.ad Y.K) fd ∧ Binds Y.K fd d.ps [] ∧ FnHot Y k (d.pa.ad Y.K) fd d.ps (Γ.call i)
theorem St.hot {pt : PT} {Y : Wd} (S : St pt Y) (a : Addr) (dx : Option Addr) (cn : Nat) : St pt (Y.hot a dx cn) := ⟨by
  show Tb.hot Y.T Y.xf a dx cn = _
  unfold Tb.hot
  conv => lhs; rw [S.eT]
  rfl, S.exf, S.kin, S.ns, S.says⟩
theorem Fs.hot {pt : PT} {Y : Wd} {Γ : Ctx} {k : Nat} (F : Fs pt Y Γ k) (a : Addr) (dx : Option Addr) (cn : Nat) : FsH pt (Y.hot a dx cn) Γ k := ⟨F.st.hot a dx cn, F.exs, fun i d h hd => by
  obtain ⟨fd, D, B, _⟩ := F.fn i d h
  exact ⟨fd, D, B, ⟨(F.hotf i d h hd fd D).run⟩⟩⟩
/-- the context within a suite, of a def's body that an exception was passed to -/
structure CxH (X : Cx) (Y : Wd) (N : List PySem.Str) (sc : Scope) (n : Nat) : Prop extends CxG X Y.T N sc n where
  fn : ∀ x, X.fn x = true
  hot : HotAt X Y.T Y.xf
  eP : X.prog = Y.P
  ew : X.w = Y.w
  eKY : X.K = Y.K
  em : X.mg = Y.mg
  eb : X.base = Y.base
section
variable {pt : PT} {Y : Wd} {Γ : Ctx} {k : Nat}
theorem mem_lookup {α β : Type} [BEq α] [LawfulBEq α] {a : α} {b : β} : ∀ {l : List (α × β)}, l.lookup a = some b → (a, b) ∈ l
  | [], h => by cases h
  | (x, y) :: r, h => by
    have h2 : (match a == x with | true => some y | false => r.lookup a) = some b := h
    cases q : (a == x) with
    | true =>
      rw [q] at h2
      have e : y = b := Option.some.inj h2
      rw [eq_of_beq q, e]
      exact List.mem_cons_self
    | false =>
      rw [q] at h2
      exact List.mem_cons_of_mem _ (mem_lookup h2)
theorem Fs.gc (F : Fs pt Y Γ k) {c : Nat} {q : Cl} (h : Γ.cls c = some q) : ∃ t, pt.cls[c]? = some t ∧ t.cl = q := by
  rw [F.cls] at h
  have h : (pt.cls[c]?).map (·.cl) = some q := h
  cases e : pt.cls[c]? with
  | none => rw [e] at h; cases h
  | some t =>
    rw [e] at h
    exact ⟨t, rfl, Option.some.inj h⟩
theorem Fs.at_c (F : Fs pt Y Γ k) {c : Nat} {t : ClT} (h : pt.cls[c]? = some t) : Γ.cls c = some t.cl := by rw [F.cls]; simp only [h, Option.map_some]
theorem Fs.at_x (F : Fs pt Y Γ k) {c : Nat} {t : XcT} (h : pt.exs[c]? = some t) : Γ.exs c = some t.q := by rw [F.exs]; simp only [h, Option.map_some]
theorem nodup_map {α β : Type} {f : α → β} {l : List α} (h : l.Nodup) (inj : ∀ a b, f a = f b → a = b) : (l.map f).Nodup := by
  induction l with
  | nil => exact List.nodup_nil
  | cons a r ih =>
    obtain ⟨h1, h2⟩ := List.nodup_cons.mp h
    rw [List.map_cons]
    refine List.nodup_cons.mpr ⟨fun hm => ?_, ih h2⟩
    obtain ⟨b, hb, e⟩ := List.mem_map.mp hm
    rw [inj b a e] at hb
    exact h1 hb
theorem Fs.gam (F : Fs pt Y Γ k) : GamOk Y Γ k := by
  have S := F.st
  refine ⟨fun f g e => by rw [S.t_nm] at e; exact nmOf_inj S.nms e, fun c q h => ?_, fun c q f g h hl => ?_⟩
  · obtain ⟨t, ht, rfl⟩ := F.gc h
    have Q := S.cl ht
    refine ⟨S.t_flds ht, by rw [S.t_cls ht]; exact Q.cls, ?_, fun f hf => ?_⟩
    · rw [S.t_flds ht, S.t_nm]
      exact nodup_map Q.nd fun a b e => nmOf_inj S.nms e
    · rw [S.t_flds ht] at hf
      rw [S.t_cls ht, S.t_nm]
      exact Q.no f hf
  · obtain ⟨t, ht, rfl⟩ := F.gc h
    obtain ⟨h1, h2⟩ := (S.cl ht).prop _ (mem_lookup hl)
    unfold defAt at h2
    cases e : pt.defs[g]? with
    | none => simp only [e] at h2; cases h2
    | some d =>
      simp only [e] at h2
      obtain ⟨h3, h4⟩ := He.ba h2
      have h3 := of_decide_eq_true h3
      have h4 := of_decide_eq_true h4
      obtain ⟨fd, D, B, G0⟩ := F.fn g d e
      rw [h3] at G0
      match hp : d.ps, h4 with
      | [x], _ =>
        rw [hp] at G0 B
        exact ⟨_, _, fd, x, by rw [S.t_cls ht, S.t_nm]; exact prop_ok h1, G0, B⟩
theorem Fs.mkg (F : Fs pt Y Γ k) {c : Nat} {t : ClT} {d : Df} {x : PySem.Str} {ps : List PySem.Str} (h : pt.cls[c]? = some t) (hd : pt.defs[t.cl.init]? = some d) (hp : d.ps = x :: ps) : MkG Y k c (Γ.call t.cl.init) ps := by
  have Q := F.st.cl h
  obtain ⟨d', e1, e2⟩ := Q.init
  rw [hd] at e1
  cases e1
  obtain ⟨fd, D, B, G0⟩ := F.fn _ d hd
  rw [e2] at G0
  rw [hp] at G0 B
  exact ⟨_, fd, x, by rw [F.st.t_cls h]; exact Q.mkr, G0, B⟩
theorem Fs.me (F : Fs pt Y Γ k) {c : Nat} {t : ClT} {d : Df} {m : Nm} {f : Nat} {np : Nat} (h : pt.cls[c]? = some t) (hm : t.cl.meths.lookup m = some f) (hd : pt.defs[f]? = some d) (hp : d.ps.length = np) : MeOk Y k c m (Γ.call f) np := by
  obtain ⟨h1, d', e1, e2⟩ := (F.st.cl h).meth _ (mem_lookup hm)
  rw [hd] at e1
  cases e1
  obtain ⟨fd, D, B, G0⟩ := F.fn _ d hd
  rw [e2] at G0
  exact ⟨_, fd, d.ps, by rw [F.st.t_cls h, F.st.t_nm]; exact He.meth_ok h1, G0, B, hp⟩
theorem Fs.dun (F : Fs pt Y Γ k) {c : Nat} {t : ClT} {d : Df} {m : Nm} {x : PySem.Str} {f : Nat} {np : Nat} (h : pt.cls[c]? = some t) (hx : nmOf pt.nms m = x) (hm : t.cl.meths.lookup m = some f) (hd : pt.defs[f]? = some d) (hp : d.ps.length = np) : DunOk Y k c x (Γ.call f) np := by
  obtain ⟨h1, d', e1, e2⟩ := (F.st.cl h).meth _ (mem_lookup hm)
  rw [hd] at e1
  cases e1
  obtain ⟨fd, D, B, G0⟩ := F.fn _ d hd
  rw [e2] at G0
  have Q := He.meth_ok h1
  rw [hx] at Q G0
  exact ⟨_, fd, d.ps, by rw [F.st.t_cls h]; exact Q.at_, Q.fn, G0, B, hp⟩
theorem Fs.cm (F : Fs pt Y Γ k) {c : Nat} {t : ClT} {d : Df} {x : PySem.Str} {f : Nat} {np : Nat} (h : pt.cls[c]? = some t) (hm : t.cms.lookup x = some f) (hd : pt.defs[f]? = some d) (hp : d.ps.length = np) : CmOk Y k c x (Γ.call f) np := by
  obtain ⟨h1, d', e1, e2⟩ := (F.st.cl h).cm _ (mem_lookup hm)
  rw [hd] at e1
  cases e1
  obtain ⟨fd, D, B, G0⟩ := F.fn _ d hd
  rw [e2] at G0
  obtain ⟨q1, q2⟩ := cm_ok h1
  exact ⟨_, _, _, fd, d.ps, by rw [F.st.t_cls h]; exact q1, by rw [F.st.t_cls h]; exact q2, G0, B, hp⟩
theorem Fs.isi (F : Fs pt Y Γ k) {i : Nat} {τ : Ty} (h : pt.tys[i]? = some τ) : IsOk Y.K Y.T Γ τ (tyV pt Y.K τ) := by
  have S := F.st
  have h1 := all_at S.cs.2.2.2.2.2.2.2 h
  obtain ⟨g1, h1⟩ := He.ba h1
  obtain ⟨g2, h1⟩ := He.ba h1
  obtain ⟨g3, h1⟩ := He.ba h1
  obtain ⟨g4, h1⟩ := He.ba h1
  obtain ⟨g5, h1⟩ := He.ba h1
  obtain ⟨g6, h1⟩ := He.ba h1
  obtain ⟨g8, g7⟩ := He.ba h1
  refine ⟨kit_ok g1, kit_ok g2, kit_ok g3, kit_ok g4, kit_ok g5, kit_ok g6, kit_ok g8, fun c q hc => ?_⟩
  obtain ⟨t, ht, rfl⟩ := F.gc hc
  refine ⟨by rw [S.t_cls ht]; exact (S.cl ht).ty, ?_⟩
  have hl : c < pt.cls.length := (List.getElem?_eq_some_iff.mp ht).1
  rw [S.eT]
  exact kit_ok (List.all_eq_true.mp g7 c (List.mem_range.mpr hl))
theorem Fs.fk (F : Fs pt Y Γ k) {i : Nat} {d : Df} {x : PySem.Str} (h : pt.defs[i]? = some d) (e : d.pa = .glo x) (hx : (x == ("__debug__" : PySem.Str)) = false) : ∃ fd, Fk Y x (d.pa.ad Y.K) fd d.ps ∧ FnG Y k (d.pa.ad Y.K) fd d.ps (Γ.call i) := by
  obtain ⟨fd, D, B, G0⟩ := F.fn i d h
  exact ⟨fd, ⟨F.st.fn_gl h e, D.kp, B, hx⟩, G0⟩
theorem Fs.err (F : Fs pt Y Γ k) {c : Nat} {t : XcT} {f : Nm} (h : pt.exs[c]? = some t) (hf : t.q.field = [f]) : ErrOk Y k (He.ga Y.K t.x) (nmOf pt.nms f) := by
  have S := F.st
  have h1 := all_at S.cs.2.2.2.1 h
  obtain ⟨g1, h1⟩ := He.ba h1
  obtain ⟨g2, h1⟩ := He.ba h1
  rw [hf] at h1
  obtain ⟨g3, h1⟩ := He.ba h1
  obtain ⟨g4, h1⟩ := He.ba h1
  obtain ⟨g5, h1⟩ := He.ba h1
  obtain ⟨d, x1, x2, p1, p2, p3, pos, hd, hb, hp, hsc, n1, n2, n3, n4⟩ := (F.xok t (List.mem_of_getElem? h) f hf).ex
  obtain ⟨d', e1, e2⟩ := def_is h1
  rw [hd] at e1
  cases e1
  obtain ⟨fd, D, B, _⟩ := F.fn _ d hd
  have Q := He.meth_ok g4
  rw [e2] at D
  obtain ⟨k', rfl⟩ : ∃ k', k = k' + 1 := ⟨k - 1, by have := F.pos; omega⟩
  obtain ⟨oc, od, dV, kV, doc, pm, an, cdv, ct, osl, rfl, lk, hcd, _, _⟩ := D.ex
  rw [hb] at lk B
  rw [hp] at B
  refine ⟨bId t.q.base, bNew t.q.base, bInit t.q.base, bMro t.q.base, _, _, x1, x2, exB t.q.base, exc_ok g2, He.eqO_ok g3, Q.at_, of_decide_eq_true g5, init_ok (k := k') (exB t.q.base) lk hcd hsc n1 n2 n3 n4, B⟩
end
/-! ### all defs keep their meaning -/
/-- where a body stands -/
structure LmX (d : Df) (Y : Wd) (X : Cx) : Prop where
  qual : X.env.qual = d.qual ++ ".<locals>."
  code : X.env.code = codeAd Y.K (d.pa.ad Y.K)
  stk : X.stack = X.env :: X.outer
  frm : X.env.frame = some X.env.locals
structure DfOk (pt : PT) (d : Df) : Prop where
  sc : L2.FnScope d.N d.ps d.scope
  bd : ∀ (kV doc pm : Value) (an : Option Addr) (cdv ct : Value) (us : List Value), us.length = d.ps.length → bindArgs (PySem.W.fnOf d.name d.qual d.params d.body d.scope .none kV doc pm an cdv ct) ⟨us, []⟩ = pure (d.ps.zip us)
  ok : d.hot = false → ∀ (Y : Wd) (Γ : Ctx) (k : Nat) (X : Cx) (W : WX) (Ow0 : List Addr) (fr : Bool), (fr = true → d.fre = true) → Fs pt Y Γ k → CxS X ⟨Y.T, Y.xf, W, Ow0, fr⟩ d.N d.scope (k + 1) → CxY X Y W d.N d.scope (k + 1) → LmX d Y X → JSs X ⟨Y.T, Y.xf, W, Ow0, fr⟩ d.body (d.sem Γ)
  okh : d.hot = true → d.fre = false ∧ ∀ (Y : Wd) (Γ : Ctx) (k : Nat) (X : Cx) (Ow0 : List Addr), FsH pt Y Γ k → CxH X Y d.N d.scope (k + 1) → JSs X ⟨Y.T, Y.xf, W0, Ow0, false⟩ d.body (d.sem Γ)
/-- what no exception is passed to gives nothing -/
theorem runH_bad {np ns : Nat} {g : StS} {ds : List D} {st : Store} {T : Tb} {H : Hp} {ρ Ow : List Addr} {vs : List V} (r : RVs T H ρ Ow vs ds) : runH np ns g ds st = .bad := by
  cases r with
  | nil => rfl
  | cons r _ => cases r <;> rfl
theorem all_ok {pt : PT} (ok : ∀ d ∈ pt.defs, DfOk pt d) (xok : XOk pt) {Y : Wd} (S : St pt Y) (hx0 : Y.T.hx = none) (tb : ∀ i ∈ pt.tabs, LamX.TabB Y.base Y.mg (cAd Y.K (pt.dAd Y.K i)) (tabAd Y.K (pt.dAd Y.K i))) : ∀ n, Fs pt Y (pt.ctx (pt.call n)) (2 * n + 1)
  | 0 => by
    refine ⟨S, hx0, tb, xok, Nat.le_refl _, rfl, rfl, fun i d h => ?_, fun i d h _ fd D => ?_, fun i d h _ fd D => ?_⟩
    · obtain ⟨fd, D⟩ := S.fd h
      exact ⟨fd, D, D.bindsN (ok d (List.mem_of_getElem? h)).bd, ⟨fun A outer s H args us vs Q E _ _ _ _ _ _ ⟨_, _, _, _, _, _, p⟩ => p.elim⟩⟩
    · exact ⟨fun A outer s H args us vs Q a dx cn oe _ _ _ _ _ _ _ _ _ ⟨_, _, _, _, _, _, _, _, p⟩ => p.elim⟩
    · exact ⟨fun A outer s H args us vs Q E _ _ _ _ _ _ ⟨_, _, _, _, _, _, p⟩ => p.elim⟩
  | n + 1 => by
    have F := all_ok ok xok S hx0 tb n
    have call : ∀ (i : Nat) (d : Df), pt.defs[i]? = some d → (pt.ctx (pt.call (n + 1))).call i = d.run (pt.ctx (pt.call n)) := fun i d h => by
      show (match pt.defs[i]? with
        | some d => d.run (pt.ctx (pt.call n))
        | none => fun _ _ => G.O.bad) = _
      rw [h]
    have main : ∀ (fr : Bool) (i : Nat) (d : Df), pt.defs[i]? = some d → (fr = true → d.fre = true) → ∀ fd, FunD Y.K d.name d.qual d.params d.body d.scope [] [] (d.pa.ad Y.K) fd → FnX fr Y (2 * n + 2 + 1) (d.pa.ad Y.K) fd d.ps ((pt.ctx (pt.call (n + 1))).call i) := fun fr i d h hf fd D => by
      have O1 := ok d (List.mem_of_getElem? h)
      rw [call i d h]
      cases hh : d.hot with
      | true =>
        have e : d.run (pt.ctx (pt.call n)) = runH d.ps.length d.N.length (d.sem (pt.ctx (pt.call n))) := by unfold Df.run; rw [hh]
        rw [e]
        exact ⟨fun A outer s H args us vs Q E _ _ _ _ _ _ ⟨_, _, _, _, _, rs, p⟩ => by
          rw [runH_bad rs] at p
          exact p.elim⟩
      | false =>
        obtain ⟨oc, od, dV, kV, doc, pm, an, cdv, ct, osl, rfl, lk, hcd, _, _⟩ := D.ex
        refine fnX_of fr (g := d.sem (pt.ctx (pt.call n))) (m := d.N.length) lk hcd O1.sc rfl S.t_K.symm hx0 (fun ds st hl => ?_) fun X W Ow0 C eP ew eK em eb eq ec es ef => O1.ok hh Y _ (2 * n + 1) X W Ow0 fr hf F C (C.y eP ew eK em eb) ⟨eq, by rw [ec]; unfold codeAd; rw [lk], es, ef⟩
        have e : d.run (pt.ctx (pt.call n)) = runF d.ps.length d.N.length (d.sem (pt.ctx (pt.call n))) := by unfold Df.run; rw [hh]
        rw [e]
        unfold runF
        rw [if_pos hl]
        all_goals rfl
    refine ⟨S, hx0, tb, xok, Nat.le_add_left _ _, rfl, rfl, fun i d h => ?_, fun i d h hh fd D => ?_, fun i d h hf fd D => main true i d h (fun _ => hf) fd D⟩
    · obtain ⟨fd, D⟩ := S.fd h
      have O1 := ok d (List.mem_of_getElem? h)
      exact ⟨fd, D, D.bindsN O1.bd, (main false i d h (fun h => by cases h) fd D).g⟩
    · have O1 := ok d (List.mem_of_getElem? h)
      rw [call i d h]
      obtain ⟨oc, od, dV, kV, doc, pm, an, cdv, ct, osl, rfl, lk, hcd, _, _⟩ := D.ex
      refine fnHot_of (g := d.sem (pt.ctx (pt.call n))) (m := d.N.length) lk hcd O1.sc rfl S.t_K.symm (fun cn fs ds st hl => ?_) fun X a dx cn Ow0 C fn hot eP ew eK em eb => (O1.okh hh).2 (Y.hot a dx cn) _ (2 * n + 1) X Ow0 (F.hot a dx cn) ⟨C, fn, hot, eP, ew, eK, em, eb⟩
      have e : d.run (pt.ctx (pt.call n)) = runH d.ps.length d.N.length (d.sem (pt.ctx (pt.call n))) := by unfold Df.run; rw [hh]
      rw [e]
      unfold runH
      simp only [if_pos hl]
      all_goals rfl
end G
/-! Calls with keywords. -/
namespace G
open PySem PySem.Spec PyProof.Rows
open L2 (V Hp HO upd SqL SqT Rd VK XK TE TT TA TI TS TG TGs Ends WX Cx PE PT PA PI PS PSs PG PGs Inv OpR CallR RelV Vals R2 PC PW Gl Room FunD Binds PK)
section
variable {X : Cx} {Y : Wd} {W : WX} {N : List PySem.Str} {sc : Scope} {n k : Nat} {Γ : Ctx}
theorem run_makeGK {c : Nat} {q : Cl} {ps : List PySem.Str} {pins : List (Addr × PySem.Obj)} {σ : L2.St} {H : Hp} {s : Shared} {Q : VK} {pos us : List Value} {kw : List (PySem.Str × Value)} {vs : List V} {f : Addr} {fd : FuncData} {x : PySem.Str} (M : CxY X Y W N sc n) (hq : Γ.cls c = some q) (hfl : Y.T.flds c = q.fields) (Mk : L2.Mk Y.K (Y.T.cls c) f) (F : FnG Y k f fd (x :: ps) (Γ.call q.init)) (hb : ∀ (s : Shared) (z : Value), Y.K.In s.heap → BindsTo s fd ⟨z :: pos, kw⟩ ((x :: ps).zip (z :: us))) (hk : k + 1 ≤ n)
    (I : Inv X pins σ H s) (r : Vals vs us) (hl : vs.length = ps.length)
    (h : ∃ st ρ Ow ds, StR Y.T H ρ Ow st ∧ RVs Y.T H ρ Ow vs ds ∧ Post ⟨Y.T, Y.xf, W, σ⟩ H ρ Ow (fun d _ H' ρ' => ∀ v, RX true Y.T H' ρ' Ow v d → Q v H') (mkObj Γ c ds st)) :
    wpAny (model X.prog X.w) X.A (PySem.call (.ref (Y.T.cls c)) pos kw) (L2.EP X pins σ Q) X.xe s := by
  obtain ⟨st, ρ, Ow, ds, sr, rs, po⟩ := h
  have I2 := L2.Inv.made (C := Y.T.cls c) I
  have na : H (s.heap.objs.size + 1) = none := I.hok.fresh (Nat.le_succ _)
  have nx : H s.heap.objs.size = none := I.hok.fresh (Nat.le_refl _)
  have ne : s.heap.objs.size ≠ s.heap.objs.size + 1 := Nat.ne_of_lt (Nat.lt_succ_self _)
  generalize hp : s.heap.objs.size + 1 = p at I2 na ne
  generalize hx0 : s.heap.objs.size = x0 at I2 nx ne
  have na1 : upd H x0 (.own p) p = none := by rw [L2.upd_ne (Ne.symm ne)]; exact na
  have e1 : Ext H ρ (upd H x0 (.own p)) ρ := Ext.new nx
  have s1 : StR Y.T (upd H x0 (.own p)) ρ Ow st := sr.new nx
  have e2 : Ext (upd H x0 (.own p)) ρ (upd (upd H x0 (.own p)) p (.ins (Y.T.cls c) x0 [])) (ρ ++ [p]) := Ext.newS na1
  have s2 : StR Y.T (upd (upd H x0 (.own p)) p (.ins (Y.T.cls c) x0 [])) (ρ ++ [p]) Ow (st ++ [.ins c []]) := s1.push na1 ⟨rfl, x0, [], L2.upd_same, rfl, by decide, .nil⟩
  have rs2 := (rs.ext e1).ext e2
  have here : RV Y.T (upd (upd H x0 (.own p)) p (.ins (Y.T.cls c) x0 [])) (ρ ++ [p]) Ow (.ref p) (.loc st.length) := .loc (by rw [← sr.len, List.getElem?_concat_length])
  have want : Want Y.T Y.xf (Γ.call q.init) (.ref p :: vs) (upd (upd H x0 (.own p)) p (.ins (Y.T.cls c) x0 [])) (fun v H2 => v = .non ∧ Q (.ref p) H2) (L2.WE W σ) := by
    refine ⟨_, _, _, _, s2, .cons here rs2, ?_⟩
    have e12 := e1.trans e2
    have po' : Post ⟨Y.T, Y.xf, W, σ⟩ H ρ Ow (fun d _ H' ρ' => ∀ v, RX true Y.T H' ρ' Ow v d → Q v H') (match Γ.call q.init (.loc st.length :: ds) (st ++ [.ins c []]) with
      | .ok .non st' => if q.frozen then (match st'[st.length]? with
          | some (.ins b fs) => if b = c ∧ fs.map (·.1) = q.fields ∧ st'.length = st.length + 1 then .ok (.obj c (fs.map (·.2))) (st'.take st.length) else .bad
          | _ => .bad) else .ok (.loc st.length) st'
      | .ex b fs st' => .ex b fs st'
      | _ => .bad) := by
      unfold mkObj at po
      rw [hq] at po
      exact po
    cases hc : Γ.call q.init (.loc st.length :: ds) (st ++ [.ins c []]) with
    | bad => rw [hc] at po'; exact po'.elim
    | ex b fs st' =>
      rw [hc] at po'
      exact fun cls dx H' ρ' e s' x => po' cls dx H' ρ' (e12.trans e) s' x
    | ok d st' =>
      rw [hc] at po'
      cases d with
      | non =>
        have po2 : Post ⟨Y.T, Y.xf, W, σ⟩ H ρ Ow (fun d _ H' ρ' => ∀ v, RX true Y.T H' ρ' Ow v d → Q v H') (if q.frozen then (match st'[st.length]? with
          | some (.ins b fs) => if b = c ∧ fs.map (·.1) = q.fields ∧ st'.length = st.length + 1 then .ok (.obj c (fs.map (·.2))) (st'.take st.length) else .bad
          | _ => .bad) else .ok (.loc st.length) st') := po'
        intro H' ρ' e s' v rv
        cases rv
        refine ⟨rfl, ?_⟩
        obtain ⟨more, hpre⟩ := e.pre
        split at po2
        · cases hst : st'[st.length]? with
          | none => rw [hst] at po2; exact po2.elim
          | some ob =>
            cases ob with
            | lst xs => rw [hst] at po2; exact po2.elim
            | ins b fs =>
              rw [hst] at po2
              have po3 : Post ⟨Y.T, Y.xf, W, σ⟩ H ρ Ow (fun d _ H' ρ' => ∀ v, RX true Y.T H' ρ' Ow v d → Q v H') (if b = c ∧ fs.map (·.1) = q.fields ∧ st'.length = st.length + 1 then .ok (.obj c (fs.map (·.2))) (st'.take st.length) else .bad) := po2
              split at po3
              · rename_i hh
                obtain ⟨rfl, hf, hl'⟩ := hh
                -- the store did not grow
                have hm : more = [] := by
                  have h1 := s'.len
                  rw [hpre, hl'] at h1
                  simp only [List.length_append, List.length_singleton, sr.len] at h1
                  exact List.eq_nil_of_length_eq_zero (by omega)
                subst hm
                rw [List.append_nil] at hpre
                subst hpre
                have at_ := s'.at_ st.length p _ (by rw [← sr.len, List.getElem?_concat_length]) hst
                obtain ⟨lt, dx, ws, q1, q2, q3, q4⟩ := at_
                have lt' : ltLocs (ρ.length - Y.T.tabs.length) (fs.map (·.2)) = true := by rw [sr.len, Nat.add_sub_cancel]; exact lt
                have nρ : p ∉ ρ := (sr.fresh na).1
                have e3 : Ext H ρ H' ρ := ⟨fun a o h m => ⟨((e12.trans e).keep a o h m).1, m⟩, [], by simp⟩
                refine po3 H' ρ e3 (s'.shrink sr.len hl') (.ref p) (RV.obj (dx := dx) (by rw [hfl, ← hf, List.map_map]; exact q1) nρ (s'.apart p (by simp)) (by rw [q2, hfl, ← hf, List.length_map]) (q4.shrink lt'))
              · exact po3.elim
        · exact po2 H' ρ' (e12.trans e) s' (.ref p) (.loc (by rw [hpre, List.getElem?_append_left (by simp [sr.len]), ← sr.len, List.getElem?_concat_length]))
      | _ => exact po'.elim
  have hr : Room (k + 1) X.A := M.room.mono hk
  have e0 : L2.Env0 Y.P Y.w Y.K Y.mg Y.base (X.A.under (.builtin "type.__call__" ⟨.ref (Y.T.cls c) :: pos, kw⟩)) X.stack { s with heap := (s.heap.push PySem.W.emptyDict).push (PySem.W.instObj (Y.T.cls c) x0) } (upd (upd H x0 (.own p)) p (.ins (Y.T.cls c) x0 [])) := by
    have z := I2.env0.make (Y.T.cls c) pos kw
    rw [M.eP, M.ew, M.eKY, M.em, M.eb] at z
    exact z
  have hlen : (Value.ref p :: us).length = (x :: ps).length := by rw [List.length_cons, List.length_cons, ← r.length, hl]
  have b0 : BindsTo { s with heap := (s.heap.push PySem.W.emptyDict).push (PySem.W.instObj (Y.T.cls c) x0) } fd ⟨.ref p :: pos, kw⟩ ((x :: ps).zip (.ref p :: us)) := by
    exact hb _ _ (by rw [← M.eKY]; exact I2.kIn)
  have go := F.run (X.A.under (.builtin "type.__call__" ⟨.ref (Y.T.cls c) :: pos, kw⟩)) X.stack _ _ ⟨.ref p :: pos, kw⟩ (.ref p :: us) (.ref p :: vs) _ (L2.WE W σ) (hr.make (Y.T.cls c) pos kw) (make_guards M.guards) e0 b0 (.cons rfl r) (by rw [List.length_cons, List.length_cons, hl]) want
  rw [← M.eP, ← M.ew] at go
  subst hx0 hp
  refine wpAny_call (L2.make_map (f := f) I.kIn (by rw [M.eKY]; exact Mk.makes) (by rw [M.eKY]; exact Mk.init) (beq_iff_eq.mp (by rw [M.eKY]; exact Mk.fn)) (codeAny_mono go fun res s' hq' => ?_))
  cases res with
  | error e => exact M.pass σ pins _ _ e s' I2 hq'
  | ok fl =>
    cases fl with
    | ret u =>
      obtain ⟨v, H', I3, rv, ev, q3⟩ := I2.after hq'
      subst ev
      exact ⟨rv, ⟨V.ref (s.heap.objs.size + 1), H', I3, rfl, q3⟩⟩
    | _ => exact hq'.elim
/-! ### the order of the parameters -/
theorem pick_vals {is : List Nat} {vs : List V} {us : List Value} (r : Vals vs us) : Vals (pick .non is vs) (pick .none is us) := by
  have at_ : ∀ i, RelV (vs.getD i .non) (us.getD i .none) := fun i => by
    induction r generalizing i with
    | nil => rfl
    | cons r rs ih =>
      cases i with
      | zero => exact r
      | succ i => exact ih i
  induction is with
  | nil => exact .nil
  | cons i is ih => exact .cons (at_ i) ih
theorem pick_rvs {T : Tb} {H : Hp} {ρ Ow : List Addr} {is : List Nat} {vs : List V} {ds : List D} (r : RVs T H ρ Ow vs ds) : RVs T H ρ Ow (pick .non is vs) (pick .non is ds) := by
  have at_ : ∀ i, RV T H ρ Ow (vs.getD i .non) (ds.getD i .non) := fun i => by
    by_cases h : i < ds.length
    · obtain ⟨v, h1, h2⟩ := r.get (List.getElem?_eq_getElem h)
      rw [List.getD_eq_getElem?_getD, List.getD_eq_getElem?_getD, h1, List.getElem?_eq_getElem h]
      exact h2
    · rw [List.getD_eq_getElem?_getD, List.getD_eq_getElem?_getD, List.getElem?_eq_none (l := vs) (by rw [r.length]; omega), List.getElem?_eq_none (l := ds) (by omega)]
      exact .non
  induction is with
  | nil => exact .nil
  | cons i is ih => exact .cons (at_ i) ih
/-- the keywords' values -/
inductive JKs (X : Cx) (T : Tb) (xf : Nat → List Nm) (W : WX) : List Keyword → List PySem.Str → List G.Sem → Prop
  | nil : JKs X T xf W [] [] []
  | cons {x : PySem.Str} {e : Expr} {p : Pos} {s : G.Sem} {kws : List Keyword} {ks : List PySem.Str} {ss : List G.Sem} (j : JE X T xf W e s true) (js : JKs X T xf W kws ks ss) : JKs X T xf W (⟨some x, e, p⟩ :: kws) (x :: ks) (s :: ss)
theorem pk_args {T : Tb} {xf : Nat → List Nm} : ∀ {kws : List Keyword} {ks : List PySem.Str} {ss : List G.Sem}, JKs X T xf W kws ks ss → PK X kws (tArg T xf W (args ss))
  | _, _, _, .nil => ⟨fun pos pins s σ H Q I ⟨env, st, ρ, Ow, en, sr, p⟩ => L2.pk_nil.run pos pins s σ H Q I (Post.ok sr p [] .nil)⟩
  | _, _, _, .cons j js => ⟨fun pos pins s σ H Q I ⟨env, st, ρ, Ow, en, sr, p⟩ => (L2.pk_cons j.val (pk_args js)).run pos pins s σ H Q I (by
    refine ⟨env, st, ρ, Ow, en, sr, (Post.bind p).mono fun d st1 H1 ρ1 e1 s1 q v r => ?_⟩
    refine ⟨env, st1, ρ1, Ow, en.ext e1 sr.disj, s1, (Post.bind q).mono fun ds st2 H2 ρ2 e2 s2 q2 vs rs => ?_⟩
    exact Post.ok s2 q2 _ (.cons (RV.ext e2 r) rs))⟩
theorem kw_names {T : Tb} {xf : Nat → List Nm} {pos : Pos} : ∀ {kws : List Keyword} {ks : List PySem.Str} {ss : List G.Sem}, JKs X T xf W kws ks ss → (backToKw pos (keywordEach kws X.env)).all (·.1.isSome) = true ∧ (backToKw pos (keywordEach kws X.env)).filterMap (·.1) = ks ∧ (backToKw pos (keywordEach kws X.env)).any (·.1.isNone) = false
  | _, _, _, .nil => ⟨rfl, rfl, rfl⟩
  | _, _, _, .cons (x := x) (ks := ks) j js => by
    obtain ⟨h1, h2, h3⟩ := kw_names (pos := pos) js
    refine ⟨?_, ?_, ?_⟩
    · show (true && _) = true
      rw [Bool.true_and]; exact h1
    · show x :: _ = x :: ks
      exact congrArg (x :: ·) h2
    · show (false || _) = false
      rw [Bool.false_or]; exact h3
theorem JKs.len {T : Tb} {xf : Nat → List Nm} : ∀ {kws : List Keyword} {ks : List PySem.Str} {ss : List G.Sem}, JKs X T xf W kws ks ss → ss.length = ks.length
  | _, _, _, .nil => rfl
  | _, _, _, .cons j js => by simp [js.len]
/-- how such a call binds -/
structure BdK (K : PySem.W.Frag) (fd : FuncData) (ps : List PySem.Str) (ks : List PySem.Str) (is : List Nat) : Prop where
  to : ∀ (s : Shared) (us : List Value), K.In s.heap → us.length = ks.length → BindsTo s fd ⟨[], ks.zip us⟩ (ps.zip (pick .none is us))
  len : is.length = ps.length
/-- .. within C(..) -/
structure BdM (K : PySem.W.Frag) (fd : FuncData) (ps : List PySem.Str) (ks : List PySem.Str) (is : List Nat) : Prop where
  to : ∀ (s : Shared) (z : Value) (us : List Value), K.In s.heap → us.length = ks.length → BindsTo s fd ⟨[z], ks.zip us⟩ (ps.zip (z :: pick .none is us))
  len : is.length + 1 = ps.length
variable {x : PySem.Str} {f : Addr} {fd : FuncData} {ps ks : List PySem.Str} {c : Fd} {p pos : Pos} {kws : List Keyword} {ss : List G.Sem} {is : List Nat}
/-- f(k = e, ..) -/
theorem je_callK (C : CxY X Y W N sc n) (F : FnG Y k f fd ps c) (hk : k ≤ n) (B : Fk Y x f fd ps) (hb : BdK Y.K fd ps ks is) (hg : Gl X x) (js : JKs X Y.T Y.xf W kws ks ss) :
    JE X Y.T Y.xf W (.Call (.Name x p) [] kws pos) (Sem.of (many ss fun ds st => c (pick .non is ds) st)) true := by
  refine .of C.toCxG ⟨fun pins s σ H Q I q => ?_⟩
  have hm : X.mg x = some (.ref f) := by rw [C.em]; exact B.mg
  have hkp : PySem.W.keepIn X.K (.ref f) = true := by rw [C.eKY]; exact B.keep
  obtain ⟨n1, n2, n3⟩ := kw_names (pos := pos) js
  have q1 : tArg Y.T Y.xf W (args ss) σ H fun vs H1 => vs.length = ks.length ∧ Want Y.T Y.xf c (pick .non is vs) H1 Q (L2.WE W σ) := by
    obtain ⟨env, st, ρ, Ow, en, sr, po⟩ := q
    refine ⟨env, st, ρ, Ow, en, sr, (Post.bind po).eqn.mono fun ds st2 H2 ρ2 e2 s2 q3 vs rs => ?_⟩
    obtain ⟨eq, q3⟩ := q3
    refine ⟨by rw [rs.length, args_len eq, js.len], st2, ρ2, Ow, _, s2, pick_rvs rs, ?_⟩
    cases hc : c (pick .non is ds) st2 with
    | ok d2 st3 => rw [hc] at q3; exact q3
    | ex c2 fs2 st3 => rw [hc] at q3; exact q3
    | bad => rw [hc] at q3; exact q3
  refine wpAny_Call_Name_kw (L2.ld_glob I hg hm ?_ B.ne)
  refine PySem.W.callWith_KW0 (h₀ := X.base) I.ok.mod.kin hkp n1 ?_ (by rw [n3]; rfl)
  refine L2.thn ((pk_args js).run pos pins s σ H _ I q1) fun us s1 ⟨vs, H1, I1, r, h1, h2⟩ => ⟨I1.kIn, ?_⟩
  rw [n2]
  exact run_fnG C F hk (hb.to s1 us (by rw [← C.eKY]; exact I1.kIn) (by rw [← r.length]; exact h1)) I1 (pick_vals r) (by rw [pick, List.length_map]; exact hb.len) h2
/-- C(k = e, ..) -/
theorem je_mkK {cc : Nat} {q : Cl} {x0 : PySem.Str} (M : CxY X Y W N sc n) (hq : Γ.cls cc = some q) (hfl : Y.T.flds cc = q.fields) (Mk : L2.Mk Y.K (Y.T.cls cc) f) (F : FnG Y k f fd (x0 :: ps) (Γ.call q.init)) (hb : BdM Y.K fd (x0 :: ps) ks is) (hk : k + 1 ≤ n) (hm : Y.mg x = some (.ref (Y.T.cls cc))) (hd : (x == ("__debug__" : PySem.Str)) = false) (hg : Gl X x)
    (js : JKs X Y.T Y.xf W kws ks ss) : JE X Y.T Y.xf W (.Call (.Name x p) [] kws pos) (G.Sem.of (many ss fun ds st => mkObj Γ cc (pick .non is ds) st)) true := by
  refine .of M.toCxG ⟨fun pins s σ H Q I q0 => ?_⟩
  have hkp : PySem.W.keepIn X.K (.ref (Y.T.cls cc)) = true := by rw [M.eKY]; exact Mk.kp
  obtain ⟨n1, n2, n3⟩ := kw_names (pos := pos) js
  have q1 : tArg Y.T Y.xf W (args ss) σ H fun vs H1 => vs.length = ks.length ∧ ∃ st ρ Ow ds, StR Y.T H1 ρ Ow st ∧ RVs Y.T H1 ρ Ow (pick .non is vs) ds ∧ Post ⟨Y.T, Y.xf, W, σ⟩ H1 ρ Ow (fun d _ H' ρ' => ∀ v, RX true Y.T H' ρ' Ow v d → Q v H') (mkObj Γ cc ds st) := by
    obtain ⟨env, st, ρ, Ow, en, sr, po⟩ := q0
    refine ⟨env, st, ρ, Ow, en, sr, (Post.bind po).eqn.mono fun ds st2 H2 ρ2 e2 s2 q3 vs rs => ?_⟩
    obtain ⟨eq, q3⟩ := q3
    exact ⟨by rw [rs.length, args_len eq, js.len], st2, ρ2, Ow, _, s2, pick_rvs rs, q3⟩
  refine wpAny_Call_Name_kw (L2.ld_glob I hg (by rw [M.em]; exact hm) ?_ hd)
  refine PySem.W.callWith_KW0 (h₀ := X.base) I.ok.mod.kin hkp n1 ?_ (by rw [n3]; rfl)
  refine L2.thn ((pk_args js).run pos pins s σ H _ I q1) fun us s1 ⟨vs, H1, I1, r, h1, h2⟩ => ⟨I1.kIn, ?_⟩
  rw [n2]
  refine run_makeGK (us := pick .none is us) (vs := pick .non is vs) M hq hfl Mk F (fun s z hK => ?_) hk I1 (pick_vals r) (by rw [pick, List.length_map]; have := hb.len; simpa using this) h2
  exact hb.to s z us hK (by rw [← r.length]; exact h1)
end
end G
/-! The rules as a printed def takes them: forms by name, side conditions as checks. -/
namespace G
open PySem PySem.Spec PyProof.Rows
open L2 (V Hp HO upd SqL SqT Rd VK XK TE TT TA TI TS TG TGs Ends WX Cx PE PT PA PI PS PSs PG PGs Inv OpR CallR RelV Vals R2 PC PW Gl Room FunD Binds PK)
/-- a body's surroundings -/
structure En (pt : G.PT) (Y : Wd) (Γ : Ctx) (k : Nat) (N : List PySem.Str) (X : Cx) (W : WX) (sc : Scope) : Prop where
  F : Fs pt Y Γ k
  M : CxY X Y W N sc (k + 1)
def isRp : Bi → Bool
  | .repr => true
  | _ => false
def eqS (x y : PySem.Str) : Bool := decide (x = y)
def debB (x : PySem.Str) : Bool := !(x == ("__debug__" : PySem.Str))
def kindB (sc : Scope) (x : PySem.Str) (k : NameKind) : Bool := decide (sc.names.lookup x = some k)
def nmB (N : List PySem.Str) (sc : Scope) (i : Nat) (x : PySem.Str) : Bool := decide (N[i]? = some x) && ((kindB sc x .local || (kindB sc x .cell || kindB sc x .free)) && (debB x && !(x == ("__classdict__" : PySem.Str))))
def glbB (sc : Scope) (x : PySem.Str) : Bool := kindB sc x .globalImplicit
def locB (N : List PySem.Str) (sc : Scope) (i : Nat) (x : PySem.Str) : Bool := decide (N[i]? = some x) && (kindB sc x .local || kindB sc x .cell)
theorem nB {b : Bool} (h : (!b) = true) : b = false := by
  cases b with
  | true => cases h
  | false => rfl
theorem kind_ok {sc : Scope} {x : PySem.Str} {k : NameKind} (h : kindB sc x k = true) : sc.names.lookup x = some k := of_decide_eq_true h
theorem nm_ok {N : List PySem.Str} {sc : Scope} {i : Nat} {x : PySem.Str} (h : nmB N sc i x = true) : N[i]? = some x ∧ L2.Vis sc x ∧ (x == ("__debug__" : PySem.Str)) = false ∧ (x == ("__classdict__" : PySem.Str)) = false := by
  obtain ⟨h1, h⟩ := He.ba h
  obtain ⟨h2, h⟩ := He.ba h
  obtain ⟨h3, h4⟩ := He.ba h
  refine ⟨of_decide_eq_true h1, ?_, nB h3, nB h4⟩
  rcases Bool.or_eq_true_iff.mp h2 with h | h
  · exact .inl (kind_ok h)
  rcases Bool.or_eq_true_iff.mp h with h | h
  · exact .inr (.inl (kind_ok h))
  · exact .inr (.inr (kind_ok h))
section
variable {pt : G.PT} {Y : Wd} {Γ : Ctx} {k : Nat} {N : List PySem.Str} {X : Cx} {W : WX} {sc scope : Scope} {Ow0 : List Addr}
theorem En.c (E : En pt Y Γ k N X W sc) : CxG X Y.T N sc (k + 1) := E.M.toCxG
theorem En.cc (E : En pt Y Γ k N X W sc) : CxC X Y.T N sc (k + 1) := E.M.toCxC
theorem En.gl (E : En pt Y Γ k N X W sc) {x : PySem.Str} (h : glbB sc x = true) : Gl X x := by
  show X.env.scope.names.lookup x = some .globalImplicit
  rw [E.M.eS]
  exact kind_ok h
theorem En.mg0 (E : En pt Y Γ k N X W sc) {x : PySem.Str} (h : pt.free.contains x = true) : X.mg x = none := by rw [E.M.em]; exact E.F.st.free h
theorem Blk.cy {X' : Cx} (M : CxY X Y W N sc (k + 1)) (b : Blk X scope X') : CxY X' Y W0 N (L2.relS scope sc) (k + 1) := by
  have C := Blk.cx M.toCxC b
  obtain ⟨s, H, a, cl, fp, rfl⟩ := b
  exact ⟨C, M.eP, M.ew, M.eKY, M.em, M.eb, fun σ pins H s e s' I h => by
    obtain ⟨_, _, _, _, _, _, _, _, _, _, _, _, z⟩ := h
    exact z.elim⟩
theorem En.blk (E : En pt Y Γ k N X W sc) {X' : Cx} (b : Blk X scope X') : En pt Y Γ k N X' W0 (L2.relS scope sc) := ⟨E.F, Blk.cy E.M b⟩
theorem En.quiet (E : En pt Y Γ k N X W sc) : En pt Y Γ k N X W0 sc := ⟨E.F, E.M.quiet⟩
variable (E : En pt Y Γ k N X W sc)
include E
/-! ### expressions -/
variable {x : PySem.Str} {i j : Nat} {pos p p2 p3 apos cpos : Pos} {e a b c o : Expr} {es : List Expr} {s sa sb sc' so : G.Sem} {ss : List G.Sem} {str ra rb rc : Bool}
theorem r_v (h : nmB N sc i x = true) : JE X Y.T Y.xf W (.Name x pos) (vE i) true := je_v E.c (nm_ok h).1 (nm_ok h).2.1 (nm_ok h).2.2.1 (nm_ok h).2.2.2
theorem r_pk (h : nmB N sc i x = true) : JE X Y.T Y.xf W (.Name x pos) (pkE i) false := je_pk E.c (nm_ok h).1 (nm_ok h).2.1 (nm_ok h).2.2.1 (nm_ok h).2.2.2
theorem r_k {u : Const} {d : G.D} {m : Nat} (h : conD u = some d) : JE X Y.T Y.xf W (.Constant u m pos) (kE d) true := je_k E.c h
theorem r_gi {z : Int} (m : Nat) (h : pt.gints[m]? = some (x, z)) (hg : glbB sc x = true) (hd : debB x = true) : JE X Y.T Y.xf W (.Name x pos) (kE (.int z)) true := by
  obtain ⟨t, ht⟩ := E.F.st.gint h
  exact je_g (i := 0) E.c (E.gl hg) (by rw [E.M.em]; exact ht) (v := .int z) ⟨t, rfl⟩ (nB hd) fun _ _ _ => .int z
theorem r_gs {z : List Nat} (m : Nat) (h : pt.gstrs[m]? = some (x, z)) (hg : glbB sc x = true) (hd : debB x = true) : JE X Y.T Y.xf W (.Name x pos) (kE (.str z)) true := by
  obtain ⟨⟨t, ht⟩, h2, h3⟩ := E.F.st.gstr h
  exact je_g (i := 0) E.c (E.gl hg) (by rw [E.M.em]; exact ht) (v := .str ⟨z.toArray⟩) ⟨t, rfl⟩ (nB hd) fun _ _ _ => .str z (lim_k h2) h3
theorem r_op {op : Op2} {q : Operator} (h : binOf op = some q) (ja : JE X Y.T Y.xf W a sa ra) (jb : JE X Y.T Y.xf W b sb rb) : JE X Y.T Y.xf W (.BinOp a q b pos) (opE op sa sb) true := je_bin E.c h ja jb
theorem r_ix (hb : plainE b = true) (ja : JE X Y.T Y.xf W a sa ra) (jb : JE X Y.T Y.xf W b sb rb) : JE X Y.T Y.xf W (.Subscript a b pos) (opE .idx sa sb) true := je_ix E.c hb ja jb
theorem r_cmp {op : Op2} {q : CmpOp} (h : cmpOf op = some q) (hb : plainE b = true) (ja : JE X Y.T Y.xf W a sa ra) (jb : JE X Y.T Y.xf W b sb rb) : JE X Y.T Y.xf W (.Compare a [q] [b] pos) (opE op sa sb) true := je_cmp0 E.c h hb ja jb
theorem r_chain {op op2 : Op2} {q q2 : CmpOp} (h : cmpOf op = some q) (h' : cmpOf op2 = some q2) (hc : plainE c = true) (ja : JE X Y.T Y.xf W a sa ra) (jb : JE X Y.T Y.xf W b sb rb) (jc : JE X Y.T Y.xf W c sc' rc) :
    JE X Y.T Y.xf W (.Compare a [q, q2] [b, c] pos) (chE op op2 sa sb sc') true := je_chain E.c h h' hc ja jb jc
theorem r_no (ja : JE X Y.T Y.xf W a sa ra) : JE X Y.T Y.xf W (.UnaryOp .Not a pos) (Sem.no sa) true := je_no E.c ja
theorem r_neg (ja : JE X Y.T Y.xf W a sa ra) : JE X Y.T Y.xf W (.UnaryOp .USub a pos) (negE sa) true := je_neg E.c ja
theorem r_ife (jc : JE X Y.T Y.xf W c sc' rc) (ja : JE X Y.T Y.xf W a sa ra) (jb : JE X Y.T Y.xf W b sb rb) : JE X Y.T Y.xf W (.IfExp c a b pos) (Sem.ife sc' sa sb) (ra && rb) := je_ife E.c jc ja jb
theorem r_ifeS (jc : JE X Y.T Y.xf W c sc' rc) (ja : JE X Y.T Y.xf W a sa true) (jb : JE X Y.T Y.xf W b sb true) : JE X Y.T Y.xf W (.IfExp c a b pos) (Sem.ife sc' sa sb) true := je_ife E.c jc ja jb
theorem r_and (h : es.isEmpty = false) (js : JEs X Y.T Y.xf W es ss) : JE X Y.T Y.xf W (.BoolOp .And es pos) (Sem.bop true ss) true := je_bop true js (by intro z; rw [z] at h; cases h)
theorem r_or (h : es.isEmpty = false) (js : JEs X Y.T Y.xf W es ss) : JE X Y.T Y.xf W (.BoolOp .Or es pos) (Sem.bop false ss) true := je_bop false js (by intro z; rw [z] at h; cases h)
theorem r_tup {m : Nat} (hs : Nat.ble ss.length 1000 = true) (js : JEs X Y.T Y.xf W es ss) : JE X Y.T Y.xf W (.Tuple es m pos) (tupE ss) true := je_tup E.c (Nat.le_of_ble_eq_true hs) js
theorem r_lst (hs : Nat.ble ss.length 1000 = true) (js : JEs X Y.T Y.xf W es ss) : JE X Y.T Y.xf W (.List es pos) (lstE ss) true := je_lst E.c (Nat.le_of_ble_eq_true hs) js
theorem r_new (js : JEs X Y.T Y.xf W es ss) : JE X Y.T Y.xf W (.List es pos) (newE ss) true := je_new E.c js
theorem r_bi (f : Bi) (hf : isRp f = false) (hg : glbB sc (biNm f) = true) (hm : pt.free.contains (biNm f : PySem.Str) = true) (hne : es.isEmpty = false) (js : JWs X Y.T Y.xf W es ss) : JE X Y.T Y.xf W (.Call (.Name (biNm f) p) es [] pos) (biE f ss) true :=
  je_bi E.cc (by intro z; rw [z] at hf; cases hf) (E.gl hg) (E.mg0 hm) (by intro z; rw [z] at hne; cases hne) js
theorem r_repr (hg : glbB sc (biNm .repr) = true) (hm : pt.free.contains (biNm .repr : PySem.Str) = true) (hne : es.isEmpty = false) (js : JWs X Y.T Y.xf W es ss) : JE X Y.T Y.xf W (.Call (.Name (biNm .repr) p) es [] pos) (biE .repr ss) true :=
  je_biR (f := .repr) E.c (cr_repr E.c) (E.gl hg) (E.mg0 hm) (by intro z; rw [z] at hne; cases hne) js
theorem r_call (m : Nat) {d : Df} (h : pt.defs[m]? = some d) (e : d.pa = .glo x) (hd : debB x = true) (hg : glbB sc x = true) (hl : ss.length = d.ps.length) (js : JEs X Y.T Y.xf W es ss) : JE X Y.T Y.xf W (.Call (.Name x p) es [] pos) (callE (Γ.call m) ss) true := by
  obtain ⟨fd, B, G0⟩ := E.F.fk h e (nB hd)
  exact je_call E.M G0 (Nat.le_succ k) B (E.gl hg) hl js
theorem r_mk (m : Nat) {t : ClT} {d : Df} {y : PySem.Str} {ps : List PySem.Str} (h : pt.cls[m]? = some t) (hd : pt.defs[t.cl.init]? = some d) (hp : d.ps = y :: ps) (hx : t.x = x) (hb : debB x = true) (hg : glbB sc x = true) (hl : ss.length = ps.length) (js : JEs X Y.T Y.xf W es ss) :
    JE X Y.T Y.xf W (.Call (.Name x p) es [] pos) (mkE Γ m ss) true := by
  subst hx
  exact je_mk E.M (E.F.at_c h) (E.F.st.t_flds h) (E.F.mkg h hd hp) (Nat.le_refl _) (by rw [E.F.st.t_cls h]; exact E.F.st.gl (E.F.st.cl h).gl) (nB hb) (E.gl hg) hl js
theorem r_mkc (m : Nat) {t : ClT} {d : Df} {y : PySem.Str} {ps : List PySem.Str} (h : pt.cls[m]? = some t) (hd : pt.defs[t.cl.init]? = some d) (hp : d.ps = y :: ps) (hn : nmB N sc i x = true) (hl : ss.length = ps.length) (js : JEs X Y.T Y.xf W es ss) :
    JE X Y.T Y.xf W (.Call (.Name x p) es [] pos) (mkcE Γ i m ss) true :=
  je_mkc E.M (E.F.at_c h) (E.F.st.t_flds h) (E.F.mkg h hd hp) (Nat.le_refl _) (L2.pe_var (by rw [E.M.eN]; exact (nm_ok hn).1) (by rw [E.M.eS]; exact (nm_ok hn).2.1) (nm_ok hn).2.2.1 (nm_ok hn).2.2.2) hl js
theorem r_upper (hp : plainO o = true) (hl : (apos.endLine == pos.line) = true) (jo : JE X Y.T Y.xf W o so str) : JE X Y.T Y.xf W (.Call (.Attribute o "upper" apos) [] [] pos) (upE so) true := je_upper E.c hp hl jo
/-- sorted(e, key=lambda x: ..) -/
def lamB (sc scope : Scope) (x : PySem.Str) : Bool := decide (scope.kind = .function) && (!scope.isCoroutine && (!scope.isGenerator && ((scope.names.all fun y => !decide (y.2 = .cell)) && ((scope.names.all fun y => !decide (y.2 = .free) || (kindB sc y.1 .cell || kindB sc y.1 .free)) && kindB scope x .local))))
omit E in
theorem lamB_ok {x : PySem.Str} (h : lamB sc scope x = true) : LamP sc scope ∧ scope.names.lookup x = some .local := by
  obtain ⟨h1, h⟩ := He.ba h
  obtain ⟨h2, h⟩ := He.ba h
  obtain ⟨h3, h⟩ := He.ba h
  obtain ⟨h4, h⟩ := He.ba h
  obtain ⟨h5, h6⟩ := He.ba h
  refine ⟨⟨of_decide_eq_true h1, nB h2, nB h3, fun y hy => of_decide_eq_false (nB (List.all_eq_true.mp h4 y hy)), fun y hy e => ?_⟩, kind_ok h6⟩
  have z := List.all_eq_true.mp h5 y hy
  rw [e] at z
  have z : (kindB sc y.1 .cell || kindB sc y.1 .free) = true := by simpa using z
  rcases Bool.or_eq_true_iff.mp z with z | z
  · exact .inl (kind_ok z)
  · exact .inr (kind_ok z)
theorem r_sortK {d : Df} (Z : LmX d Y X) (m : Nat) {kx : KX} {params : Arguments} {body : Expr} {lpos kpos : Pos} (ht : pt.tabs.contains m = true) (hd : pt.defs[m]? = some d) (hg : glbB sc "sorted" = true) (hm : pt.free.contains ("sorted" : PySem.Str) = true) (hs : lamB sc scope x = true)
    (hdef : defaultsOf params X.env = ([], [])) (hbind : ∀ (q : PySem.Str) (cl : List (PySem.Str × Addr)) (pm cv ctv : Value) (u : Value), bindArgs (PySem.W.kla_fn "<lambda>" q params body scope cl pm cv ctv) ⟨[u], []⟩ = pure [(x, u)])
    (lk : LK N sc scope x body kx) (h : plainE e = true) (j : JE X Y.T Y.xf W e s str) :
    JE X Y.T Y.xf W (.Call (.Name "sorted" p) [e] [⟨some "key", .Lambda params body scope lpos, kpos⟩] pos) (sortKE kx s) true := by
  have hm0 : m ∈ pt.tabs := by simpa using ht
  have S := E.F.st
  obtain ⟨h1, h2⟩ := He.ba S.chkT
  have h3 := List.all_eq_true.mp h1 m hm0
  obtain ⟨h4, h5⟩ := He.ba h3
  have ed : pt.dAd Y.K m = d.pa.ad Y.K := by unfold PT.dAd; rw [hd]
  have eq : pt.dQ m = lamQ d.qual := by unfold PT.dQ; rw [hd]
  have hc : X.env.code = .ref (cAd Y.K (pt.dAd Y.K m)) := by
    rw [Z.code, ← ed]
    unfold cAd
    cases hh : codeAd Y.K (pt.dAd Y.K m) with
    | ref c => rfl
    | _ => rw [hh] at h4; cases h4
  have hT : (tabAd Y.K (pt.dAd Y.K m), pt.dQ m) ∈ Y.T.tabs := by
    rw [S.eT]
    exact List.mem_map.mpr ⟨m, hm0, rfl⟩
  obtain ⟨hL, hx⟩ := lamB_ok hs
  exact je_sortK E.cc (by rw [E.M.eb, E.M.em]; exact E.F.tb m hm0) hc (by rw [Z.qual, eq]; rfl) hT (E.gl hg) (E.mg0 hm) hL hx hdef hbind lk h j
omit E in
theorem lk_p {x : PySem.Str} (h : kindB scope x .local = true) (hd : debB x = true) : LK N sc scope x (.Name x pos) .p := .p (kind_ok h) (nB hd)
def capB (N : List PySem.Str) (scope : Scope) (i : Nat) (y : PySem.Str) : Bool := decide (N[i]? = some y) && (kindB scope y .free && (debB y && !(y == ("__classdict__" : PySem.Str))))
omit E in
theorem lk_c {x y : PySem.Str} {i : Nat} (h : capB N scope i y = true) : LK N sc scope x (.Name y pos) (.c i) := by
  obtain ⟨h1, h⟩ := He.ba h
  obtain ⟨h2, h⟩ := He.ba h
  obtain ⟨h3, h4⟩ := He.ba h
  exact .c (of_decide_eq_true h1) (kind_ok h2) (nB h3) (nB h4)
omit E in
theorem lk_k {x : PySem.Str} {z : Int} {j : Nat} : LK N sc scope x (.Constant (.int z) j pos) (.k z) := .k
omit E in
theorem lk_ix {x : PySem.Str} {u v : KX} (hb : plainE b = true) (ja : LK N sc scope x a u) (jb : LK N sc scope x b v) : LK N sc scope x (.Subscript a b pos) (.ix u v) := .ix ja jb (plain_ix hb)
theorem r_index (hp : plainO o = true) (hl : (apos.endLine == pos.line) = true) (he : plainE e = true) (jo : JE X Y.T Y.xf W o so ra) (j : JE X Y.T Y.xf W e s str) : JE X Y.T Y.xf W (.Call (.Attribute o "index" apos) [e] [] pos) (indexE so s) true := je_index E.c hp hl he jo j
theorem r_count (hp : plainO o = true) (hl : (apos.endLine == pos.line) = true) (he : plainE e = true) (jo : JE X Y.T Y.xf W o so ra) (j : JE X Y.T Y.xf W e s str) : JE X Y.T Y.xf W (.Call (.Attribute o "count" apos) [e] [] pos) (countE so s) true := je_count E.c hp hl he jo j
theorem r_lrng1 (hg : glbB sc "range" = true) (hm : pt.free.contains ("range" : PySem.Str) = true) (hg2 : glbB sc "list" = true) (hm2 : pt.free.contains ("list" : PySem.Str) = true) (h : plainE a = true) (j : JE X Y.T Y.xf W a s true) : JE X Y.T Y.xf W (.Call (.Name "list" p2) [.Call (.Name "range" p) [a] [] pos] [] cpos) (lrngE [s]) true := je_lrng1 E.c E.M.calm (E.gl hg) (E.mg0 hm) (E.gl hg2) (E.mg0 hm2) h j
theorem f_lrng1 (hg : glbB sc "range" = true) (hm : pt.free.contains ("range" : PySem.Str) = true) (hg2 : glbB sc "list" = true) (hm2 : pt.free.contains ("list" : PySem.Str) = true) (h : plainE a = true) (j : JE X Y.T Y.xf W a s true) : JF X Y.T Y.xf W (.Call (.Name "list" p2) [.Call (.Name "range" p) [a] [] pos] [] cpos) (lrngE [s]) := jf_lrng1 E.c E.M.calm (E.gl hg) (E.mg0 hm) (E.gl hg2) (E.mg0 hm2) h j
theorem r_dct0 : JE X Y.T Y.xf W (.Dict [] [] pos) dct0E true := je_dct0 E.c
theorem r_dct1 (ja : Still X Y.T a sa) (jb : Still X Y.T b sb) : JE X Y.T Y.xf W (.Dict [some a] [b] pos) (dct1E sa sb) true := je_dct1 E.c ja jb
theorem k_v (h : nmB N sc i x = true) : Still X Y.T (.Name x pos) (vE i) := still_v (L2.pe_var (by rw [E.M.eN]; exact (nm_ok h).1) (by rw [E.M.eS]; exact (nm_ok h).2.1) (nm_ok h).2.2.1 (nm_ok h).2.2.2)
omit E in
theorem k_k {u : Const} {d : G.D} {m : Nat} (h : conD u = some d) : Still X Y.T (.Constant u m pos) (kE d) := still_k h
/-- isinstance(e, T), T a built-in class -/
def tyNm : Ty → String
  | .int => "int" | .bool => "bool" | .str => "str" | .tuple => "tuple" | _ => ""
def tyBlt : Ty → Bool
  | .int | .bool | .str | .tuple => true
  | _ => false
omit E in
theorem ty_boot {τ : Ty} (h : tyBlt τ = true) : bootBuiltins (tyNm τ) = some (.type (tyNm τ)) ∧ (tyNm τ : PySem.Str) ≠ "__name__" ∧ ((tyNm τ : PySem.Str) == ("__debug__" : PySem.Str)) = false := by
  cases τ with
  | int => exact ⟨PyProof.Rows.boot_int, by decide, by decide⟩
  | bool => exact ⟨PyProof.Rows.boot_bool, by decide, by decide⟩
  | str => exact ⟨PyProof.Rows.boot_str, by decide, by decide⟩
  | tuple => exact ⟨PyProof.Rows.boot_tuple, by decide, by decide⟩
  | _ => cases h

theorem r_isi (τ : Ty) (m : Nat) (hτ : pt.tys[m]? = some τ) (hb : tyBlt τ = true) (hg : glbB sc "isinstance" = true) (hm : pt.free.contains ("isinstance" : PySem.Str) = true) (hg2 : glbB sc (tyNm τ) = true) (hm2 : pt.free.contains (tyNm τ : PySem.Str) = true) (h : plainE e = true) (j : JE X Y.T Y.xf W e s str) :
    JE X Y.T Y.xf W (.Call (.Name "isinstance" p) [e, .Name (tyNm τ) p2] [] pos) (isiE Γ s τ) true := by
  obtain ⟨h1, h2, h3⟩ := ty_boot hb
  have e1 : tyV pt Y.K τ = .type (tyNm τ) := by cases τ <;> first | rfl | cases hb
  exact je_isi E.M (by have q := E.F.isi hτ; rw [e1] at q; exact q) (c := .ty (tyNm τ)) (.ty _) (E.gl hg) (E.mg0 hm) h (L2.pe_bltn (E.gl hg2) (E.mg0 hm2) h1 rfl h2 h3) j
theorem r_isiO (cc : Nat) (m : Nat) {t : ClT} (hc : pt.cls[cc]? = some t) (hτ : pt.tys[m]? = some (.own cc)) (hx : t.x = x) (hd : debB x = true) (hg : glbB sc "isinstance" = true) (hm : pt.free.contains ("isinstance" : PySem.Str) = true) (hg2 : glbB sc x = true) (h : plainE e = true) (j : JE X Y.T Y.xf W e s str) :
    JE X Y.T Y.xf W (.Call (.Name "isinstance" p) [e, .Name x p2] [] pos) (isiE Γ s (.own cc)) true := by
  subst hx
  have e1 : tyV pt Y.K (.own cc) = .ref (He.ga Y.K t.x) := by
    have q := E.F.st.t_cls hc
    rw [E.F.st.eT] at q
    exact congrArg Value.ref q
  exact je_isi E.M (by have q := E.F.isi hτ; rw [e1] at q; exact q) (c := .ref (He.ga Y.K t.x)) (.own _) (E.gl hg) (E.mg0 hm) h (L2.pe_glob (E.gl hg2) (by rw [E.M.em]; exact E.F.st.gl (E.F.st.cl hc).gl) rfl (nB hd)) j
theorem r_at (f : Nm) (hx : nmOf pt.nms f = x) (hp : plainO e = true) (j : JE X Y.T Y.xf W e s true) : JE X Y.T Y.xf W (.Attribute e x pos) (atE Γ f s) true :=
  je_at E.M E.F.gam (Nat.le_refl _) (by rw [E.F.st.t_nm]; exact hx) hp j
theorem r_me (cc : Nat) (m : Nm) (f : Nat) {t : ClT} {d : Df} {pl : PySem.Sem Bool} (h : pt.cls[cc]? = some t) (hm : t.cl.meths.lookup m = some f) (hd : pt.defs[f]? = some d) (hp : d.ps.length = ss.length + 1) (hno : t.cl.fields.contains m = false) (hx : nmOf pt.nms m = x)
    (jo : JE X Y.T Y.xf W o so true) (js : JEs X Y.T Y.xf W es ss)
    (ht : eval (.Call (.Attribute o x apos) es [] pos) X.env = (do
      let ov ← eval o X.env
      standAt apos.atName
      let (f, first) ← holding [ov] (getMethod ov x pl)
      callWith pos f first (backTo pos (starEach es X.env)) (backToKw pos (keywordEach [] X.env)))) : JE X Y.T Y.xf W (.Call (.Attribute o x apos) es [] pos) (meE Γ cc m so ss) true :=
  je_me E.M E.F.gam (E.F.at_c h) hm (E.F.me h hm hd hp) (fun hmem => by
    have := List.contains_iff_mem.mpr hmem
    rw [hno] at this; cases this) (Nat.le_succ k) (by rw [E.F.st.t_nm]; exact hx) jo js ht
theorem r_cm (cc : Nat) (f : Nat) {t : ClT} {d : Df} {cx : PySem.Str} {px : Pos} {e0 : Expr} {pl : PySem.Sem Bool} (h : pt.cls[cc]? = some t) (hx : t.x = cx) (hm : t.cms.lookup x = some f) (hd : pt.defs[f]? = some d) (hp : d.ps.length = ss.length + 1) (hb : debB cx = true) (hg : glbB sc cx = true) (js : JEs X Y.T Y.xf W (e0 :: es) ss)
    (ht : eval (.Call (.Attribute (.Name cx px) x apos) (e0 :: es) [] pos) X.env = (do
      let ov ← eval (.Name cx px) X.env
      standAt apos.atName
      let (f, first) ← holding [ov] (getMethod ov x pl)
      callWith pos f first (backTo pos (starEach (e0 :: es) X.env)) (backToKw pos (keywordEach [] X.env)))) : JE X Y.T Y.xf W (.Call (.Attribute (.Name cx px) x apos) (e0 :: es) [] pos) (cmE (Γ.call f) cc ss) true := by
  subst hx
  exact je_cm E.M (E.F.cm h hm hd hp) (Nat.le_succ k) (by rw [E.F.st.t_cls h]; exact E.F.st.gl (E.F.st.cl h).gl) (nB hb) (E.gl hg) js ht
theorem r_has (cc : Nat) (neg : Bool) (f : Nat) {t : ClT} {d : Df} (h : pt.cls[cc]? = some t) (hm : t.cl.meths.lookup n_contains = some f) (hd : pt.defs[f]? = some d) (hp : d.ps.length = 2) (hx : nmOf pt.nms n_contains = "__contains__") (hb : plainE b = true) (ja : JE X Y.T Y.xf W a sa true) (jb : JE X Y.T Y.xf W b sb true) :
    JE X Y.T Y.xf W (.Compare a [if neg then .NotIn else .In] [b] pos) (hasE Γ cc neg sa sb) true := je_has E.M (E.F.at_c h) hm (E.F.dun h hx hm hd hp) (Nat.le_succ k) hb ja jb
theorem r_eqO (cc : Nat) (neg : Bool) (f m : Nat) {t : ClT} {d : Df} (h : pt.cls[cc]? = some t) (hm : t.cl.meths.lookup n_eq = some f) (hd : pt.defs[f]? = some d) (hp : d.ps.length = 2) (hx : nmOf pt.nms n_eq = "__eq__") (hτ : pt.tys[m]? = some (.own cc)) (hb : plainE b = true) (ja : JE X Y.T Y.xf W a sa true) (jb : JE X Y.T Y.xf W b sb true) :
    JE X Y.T Y.xf W (.Compare a [if neg then .NotEq else .Eq] [b] pos) (eqOE Γ cc neg sa sb) true := by
  have e1 : tyV pt Y.K (.own cc) = .ref (Y.T.cls cc) := by rw [E.F.st.eT]; rfl
  exact je_eqO E.M (E.F.at_c h) hm (E.F.dun h hx hm hd hp) (by have q := E.F.isi hτ; rw [e1] at q; exact q) (E.F.st.ne h) (Nat.le_refl _) hb ja jb
theorem r_lenO (cc : Nat) (f : Nat) {t : ClT} {d : Df} (h : pt.cls[cc]? = some t) (hm : t.cl.meths.lookup n_len = some f) (hd : pt.defs[f]? = some d) (hp : d.ps.length = 1) (hx : nmOf pt.nms n_len = "__len__") (hg : glbB sc "len" = true) (hmg : pt.free.contains ("len" : PySem.Str) = true) (hb : plainE e = true) (j : JE X Y.T Y.xf W e s str) :
    JE X Y.T Y.xf W (.Call (.Name "len" p) [e] [] pos) (lenOE Γ cc s) true := je_lenO E.M (E.F.at_c h) hm (E.F.dun h hx hm hd hp) (Nat.le_refl _) (E.gl hg) (E.mg0 hmg) hb j
theorem r_sl {eo1 eo2 : Option Expr} {s1 s2 : List G.Sem} (j : JE X Y.T Y.xf W e s str) (jl : JP X Y.T Y.xf W eo1 s1) (jh : JP X Y.T Y.xf W eo2 s2) : JE X Y.T Y.xf W (.Subscript e (.Slice eo1 eo2 none p2) pos) (slE s s1 s2) true := je_sl E.c j jl jh
theorem r_split {cc : Nat} {j0 : Nat} (hc : cc < 256) (hp : plainO o = true) (hl : (apos.endLine == pos.line) = true) (jo : JE X Y.T Y.xf W o s str) : JE X Y.T Y.xf W (.Call (.Attribute o "split" apos) [.Constant (.str ⟨#[cc]⟩) j0 p] [] pos) (splitE s cc) true := je_split E.c hc hp hl jo
def okSep (x : List Nat) : Bool := decide (x.length ≤ 1000) && x.all okCode
theorem r_join (x : List Nat) {j0 : Nat} (hx : okSep x = true) (hl : (apos.endLine == pos.line) = true) (h : plainE e = true) (j : JE X Y.T Y.xf W e s str) : JE X Y.T Y.xf W (.Call (.Attribute (.Constant (.str ⟨x.toArray⟩) j0 p) "join" apos) [e] [] pos) (joinE x s) true :=
  je_join E.c ⟨lim_k (of_decide_eq_true (He.ba hx).1), (He.ba hx).2⟩ hl h j
theorem r_fmt (j : JE X Y.T Y.xf W e s str) : JE X Y.T Y.xf W (.FormattedValue e (-1) none pos) (fmtE s) true := je_fmt E.c j
theorem r_joined {v1 v2 : Expr} {rest : List Expr} (js : JSt X Y.T Y.xf W (v1 :: v2 :: rest) ss) : JE X Y.T Y.xf W (.JoinedStr (v1 :: v2 :: rest) pos) (joinedE ss) true := je_joined E.c js
/-! ### what is walked -/
variable {tg e2 : Expr} {elts : List Expr} {kk : Nat} {tpos : Pos} {t1 t2 : G.Sem}
theorem i_of (j : JE X Y.T Y.xf W e s str) : JI X Y.T Y.xf W tg e s str := ji_of j
theorem i_rng1 (hg : glbB sc "range" = true) (hm : pt.free.contains ("range" : PySem.Str) = true) (h : plainE a = true) (j : JE X Y.T Y.xf W a s true) : JI X Y.T Y.xf W tg (.Call (.Name "range" p) [a] [] pos) (rngE [s]) str := ji_rng1 E.c (E.gl hg) (E.mg0 hm) h j
theorem i_rng2 (hg : glbB sc "range" = true) (hm : pt.free.contains ("range" : PySem.Str) = true) (h : plainE a = true) (h2 : plainE b = true) (j : JE X Y.T Y.xf W a s true) (j2 : JE X Y.T Y.xf W b t1 true) : JI X Y.T Y.xf W tg (.Call (.Name "range" p) [a, b] [] pos) (rngE [s, t1]) str := ji_rng2 E.c (E.gl hg) (E.mg0 hm) h h2 j j2
theorem i_enum (hg : glbB sc "enumerate" = true) (hm : pt.free.contains ("enumerate" : PySem.Str) = true) (h : plainE e = true) (j : JE X Y.T Y.xf W e s str) : JI X Y.T Y.xf W (.Tuple elts kk tpos) (.Call (.Name "enumerate" p) [e] [] pos) (enumE s) str := ji_enum E.c (E.gl hg) (E.mg0 hm) h j
theorem i_zip (hg : glbB sc "zip" = true) (hm : pt.free.contains ("zip" : PySem.Str) = true) (h : plainE e = true) (h2 : plainE e2 = true) (j : JE X Y.T Y.xf W e t1 str) (j2 : JE X Y.T Y.xf W e2 t2 str) : JI X Y.T Y.xf W (.Tuple elts kk tpos) (.Call (.Name "zip" p) [e, e2] [] pos) (zipE t1 t2) str := ji_zip E.c (E.gl hg) (E.mg0 hm) h h2 j j2
/-! ### patterns, comprehensions -/
def pnB (N : List PySem.Str) (sc : Scope) (i : Nat) (x : PySem.Str) : Bool := decide (N[i]? = some x) && kindB sc x .local
def pcB (N : List PySem.Str) (scope : Scope) (i : Nat) (x : PySem.Str) : Bool := decide (N[i]? = some x) && kindB scope x .cell
theorem En.nml (h : pnB N sc i x = true) : NmL X x i := by
  obtain ⟨h1, h2⟩ := He.ba h
  have q : X.env.scope.names.lookup x = some .local := by rw [E.M.eS]; exact kind_ok h2
  exact ⟨by rw [E.M.eN]; exact E.M.nd, by rw [E.M.eN]; exact of_decide_eq_true h1, .inl q, .inr q⟩
theorem p_nm (h : pnB N sc i x = true) : PG X (.Name x pos) (tPt Y.T Ow0 (.nm i)) := pt_nm (E.nml h)
omit E in
theorem p_nmc (E : En pt Y Γ k N X W (L2.relS scope sc)) (hf : ∀ x, scope.names.lookup x = some .cell → X.fn x = true) (h : pcB N scope i x = true) : PG X (.Name x pos) (tPt Y.T Ow0 (.nm i)) := by
  obtain ⟨h1, h2⟩ := He.ba h
  have q : X.env.scope.names.lookup x = some .cell := by
    rw [E.M.eS]
    exact L2.lookup_relS_keep (by decide) (kind_ok h2)
  exact pt_nm ⟨by rw [E.M.eN]; exact E.M.nd, by rw [E.M.eN]; exact of_decide_eq_true h1, .inr q, .inl (hf x (kind_ok h2))⟩
theorem p_tp {ps : List Pt} {m : Nat} (hp : es.all plainT = true) (hl : es.length = ps.length) (ts : PGs X es (tPts Y.T Ow0 ps)) : PG X (.Tuple es m pos) (tPt Y.T Ow0 (.tp ps)) := pt_tp E.M.calm E.M.eK hp hl ts
def blkB (N : List PySem.Str) (sc scope : Scope) (own : List (PySem.Str × Nat)) : Bool := decide (scope.kind = .function) && ((scope.names.all fun y => decide (scope.names.lookup y.1 = some y.2)) && ((own.all fun p => decide (N[p.2]? = some p.1)) &&
  ((scope.names.all fun y => !decide (y.2 = .free) || (kindB sc y.1 .cell || kindB sc y.1 .free)) && (scope.names.all fun y => !(decide (y.2 = .local) || decide (y.2 = .cell)) || ((own.map (·.1)).contains y.1 || !N.contains y.1)))))
omit E in
theorem blk_ok {own : List (PySem.Str × Nat)} (h : blkB N sc scope own = true) : L2.BlkOk N sc scope own := by
  obtain ⟨h1, h⟩ := He.ba h
  obtain ⟨h2, h⟩ := He.ba h
  obtain ⟨h3, h⟩ := He.ba h
  obtain ⟨h4, h5⟩ := He.ba h
  refine ⟨of_decide_eq_true h1, fun y hy => of_decide_eq_true (List.all_eq_true.mp h2 y hy), fun p hp => of_decide_eq_true (List.all_eq_true.mp h3 p hp), fun y hy e => ?_, fun y hy e => ?_⟩
  · have q := List.all_eq_true.mp h4 y hy
    rw [e] at q
    rcases Bool.or_eq_true_iff.mp q with q | q
    · simp at q
    · rcases Bool.or_eq_true_iff.mp q with q | q
      · exact .inl (kind_ok q)
      · exact .inr (kind_ok q)
  · have q := List.all_eq_true.mp h5 y hy
    rcases Bool.or_eq_true_iff.mp q with q | q
    · rcases e with e | e <;> rw [e] at q <;> simp at q
    · rcases Bool.or_eq_true_iff.mp q with q | q
      · exact .inl (by simpa using q)
      · exact .inr (by simpa using q)
def slotsB (p : Pt) (own : List (PySem.Str × Nat)) : Bool := (ptSlots p).all fun j => (own.map (·.2)).contains j
theorem lc_ok {elt iter : Expr} {ifs : List Expr} {sI sE : G.Sem} {p : Pt} {own : List (PySem.Str × Nat)} {rI : Bool} (hf : plainE iter = true) (hb : blkB N sc scope own = true) (hs : slotsB p own = true) (ji : JI X Y.T Y.xf W tg iter sI rI)
    (jt : ∀ X', En pt Y Γ k N X' W0 (L2.relS scope sc) → (∀ x, scope.names.lookup x = some .cell → X'.fn x = true) → PG X' tg (tPt Y.T [] p)) (jf : ∀ X', En pt Y Γ k N X' W0 (L2.relS scope sc) → JIf X' Y.T Y.xf W0 ifs ss) (je : ∀ X', En pt Y Γ k N X' W0 (L2.relS scope sc) → JE X' Y.T Y.xf W0 elt sE true) :
    LcOk X Y.T Y.xf W N sc scope elt tg iter ifs own sI sE p ss rI :=
  ⟨hf, blk_ok hb, ji, fun j hj => by simpa using List.all_eq_true.mp hs j hj, fun X' b => jt X' (E.blk b) (by
    obtain ⟨s, H, a, cl, fp, rfl⟩ := b
    intro x hx
    show (scope.names.lookup x == some .cell) = true
    rw [hx]; rfl), fun X' b => jf X' (E.blk b), fun X' b => je X' (E.blk b)⟩
theorem r_lc {elt iter : Expr} {ifs : List Expr} {sI sE : G.Sem} {p : Pt} {own : List (PySem.Str × Nat)} {rI : Bool} (L : LcOk X Y.T Y.xf W N sc scope elt tg iter ifs own sI sE p ss rI) :
    JE X Y.T Y.xf W (.ListComp elt [⟨tg, iter, ifs, 0⟩] scope pos) (lcE sI sE (own.map (·.2)) p ss) true := je_lc E.cc L
theorem r_nwLc {elt iter : Expr} {ifs : List Expr} {sI sE : G.Sem} {p : Pt} {own : List (PySem.Str × Nat)} {rI : Bool} (L : LcOk X Y.T Y.xf W N sc scope elt tg iter ifs own sI sE p ss rI) :
    JE X Y.T Y.xf W (.ListComp elt [⟨tg, iter, ifs, 0⟩] scope pos) (nwE (lcE sI sE (own.map (·.2)) p ss)) true := je_nw E.c lcV_sh (jf_lc E.cc L)
/-! ### new lists -/
theorem f_call (m : Nat) {d : Df} (h : pt.defs[m]? = some d) (hf : d.fre = true) (e : d.pa = .glo x) (hd : debB x = true) (hg : glbB sc x = true) (hl : ss.length = d.ps.length) (js : JEs X Y.T Y.xf W es ss) : JF X Y.T Y.xf W (.Call (.Name x p) es [] pos) (lsE (callE (Γ.call m) ss)) := by
  obtain ⟨fd, D, B, _⟩ := E.F.fn m d h
  exact jf_ls (jf_call E.M (E.F.fnF m d h hf fd D) (Nat.le_succ k) ⟨E.F.st.fn_gl h e, D.kp, B, nB hd⟩ (E.gl hg) hl js)
theorem f_cat (ja : JE X Y.T Y.xf W a sa ra) (jb : JE X Y.T Y.xf W b sb rb) : JF X Y.T Y.xf W (.BinOp a .Add b pos) (lsE (opE .add sa sb)) := jf_cat E.c ja jb
theorem f_list (hg : glbB sc "list" = true) (hm : pt.free.contains ("list" : PySem.Str) = true) (hne : es.isEmpty = false) (js : JWs X Y.T Y.xf W es ss) : JF X Y.T Y.xf W (.Call (.Name "list" p) es [] pos) (lsE (biE .list ss)) :=
  jf_list E.c (E.gl hg) (E.mg0 hm) (by intro z; rw [z] at hne; cases hne) js
theorem f_lst (hs : Nat.ble ss.length 1000 = true) (js : JEs X Y.T Y.xf W es ss) : JF X Y.T Y.xf W (.List es pos) (lstE ss) := jf_lst (Nat.le_of_ble_eq_true hs) js
theorem f_lc {elt iter : Expr} {ifs : List Expr} {sI sE : G.Sem} {p : Pt} {own : List (PySem.Str × Nat)} {rI : Bool} (L : LcOk X Y.T Y.xf W N sc scope elt tg iter ifs own sI sE p ss rI) :
    JF X Y.T Y.xf W (.ListComp elt [⟨tg, iter, ifs, 0⟩] scope pos) (lcE sI sE (own.map (·.2)) p ss) := jf_lc E.cc L
/-! ### calls by names -/
theorem r_callK (m : Nat) (is : List Nat) {d : Df} {kws : List Keyword} {ks : List PySem.Str} (h : pt.defs[m]? = some d) (e : d.pa = .glo x) (hd : debB x = true) (hg : glbB sc x = true) (hb : ∀ fd, FunD Y.K d.name d.qual d.params d.body d.scope [] [] (d.pa.ad Y.K) fd → BdK Y.K fd d.ps ks is) (js : JKs X Y.T Y.xf W kws ks ss) :
    JE X Y.T Y.xf W (.Call (.Name x p) [] kws pos) (callKE (Γ.call m) is ss) true := by
  obtain ⟨fd, D, B, G0⟩ := E.F.fn m d h
  exact je_callK E.M G0 (Nat.le_succ k) ⟨E.F.st.fn_gl h e, D.kp, B, nB hd⟩ (hb fd D) (E.gl hg) js

theorem r_strO (cc : Nat) (f : Nat) {t : ClT} {d : Df} (h : pt.cls[cc]? = some t) (hm : t.cl.meths.lookup n_str = some f) (hd : pt.defs[f]? = some d) (hp : d.ps.length = 1) (hx : nmOf pt.nms n_str = "__str__") (hg : glbB sc "str" = true) (hmg : pt.free.contains ("str" : PySem.Str) = true) (hb : plainE e = true) (j : JE X Y.T Y.xf W e s true) :
    JE X Y.T Y.xf W (.Call (.Name "str" p) [e] [] pos) (strOE Γ cc s) true := je_strO E.M (E.F.at_c h) hm (E.F.dun h hx hm hd hp) (Nat.le_refl _) (E.gl hg) (E.mg0 hmg) hb j
theorem r_boolO (cc : Nat) (f : Nat) {t : ClT} {d : Df} (h : pt.cls[cc]? = some t) (hm : t.cl.meths.lookup n_bool = some f) (hd : pt.defs[f]? = some d) (hp : d.ps.length = 1) (hx : nmOf pt.nms n_bool = "__bool__") (hg : glbB sc "bool" = true) (hmg : pt.free.contains ("bool" : PySem.Str) = true) (hb : plainE e = true) (j : JE X Y.T Y.xf W e s true) :
    JE X Y.T Y.xf W (.Call (.Name "bool" p) [e] [] pos) (boolOE Γ cc s) true := je_boolO E.M (E.F.at_c h) hm (E.F.dun h hx hm hd hp) (Nat.le_refl _) (E.gl hg) (E.mg0 hmg) hb j
theorem r_star (ha : plainE a = true) (ja : JE X Y.T Y.xf W a sa true) (jb : JE X Y.T Y.xf W b sb rb) : JE X Y.T Y.xf W (.List [a, .Starred b p] pos) (consE sa sb) true := je_star E.c ha ja jb
theorem r_mkK (cc : Nat) (is : List Nat) {t : ClT} {d : Df} {y : PySem.Str} {ps : List PySem.Str} {kws : List Keyword} {ks : List PySem.Str} (h : pt.cls[cc]? = some t) (hd : pt.defs[t.cl.init]? = some d) (hp : d.ps = y :: ps) (hx : t.x = x) (hb : debB x = true) (hg : glbB sc x = true)
    (hk : ∀ fd, FunD Y.K d.name d.qual d.params d.body d.scope [] [] (d.pa.ad Y.K) fd → BdM Y.K fd d.ps ks is) (js : JKs X Y.T Y.xf W kws ks ss) : JE X Y.T Y.xf W (.Call (.Name x p) [] kws pos) (mkKE Γ cc is ss) true := by
  subst hx
  have Q := E.F.st.cl h
  obtain ⟨d', e1, e2⟩ := Q.init
  rw [hd] at e1
  cases e1
  obtain ⟨fd, D, B, G0⟩ := E.F.fn _ d hd
  have b := hk fd D
  rw [e2] at G0
  rw [hp] at G0 b
  exact je_mkK E.M (E.F.at_c h) (E.F.st.t_flds h) (by rw [E.F.st.t_cls h]; exact Q.mkr) G0 b (Nat.le_refl _) (by rw [E.F.st.t_cls h]; exact E.F.st.gl Q.gl) (nB hb) (E.gl hg) js
end
/-- how a keyword call binds -/
theorem bdK_of {pt : PT} {Y : Wd} {d : Df} {fd : FuncData} {ks : List PySem.Str} {is : List Nat} (D : FunD Y.K d.name d.qual d.params d.body d.scope [] [] (d.pa.ad Y.K) fd) (hl : is.length = d.ps.length)
    (h : ∀ (kV doc pm : Value) (an : Option Addr) (cdv ct : Value) (us : List Value), us.length = ks.length → bindArgs (PySem.W.fnOf d.name d.qual d.params d.body d.scope .none kV doc pm an cdv ct) ⟨[], ks.zip us⟩ = pure (d.ps.zip (pick .none is us))) : BdK Y.K fd d.ps ks is := by
  refine ⟨fun s us K hu => ?_, hl⟩
  obtain ⟨oc, od, dV, kV, doc, pm, an, cdv, ct, osl, rfl, lk, hcd, hD, hK⟩ := D.ex
  rcases hD with ⟨_, rfl⟩ | ⟨e, _⟩
  · exact .of_eq (h kV doc pm an cdv ct us hu)
  · exact absurd rfl e
theorem bdM_of {pt : PT} {Y : Wd} {d : Df} {fd : FuncData} {ks : List PySem.Str} {is : List Nat} (D : FunD Y.K d.name d.qual d.params d.body d.scope [] [] (d.pa.ad Y.K) fd) (hl : is.length + 1 = d.ps.length)
    (h : ∀ (kV doc pm : Value) (an : Option Addr) (cdv ct : Value) (z : Value) (us : List Value), us.length = ks.length → bindArgs (PySem.W.fnOf d.name d.qual d.params d.body d.scope .none kV doc pm an cdv ct) ⟨[z], ks.zip us⟩ = pure (d.ps.zip (z :: pick .none is us))) : BdM Y.K fd d.ps ks is := by
  refine ⟨fun s z us K hu => ?_, hl⟩
  obtain ⟨oc, od, dV, kV, doc, pm, an, cdv, ct, osl, rfl, lk, hcd, hD, hK⟩ := D.ex
  rcases hD with ⟨_, rfl⟩ | ⟨e, _⟩
  · exact .of_eq (h kV doc pm an cdv ct z us hu)
  · exact absurd rfl e
end G
/-! The rules of statements as a printed def takes them. -/
namespace G
open PySem PySem.Spec PyProof.Rows
open L2 (V Hp HO upd SqL SqT Rd VK XK TE TT TA TI TS TG TGs Ends WX Cx PE PT PA PI PS PSs PG PGs Inv OpR CallR RelV Vals R2 PC PW Gl Room FunD Binds PK)
/-- a def's body's surroundings -/
structure Eb (pt : G.PT) (Y : Wd) (Γ : Ctx) (k : Nat) (N : List PySem.Str) (X : Cx) (W : WX) (sc : Scope) (Ow0 : List Addr) (fr : Bool) : Prop extends En pt Y Γ k N X W sc where
  S : CxS X ⟨Y.T, Y.xf, W, Ow0, fr⟩ N sc (k + 1)
theorem not_fr {d : Df} {fr : Bool} (h : d.fre = false) (hf : fr = true → d.fre = true) : fr = false := by
  cases fr with
  | false => rfl
  | true => rw [hf rfl] at h; cases h
/-- what swappedStores asks of the scope -/
def envS (sc : Scope) : PySem.Env := { (default : PySem.Env) with scope := sc }
theorem sw_env {ts : List Expr} {v : Expr} {env : PySem.Env} {sc : Scope} (h : env.scope = sc) : swappedStores ts v env = swappedStores ts v (envS sc) := by
  subst h
  unfold swappedStores
  rfl
theorem sw2_env {v : Expr} {t : Option Expr} {l : Nat} {env : PySem.Env} {sc : Scope} (h : env.scope = sc) : swapsWith v t l env = swapsWith v t l (envS sc) := by
  subst h
  unfold swapsWith
  rfl
theorem lst_sh {ss : List G.Sem} : ∀ env st d st', (lstE ss).val env st = .ok d st' → ∃ xs, d = .lst xs := fun env st d st' h => by
  have h : ((args ss env st).bind fun ds st => O.ok (G.D.lst ds) st) = .ok d st' := h
  cases e : args ss env st with
  | ok ds st1 => rw [e] at h; cases h; exact ⟨_, rfl⟩
  | ex c fs st1 => rw [e] at h; cases h
  | bad => rw [e] at h; cases h
theorem lc_sh {sI sE : G.Sem} {own : List Nat} {p : Pt} {ss : List G.Sem} : ∀ env st d st', (lcE sI sE own p ss).val env st = .ok d st' → ∃ xs, d = .lst xs := lcV_sh
section
variable {pt : G.PT} {Y : Wd} {Γ : Ctx} {k : Nat} {N : List PySem.Str} {X : Cx} {W : WX} {sc scope : Scope} {Ow0 : List Addr}
variable {fr : Bool} (B : Eb pt Y Γ k N X W sc Ow0 fr)
variable {x y z : PySem.Str} {i j l : Nat} {pos pos' p p2 p3 apos cpos : Pos} {e a b c o tg : Expr} {es vs : List Expr} {s sa sb sc' so : G.Sem} {ss : List G.Sem} {str ra rb rc : Bool} {f g : StS} {st : Stmt} {sts sts2 : List Stmt}
abbrev Eb.w (B : Eb pt Y Γ k N X W sc Ow0 fr) : WS := ⟨Y.T, Y.xf, W, Ow0, fr⟩
theorem Eb.nml {x : PySem.Str} {i : Nat} (B : Eb pt Y Γ k N X W sc Ow0 fr) (h : locB N sc i x = true) : NmL X x i := by
  obtain ⟨h1, h2⟩ := He.ba h
  refine ⟨by rw [B.M.eN]; exact B.M.nd, by rw [B.M.eN]; exact of_decide_eq_true h1, ?_, .inl (B.S.fn x)⟩
  unfold L2.Loc
  rw [B.M.eS]
  rcases Bool.or_eq_true_iff.mp h2 with h | h
  · exact .inl (kind_ok h)
  · exact .inr (kind_ok h)
include B
theorem s_nil : JSs X B.w [] passS := jss_nil
theorem s_cons (j : JS X B.w st f) (js : JSs X B.w sts g) : JSs X B.w (st :: sts) (seqS f g) := jss_cons j js
theorem s_one (j : JS X B.w st f) : JSs X B.w [st] (seqS f passS) := jss_cons j jss_nil
theorem s_bads : JSs X B.w sts badS := jss_bad
theorem s_bad : JS X B.w st badS := js_bad
theorem s_frzs (i : Nat) (j : JSs X B.w sts f) : JSs X B.w sts (frzS i f) := jss_frz i j
theorem s_pass : JS X B.w (.Pass pos) passS := js_pass
theorem s_brk : JS X B.w (.Break pos) brkS := js_brk
theorem s_cont : JS X B.w (.Continue pos) contS := js_cont
theorem s_doc {x j} : JS X B.w (.Expr (.Constant (.str x) j p) pos) passS := js_doc
theorem s_ret0 (hw : fr = false) : JS X B.w (.Return none pos) ret0S := js_ret0 hw
theorem s_ret (hw : fr = false) (j : JE X Y.T Y.xf W e s true) : JS X B.w (.Return (some e) pos) (retS s) := js_ret hw j
theorem s_retF (j : JF X Y.T Y.xf W e s) (sh : ∀ env st d st', s.val env st = .ok d st' → ∃ xs, d = .lst xs) : JS X B.w (.Return (some e) pos) (retS s) := js_retF j sh
theorem s_retO (h : nmB N sc i x = true) : JSs X B.w [.Return (some (.Name x p)) pos] (frzS i (seqS (retS (vE i)) passS)) := jss_retO (L2.pe_var (by rw [B.M.eN]; exact (nm_ok h).1) (by rw [B.M.eS]; exact (nm_ok h).2.1) (nm_ok h).2.2.1 (nm_ok h).2.2.2)
theorem s_ex (h : noComp e = true) (j : JE X Y.T Y.xf W e s str) : JS X B.w (.Expr e pos) (exS s) := js_ex h j
theorem s_if (jc : JE X Y.T Y.xf W c s str) (ja : JSs X B.w sts f) (jb : JSs X B.w sts2 g) : JS X B.w (.If c sts sts2 pos) (ifS s f g) := js_if jc ja jb
theorem s_for {pt0 : Pt} (hf : plainE e = true) (j : JI X Y.T Y.xf W tg e s true) (t : PG X tg (tPt Y.T Ow0 pt0)) (jb : JSs X B.w sts f) : JS X B.w (.For tg e sts [] pos) (forS pt0 s f) := js_for B.S hf j t jb
theorem s_whl (jc : JE X Y.T Y.xf W c s str) (jb : JSs X B.w sts f) : JS X B.w (.While c sts [] pos) (whlS s f) := js_while B.S jc jb
theorem s_app (h : nmB N sc i x = true) (he : plainE e = true) (hl : (apos.endLine == cpos.line) = true) (j : JE X Y.T Y.xf W e s true) : JS X B.w (.Expr (.Call (.Attribute (.Name x p) "append" apos) [e] [] cpos) pos) (appS i s) :=
  js_app he hl (L2.pe_var (by rw [B.M.eN]; exact (nm_ok h).1) (by rw [B.M.eS]; exact (nm_ok h).2.1) (nm_ok h).2.2.1 (nm_ok h).2.2.2) j
theorem s_ins (h : nmB N sc i x = true) (ha : plainE a = true) (he : plainE e = true) (hl : (apos.endLine == cpos.line) = true) (ja : JE X Y.T Y.xf W a sa true) (j : JE X Y.T Y.xf W e s true) : JS X B.w (.Expr (.Call (.Attribute (.Name x p) "insert" apos) [a, e] [] cpos) pos) (insS i sa s) :=
  js_ins ha he hl (L2.pe_var (by rw [B.M.eN]; exact (nm_ok h).1) (by rw [B.M.eS]; exact (nm_ok h).2.1) (nm_ok h).2.2.1 (nm_ok h).2.2.2) ja j
theorem s_aug {op : Op2} {q : Operator} (h : locB N sc i x = true) (ho : (op = .add ∧ q = .Add) ∨ (op = .sub ∧ q = .Sub)) (j : JE X Y.T Y.xf W e s str) : JS X B.w (.AugAssign (.Name x p) q e pos) (augS i op s) := js_aug (B.nml h) ho j
/-- an assignment: its value needs no exchange -/
def noCompO (e : Expr) : Bool := noComp e
theorem s_nm (h : locB N sc i x = true) (hc : noComp e = true) (j : JE X Y.T Y.xf W e s true) : JS X B.w (.Assign [.Name x p] e pos) (nmS i s) :=
  js_asg (noComp_swaps hc _ _ _) (.inl rfl) rfl j (jt_nm (B.nml h))
theorem s_own (h : locB N sc i x = true) (hc : noComp e = true) (j : JF X Y.T Y.xf W e s) : JS X B.w (.Assign [.Name x p] e pos) (ownS i s) := js_own (B.nml h) (noComp_swaps hc _ _ _) j
def lcB (sc scope : Scope) (y : PySem.Str) : Bool := decide (sc.kind = .function) && (kindB sc y .local && !(scope.names.any fun x => match x with
  | (n, k) => n == y && (k == NameKind.local || k == NameKind.cell)))
theorem sw_lc {elt : Expr} {gs : List Comprehension} {cp py : Pos} {y : PySem.Str} {n : Nat} (h : lcB sc scope y = true) (hl : (py.line == cp.line) = true) : swapsWith (.ListComp elt gs scope cp) (some (.Name y py)) n X.env = pure true := by
  obtain ⟨h1, h⟩ := He.ba h
  obtain ⟨h2, h3⟩ := He.ba h
  exact L2.sw_true (by rw [B.M.eS]; exact of_decide_eq_true h1) (by rw [B.M.eS]; exact kind_ok h2) hl (nB h3)
theorem s_lcN {elt iter : Expr} {ifs : List Expr} {sI sE : G.Sem} {p0 : Pt} {own : List (PySem.Str × Nat)} {rI : Bool} {py spos : Pos} (h : locB N sc i y = true) (hl : lcB sc scope y = true) (hl2 : (py.line == pos.line) = true) (L : LcOk X Y.T Y.xf W N sc scope elt tg iter ifs own sI sE p0 ss rI) :
    JS X B.w (.Assign [.Name y py] (.ListComp elt [⟨tg, iter, ifs, 0⟩] scope pos) spos) (nmS i (lcE sI sE (own.map (·.2)) p0 ss)) :=
  js_lcN B.S.toCxC (B.nml h) (by rw [B.M.eS]; exact kind_ok (He.ba (He.ba hl).2).1) (sw_lc B hl hl2) L
theorem s_lcO {elt iter : Expr} {ifs : List Expr} {sI sE : G.Sem} {p0 : Pt} {own : List (PySem.Str × Nat)} {rI : Bool} {py spos : Pos} (h : locB N sc i y = true) (hl : lcB sc scope y = true) (hl2 : (py.line == pos.line) = true) (L : LcOk X Y.T Y.xf W N sc scope elt tg iter ifs own sI sE p0 ss rI) :
    JS X B.w (.Assign [.Name y py] (.ListComp elt [⟨tg, iter, ifs, 0⟩] scope pos) spos) (ownS i (lcE sI sE (own.map (·.2)) p0 ss)) :=
  js_lcO B.S.toCxC (B.nml h) (by rw [B.M.eS]; exact kind_ok (He.ba (He.ba hl).2).1) (sw_lc B hl hl2) L
theorem p_nmB {pos : Pos} (h : locB N sc i x = true) : PG X (.Name x pos) (tPt Y.T Ow0 (.nm i)) := pt_nm (B.nml h)
theorem s_nmC (h : locB N sc i x = true) (hc : swapsWith e (some (.Name x p)) pos.line (envS sc) = pure false) (j : JE X Y.T Y.xf W e s true) : JS X B.w (.Assign [.Name x p] e pos) (nmS i s) :=
  js_asg ((sw2_env B.M.eS).trans hc) (.inl rfl) rfl j (jt_nm (B.nml h))
theorem s_ownC (h : locB N sc i x = true) (hc : swapsWith e (some (.Name x p)) pos.line (envS sc) = pure false) (j : JF X Y.T Y.xf W e s) : JS X B.w (.Assign [.Name x p] e pos) (ownS i s) := js_own (B.nml h) ((sw2_env B.M.eS).trans hc) j
/-! targets -/
theorem t_nm (h : locB N sc i x = true) : JT X B.w (.Name x p) (nmT i) := jt_nm (B.nml h)
theorem t_osub (h : nmB N sc i x = true) (hb : plainE b = true) (j : JE X Y.T Y.xf W b sb true) : JT X B.w (.Subscript (.Name x p) b pos) (osubR i sb) :=
  jt_osub (L2.pe_var (by rw [B.M.eN]; exact (nm_ok h).1) (by rw [B.M.eS]; exact (nm_ok h).2.1) (nm_ok h).2.2.1 (nm_ok h).2.2.2) hb j
theorem t_sub (hb : plainE b = true) (ja : JE X Y.T Y.xf W a sa true) (j : JE X Y.T Y.xf W b sb true) : JT X B.w (.Subscript a b pos) (subR sa sb) := jt_sub hb ja j
theorem s_tg {f : D → StS} (hc : noComp e = true) (ht : isTup tg = false ∨ isTup e = false) (he : (assignEach [tg] X.env).map (·.2) = [assign tg X.env]) (j : JE X Y.T Y.xf W e s true) (t : JT X B.w tg f) : JS X B.w (.Assign [tg] e pos) (tgS f s) :=
  js_asg (noComp_swaps hc _ _ _) ht he j t
theorem s_unp {fs : List (D → StS)} {m : Nat} (hc : noComp e = true) (ht : isTup e = false) (j : JE X Y.T Y.xf W e s true) (t : JTs X B.w es fs) : JS X B.w (.Assign [.Tuple es m p] e pos) (unpS fs s) := js_unp B.S.toCxC hc ht j t
theorem s_asgn {fs : List (D → StS)} {m m2 : Nat} (hw : swappedStores [.Tuple es m p] (.Tuple vs m2 p2) (envS sc) = pure none) (hs : Nat.ble ss.length 1000 = true) (hl : fs.length = ss.length) (js : JEs X Y.T Y.xf W vs ss) (t : JTs X B.w es fs) : JS X B.w (.Assign [.Tuple es m p] (.Tuple vs m2 p2) pos) (asgnS fs ss) :=
  js_asgn B.S.toCxC ((sw_env B.M.eS).trans hw) (Nat.le_of_ble_eq_true hs) hl js t
theorem s_par2 {px py : Pos} {kt k2 : Nat} {oi oj : Bool} (hi : locB N sc i x = true) (hj : locB N sc j y = true) (hij : i ≠ j) (hx : kindB sc x .local = true) (hy : kindB sc y .local = true) (hw : swappedStores [.Tuple [.Name x px, .Name y py] kt p] (.Tuple [a, b] k2 p2) (envS sc) = pure (some [x, y])) (js : JOs X Y.T Y.xf W [oi, oj] [a, b] ss) :
    JS X B.w (.Assign [.Tuple [.Name x px, .Name y py] kt p] (.Tuple [a, b] k2 p2) pos) (parS [(oi, i), (oj, j)] ss) :=
  js_par2 B.S.calm (B.nml hi) (B.nml hj) hij (by rw [B.M.eS]; exact kind_ok hx) (by rw [B.M.eS]; exact kind_ok hy) ((sw_env B.M.eS).trans hw) js
theorem s_par3 {px py pz : Pos} {kt k2 : Nat} {oi oj ol : Bool} (hi : locB N sc i x = true) (hj : locB N sc j y = true) (hl : locB N sc l z = true) (hij : i ≠ j) (hil : i ≠ l) (hjl : j ≠ l) (hx : kindB sc x .local = true) (hy : kindB sc y .local = true) (hz : kindB sc z .local = true)
    (hw : swappedStores [.Tuple [.Name x px, .Name y py, .Name z pz] kt p] (.Tuple [a, b, c] k2 p2) (envS sc) = pure (some [x, y, z])) (js : JOs X Y.T Y.xf W [oi, oj, ol] [a, b, c] ss) :
    JS X B.w (.Assign [.Tuple [.Name x px, .Name y py, .Name z pz] kt p] (.Tuple [a, b, c] k2 p2) pos) (parS [(oi, i), (oj, j), (ol, l)] ss) :=
  js_par3 B.S.calm (B.nml hi) (B.nml hj) (B.nml hl) hij hil hjl (by rw [B.M.eS]; exact kind_ok hx) (by rw [B.M.eS]; exact kind_ok hy) (by rw [B.M.eS]; exact kind_ok hz) ((sw_env B.M.eS).trans hw) js
theorem s_parN {kt k2 : Nat} {ts : List (Bool × Nat)} (hw : swappedStores [.Tuple es kt p] (.Tuple vs k2 p2) (envS sc) = pure none) (hs : Nat.ble ts.length 1000 = true) (hn : NmLs X es ts) (js : JOs X Y.T Y.xf W (ts.map (·.1)) vs ss) : JS X B.w (.Assign [.Tuple es kt p] (.Tuple vs k2 p2) pos) (parS ts ss) :=
  js_parN B.S.calm ((sw_env B.M.eS).trans hw) (Nat.le_of_ble_eq_true hs) hn js
theorem s_fld (f : Nm) (hx : nmOf pt.nms f = x) (hc : noComp e = true) (jo : JE X Y.T Y.xf W o so true) (j : JE X Y.T Y.xf W e s true) : JS X B.w (.Assign [.Attribute o x p] e pos) (fldS Γ f so s) :=
  js_fld B.S.toCxG rfl B.M.eKY B.F.gam (by show Y.T.nm f = x; rw [B.F.st.t_nm]; exact hx) (noComp_swaps hc _ _ _) jo j
theorem s_raise (cc : Nat) {fn : Nm} {t : XcT} (h : pt.exs[cc]? = some t) (hf : t.q.field = [fn]) (hx : t.x = x) (hd : debB x = true) (hg : glbB sc x = true) (hpl : plainE e = true) (j : JE X Y.T Y.xf W e s true) :
    JS X B.w (.Raise (some (.Call (.Name x p) [e] [] cpos)) none pos) (raiseS Γ cc [s]) := by
  subst hx
  have h1 := all_at B.F.st.cs.2.2.2.1 h
  exact js_raise B.S B.M (B.F.at_x h) hf (by rw [B.F.st.exf]; simp only [xfOf, h, hf]) (by rw [B.F.st.t_nm]) (B.F.st.t_exc h) (B.F.err h hf) (Nat.le_refl _) (B.gl hg) (B.F.st.gl (He.ba h1).1) (nB hd) hpl j
end
end G
/-! The rules within except suites, and of try. -/
namespace G
open PySem PySem.Spec PyProof.Rows
open L2 (V Hp HO upd SqL SqT Rd VK XK TE TT TA TI TS TG TGs Ends WX Cx PE PT PA PI PS PSs PG PGs Inv OpR CallR RelV Vals R2 PC PW Gl Room FunD Binds PK Takes Zc)
structure EnH (pt : G.PT) (Y : Wd) (Γ : Ctx) (k : Nat) (N : List PySem.Str) (X : Cx) (sc : Scope) : Prop where
  F : FsH pt Y Γ k
  M : CxH X Y N sc (k + 1)
  on : pt.xon = true
section
variable {pt : G.PT} {Y : Wd} {Γ : Ctx} {k : Nat} {N : List PySem.Str} {X : Cx} {sc : Scope} {Ow0 : List Addr} {fr : Bool}
theorem EnH.c (E : EnH pt Y Γ k N X sc) : CxG X Y.T N sc (k + 1) := E.M.toCxG
theorem EnH.gl (E : EnH pt Y Γ k N X sc) {x : PySem.Str} (h : glbB sc x = true) : Gl X x := by
  show X.env.scope.names.lookup x = some .globalImplicit
  rw [E.M.eS]
  exact kind_ok h
theorem EnH.mg0 (E : EnH pt Y Γ k N X sc) {x : PySem.Str} (h : pt.free.contains x = true) : X.mg x = none := by rw [E.M.em]; exact E.F.st.free h
theorem EnH.var (E : EnH pt Y Γ k N X sc) {x : PySem.Str} {i : Nat} {pos : Pos} (h : nmB N sc i x = true) : PE X (.Name x pos) (L2.tVar i) :=
  L2.pe_var (by rw [E.M.eN]; exact (nm_ok h).1) (by rw [E.M.eS]; exact (nm_ok h).2.1) (nm_ok h).2.2.1 (nm_ok h).2.2.2
theorem EnH.nml (E : EnH pt Y Γ k N X sc) {x : PySem.Str} {i : Nat} (h : locB N sc i x = true) : NmL X x i := by
  obtain ⟨h1, h2⟩ := He.ba h
  refine ⟨by rw [E.M.eN]; exact E.M.nd, by rw [E.M.eN]; exact of_decide_eq_true h1, ?_, .inl (E.M.fn x)⟩
  unfold L2.Loc
  rw [E.M.eS]
  rcases Bool.or_eq_true_iff.mp h2 with h | h
  · exact .inl (kind_ok h)
  · exact .inr (kind_ok h)
variable (E : EnH pt Y Γ k N X sc)
include E
variable {x y : PySem.Str} {i j : Nat} {pos p p2 py apos cpos : Pos} {e a b c o : Expr} {es : List Expr} {s sa sb sc' : G.Sem} {ss : List G.Sem} {str ra rb rc : Bool} {f g : StS} {st : Stmt} {sts sts2 : List Stmt}
theorem h_v (h : nmB N sc i x = true) : JE X Y.T Y.xf W0 (.Name x pos) (vE i) true := je_v E.c (nm_ok h).1 (nm_ok h).2.1 (nm_ok h).2.2.1 (nm_ok h).2.2.2
theorem h_k {u : Const} {d : G.D} {m : Nat} (h : conD u = some d) : JE X Y.T Y.xf W0 (.Constant u m pos) (kE d) true := je_k E.c h
theorem h_op {op : Op2} {q : Operator} (h : binOf op = some q) (ja : JE X Y.T Y.xf W0 a sa ra) (jb : JE X Y.T Y.xf W0 b sb rb) : JE X Y.T Y.xf W0 (.BinOp a q b pos) (opE op sa sb) true := je_bin E.c h ja jb
theorem h_cmp {op : Op2} {q : CmpOp} (h : cmpOf op = some q) (hb : plainE b = true) (ja : JE X Y.T Y.xf W0 a sa ra) (jb : JE X Y.T Y.xf W0 b sb rb) : JE X Y.T Y.xf W0 (.Compare a [q] [b] pos) (opE op sa sb) true := je_cmp0 E.c h hb ja jb
theorem h_chain {op op2 : Op2} {q q2 : CmpOp} (h : cmpOf op = some q) (h' : cmpOf op2 = some q2) (hc : plainE c = true) (ja : JE X Y.T Y.xf W0 a sa ra) (jb : JE X Y.T Y.xf W0 b sb rb) (jc : JE X Y.T Y.xf W0 c sc' rc) :
    JE X Y.T Y.xf W0 (.Compare a [q, q2] [b, c] pos) (chE op op2 sa sb sc') true := je_chain E.c h h' hc ja jb jc
theorem h_no (ja : JE X Y.T Y.xf W0 a sa ra) : JE X Y.T Y.xf W0 (.UnaryOp .Not a pos) (Sem.no sa) true := je_no E.c ja
theorem h_ifeS (jc : JE X Y.T Y.xf W0 c sc' rc) (ja : JE X Y.T Y.xf W0 a sa true) (jb : JE X Y.T Y.xf W0 b sb true) : JE X Y.T Y.xf W0 (.IfExp c a b pos) (Sem.ife sc' sa sb) true := je_ife E.c jc ja jb
theorem h_and (h : es.isEmpty = false) (js : JEs X Y.T Y.xf W0 es ss) : JE X Y.T Y.xf W0 (.BoolOp .And es pos) (Sem.bop true ss) true := je_bop true js (by intro z; rw [z] at h; cases h)
theorem h_or (h : es.isEmpty = false) (js : JEs X Y.T Y.xf W0 es ss) : JE X Y.T Y.xf W0 (.BoolOp .Or es pos) (Sem.bop false ss) true := je_bop false js (by intro z; rw [z] at h; cases h)
theorem h_tup {m : Nat} (hs : Nat.ble ss.length 1000 = true) (js : JEs X Y.T Y.xf W0 es ss) : JE X Y.T Y.xf W0 (.Tuple es m pos) (tupE ss) true := je_tup E.c (Nat.le_of_ble_eq_true hs) js
theorem h_lst (hs : Nat.ble ss.length 1000 = true) (js : JEs X Y.T Y.xf W0 es ss) : JE X Y.T Y.xf W0 (.List es pos) (lstE ss) true := je_lst E.c (Nat.le_of_ble_eq_true hs) js
theorem h_repr (hg : glbB sc (biNm .repr) = true) (hm : pt.free.contains (biNm .repr : PySem.Str) = true) (hne : es.isEmpty = false) (js : JWs X Y.T Y.xf W0 es ss) : JE X Y.T Y.xf W0 (.Call (.Name (biNm .repr) p) es [] pos) (biE .repr ss) true :=
  je_biR (f := .repr) E.c (cr_repr E.c) (E.gl hg) (E.mg0 hm) (by intro z; rw [z] at hne; cases hne) js
/-- isinstance(e, T), e the exception: T an error class, one of the base classes -/
theorem xis_of {m : Nat} {τ : Ty} (hτ : pt.xtys[m]? = some τ) : ∀ c b, xisV Γ c τ = some b → XcF X.K (Y.T.exc c) ∧ PySem.W.kitOne X.K (.ref (Y.T.exc c)) (xtyV pt Y.K τ) = some b := fun c b h => by
  unfold xisV at h
  rw [E.F.exs] at h
  obtain ⟨q, h1, h2⟩ := Option.bind_eq_some_iff.mp h
  obtain ⟨t, h3, h4⟩ := Option.map_eq_some_iff.mp h1
  subst h4
  rw [E.M.eKY]
  exact ⟨E.F.st.xcf E.on h3, E.F.st.xis E.on hτ h3 h2⟩
theorem h_xis (jj m : Nat) (hτ : pt.xtys[m]? = some (.exc jj)) (hx : pt.xnm jj = x) (hd : debB x = true) (hy : nmB N sc i y = true) (hg : glbB sc "isinstance" = true) (hm : pt.free.contains ("isinstance" : PySem.Str) = true) (hg2 : glbB sc x = true) :
    JE X Y.T Y.xf W0 (.Call (.Name "isinstance" p) [.Name y py, .Name x p2] [] pos) (xisE Γ i (.exc jj)) true := by
  subst hx
  exact je_xis E.c E.M.hot (xis_of E hτ) (c := .ref (He.ga Y.K (pt.xnm jj))) (.own _) (E.gl hg) (E.mg0 hm) (L2.pe_glob (E.gl hg2) (by rw [E.M.em]; exact E.F.st.xgl E.on hτ) rfl (nB hd)) (E.var hy)
/-- .. a built-in one -/
def bxN : Ty → String
  | .value => "ValueError" | .lookup => "LookupError" | .arith => "ArithmeticError" | _ => ""
def bxB : Ty → Bool
  | .value | .lookup | .arith => true
  | _ => false
omit E in
theorem bx_boot {τ : Ty} (h : bxB τ = true) : bootBuiltins (bxN τ) = some (.type (bxN τ)) ∧ (bxN τ : PySem.Str) ≠ "__name__" ∧ ((bxN τ : PySem.Str) == ("__debug__" : PySem.Str)) = false ∧ xtyV pt Y.K τ = .type (bxN τ) := by
  cases τ with
  | value => exact ⟨by kernel_rfl, by decide, by decide, rfl⟩
  | lookup => exact ⟨by kernel_rfl, by decide, by decide, rfl⟩
  | arith => exact ⟨by kernel_rfl, by decide, by decide, rfl⟩
  | _ => cases h
theorem h_xisB (τ : Ty) (m : Nat) (hτ : pt.xtys[m]? = some τ) (hb : bxB τ = true) (hy : nmB N sc i y = true) (hg : glbB sc "isinstance" = true) (hm : pt.free.contains ("isinstance" : PySem.Str) = true) (hg2 : glbB sc (bxN τ) = true) (hm2 : pt.free.contains (bxN τ : PySem.Str) = true) :
    JE X Y.T Y.xf W0 (.Call (.Name "isinstance" p) [.Name y py, .Name (bxN τ) p2] [] pos) (xisE Γ i τ) true := by
  obtain ⟨h1, h2, h3, h4⟩ := bx_boot (pt := pt) (Y := Y) hb
  exact je_xis E.c E.M.hot (by have q := xis_of E hτ; rw [h4] at q; exact q) (c := .ty (bxN τ)) (.ty _) (E.gl hg) (E.mg0 hm) (L2.pe_bltn (E.gl hg2) (E.mg0 hm2) h1 rfl h2 h3) (E.var hy)
/-- e.f, e the exception -/
theorem h_xat (fn : Nm) (hx : nmOf pt.nms fn = x) (hy : nmB N sc i y = true) : JE X Y.T Y.xf W0 (.Attribute (.Name y py) x pos) (xatE Γ fn i) true :=
  je_xat E.c E.M.hot (fun c q hq hf => by
    rw [E.F.exs] at hq
    obtain ⟨t, h3, h4⟩ := Option.map_eq_some_iff.mp hq
    subst h4
    have h1 := all_at E.F.st.cs.2.2.2.1 h3
    obtain ⟨_, h1⟩ := He.ba h1
    obtain ⟨_, h1⟩ := He.ba h1
    rw [hf] at h1
    obtain ⟨g3, _⟩ := He.ba h1
    refine ⟨by rw [E.F.st.exf]; simp only [xfOf, h3, hf], by rw [E.M.eKY]; exact E.F.st.xcf E.on h3, ?_⟩
    rw [E.M.eKY, E.F.st.t_exc h3, ← hx]
    exact He.eqO_ok g3) (by rw [E.F.st.t_nm]; exact hx) (E.var hy)
/-- f(e, ..), e the exception -/
theorem h_xcall (m : Nat) {d : Df} (h : pt.defs[m]? = some d) (hh : d.hot = true) (e : d.pa = .glo x) (hd : debB x = true) (hg : glbB sc x = true) (hl : ss.length + 1 = d.ps.length) (hy : nmB N sc i y = true) (js : JEs X Y.T Y.xf W0 es ss) :
    JE X Y.T Y.xf W0 (.Call (.Name x p) (.Name y py :: es) [] pos) (xcallE (Γ.call m) i ss) true := by
  obtain ⟨fd, D, B, G0⟩ := E.F.fn m d h hh
  exact je_xcall E.c E.M.eP E.M.ew E.M.eKY E.M.em E.M.eb E.M.hot G0 (Nat.le_succ k) ⟨E.F.st.fn_gl h e, D.kp, B, nB hd⟩ (E.gl hg) hl (E.var hy) js
/-! statements -/
theorem hs_nil : JSs X ⟨Y.T, Y.xf, W0, Ow0, fr⟩ [] passS := jss_nil
theorem hs_cons (j : JS X ⟨Y.T, Y.xf, W0, Ow0, fr⟩ st f) (js : JSs X ⟨Y.T, Y.xf, W0, Ow0, fr⟩ sts g) : JSs X ⟨Y.T, Y.xf, W0, Ow0, fr⟩ (st :: sts) (seqS f g) := jss_cons j js
theorem hs_doc {x j} : JS X ⟨Y.T, Y.xf, W0, Ow0, fr⟩ (.Expr (.Constant (.str x) j p) pos) passS := js_doc
theorem hs_pass : JS X ⟨Y.T, Y.xf, W0, Ow0, fr⟩ (.Pass pos) passS := js_pass
theorem hs_ret (hw : fr = false) (j : JE X Y.T Y.xf W0 e s true) : JS X ⟨Y.T, Y.xf, W0, Ow0, fr⟩ (.Return (some e) pos) (retS s) := js_ret hw j
theorem hs_if (jc : JE X Y.T Y.xf W0 c s str) (ja : JSs X ⟨Y.T, Y.xf, W0, Ow0, fr⟩ sts f) (jb : JSs X ⟨Y.T, Y.xf, W0, Ow0, fr⟩ sts2 g) : JS X ⟨Y.T, Y.xf, W0, Ow0, fr⟩ (.If c sts sts2 pos) (ifS s f g) := js_if jc ja jb
theorem hs_nm (h : locB N sc i x = true) (hc : noComp e = true) (j : JE X Y.T Y.xf W0 e s true) : JS X ⟨Y.T, Y.xf, W0, Ow0, fr⟩ (.Assign [.Name x p] e pos) (nmS i s) :=
  js_asg (noComp_swaps hc _ _ _) (.inl rfl) rfl j (jt_nm (E.nml h))
end
/-! ### try -/
section
variable {pt : G.PT} {Y : Wd} {Γ : Ctx} {k : Nat} {N : List PySem.Str} {X : Cx} {W : WX} {sc : Scope} {Ow0 : List Addr} {fr : Bool}
theorem Eb.tr (B : Eb pt Y Γ k N X W sc Ow0 fr) {W' : WX} {pn : List (Addr × PySem.Obj)} {xe : Value → Shared → Prop} (tk : Takes (X.tr pn xe) W') (po : PassesOwn (model X.prog X.w) X.A X.env xe) : Eb pt Y Γ k N (X.tr pn xe) W' sc Ow0 fr := by
  have C : CxC (X.tr pn xe) Y.T N sc (k + 1) := ⟨⟨B.M.eK, B.M.eN, B.M.nd, B.M.eS, B.M.rm, B.M.guards⟩, B.M.calm, B.M.room, B.M.hx0⟩
  exact ⟨⟨B.F, ⟨C, B.M.eP, B.M.ew, B.M.eKY, B.M.em, B.M.eb, L2.passAt tk⟩⟩, ⟨C, B.S.fn, po, tk⟩⟩
/-- a suite's surroundings -/
theorem Eb.suite (B : Eb pt Y Γ k N X W sc Ow0 fr) (on : pt.xon = true) {a : Addr} {oe : PySem.Obj} {d : Option Addr} {c : Nat} (pn : List (Addr × PySem.Obj)) (hz : Zc (.ref (Y.T.exc c)) d oe) (hf : ∃ fv, oe.data = .fields fv) : EnH pt (Y.hot a d c) Γ k N (X.suite a ((a, oe) :: pn)) sc :=
  ⟨B.F.hot a d c, ⟨⟨B.M.eK, B.M.eN, B.M.nd, B.M.eS, ⟨B.M.rm.dp, B.M.rm.un⟩, B.M.guards⟩, B.S.fn, ⟨a, d, c, oe, rfl, List.mem_cons_self, hz, hf⟩, B.M.eP, B.M.ew, B.M.eKY, B.M.em, B.M.eb⟩, on⟩
variable (B : Eb pt Y Γ k N X W sc Ow0 fr)
include B
variable {x n : PySem.Str} {i : Nat} {pos np : Pos} {hds : List ExceptHandler} {h : ExceptHandler} {gs : List (Nat × StS)} {b : Stmt} {bs body : List Stmt} {f g : StS}
abbrev okX (pt : G.PT) (c : Nat) : Prop := c < pt.exs.length
theorem hd_nil : HdsG X B.w n (okX pt) [] [] := .nil
theorem hd_cons (on : pt.xon = true) (c : Nat) {t : XcT} (h : pt.exs[c]? = some t) (hx : t.x = x) (hd : debB x = true) (hg : glbB sc x = true)
    (su : ∀ (a : Addr) (d : Option Addr) (X' : Cx), EnH pt (Y.hot a d c) Γ k N X' sc → JSs X' ⟨(Y.hot a d c).T, Y.xf, W0, Ow0, fr⟩ (b :: bs) g) (r : HdsG X B.w n (okX pt) hds gs) :
    HdsG X B.w n (okX pt) (.ExceptHandler (some (.Name x np)) (some n) (b :: bs) pos :: hds) ((c, g) :: gs) := by
  subst hx
  have h1 := (He.ba (all_at B.F.st.cs.2.2.2.1 h)).1
  refine .cons ⟨B.gl hg, nB hd, .inl (by rw [B.M.em, B.F.st.gl h1]; exact congrArg (fun z => some (Value.ref z)) (B.F.st.t_exc h).symm)⟩ (fun c' hc' => by rw [B.M.eKY]; exact B.F.st.exm on h c' hc') (fun a oe d pn hz hf => su a d _ (B.suite on pn hz hf)) r
theorem s_try {d : Df} (Z : LmX d Y X) (hi : pnB N sc i n = true) (hok : (gs.all fun p => decide (p.1 < pt.exs.length)) = true)
    (hb : ∀ (W' : WX) (X' : Cx) (B' : Eb pt Y Γ k N X' W' sc Ow0 fr), JSs X' B'.w body f) (hh : HdsG X B.w n (okX pt) (h :: hds) gs) : JS X B.w (.Try body (h :: hds) [] [] pos) (tryS f i gs) := by
  obtain ⟨h1, h2⟩ := He.ba hi
  refine js_try B.S Z.stk Z.frm (by rw [B.M.eN]; exact of_decide_eq_true h1) ?_ (fun W' pn xe tk po => hb W' _ (B.tr tk po)) (fun c g hg => ?_) hh
  · show X.env.scope.names.lookup n = some .local
    rw [B.M.eS]
    exact kind_ok h2
  · exact of_decide_eq_true (List.all_eq_true.mp hok (c, g) (mem_lookup hg))
end
end G
/-! From a program's table to its law. -/
namespace G
open PySem PySem.Spec PyProof.Rows
open L2 (V Hp HO upd SqL SqT Rd VK XK Inv RelV Vals Gl Room Env0 Mod HOk FunD Binds)
theorem law_glue {l : PySem.W.OpenLaw} {pt : PT} {nH n iL k : Nat} {q : Program} {loose : List PySem.Str} {XP : (PySem.Str → Option Value) → Heap → Prop} {d : DefRec} {dL : Df} {x : PySem.Str}
    (hn : l.most = some 63) (hdf : d.params.defaults = []) (hr : Room (2 * n + 1) callerA) (hL : pt.defs[iL]? = some dL) (pL : dL.pa = .glo d.name) (sL : dL.ps = [x])
    (ok : ∀ d ∈ pt.defs, DfOk pt d) (xok : XOk pt) (ht : ∀ ns : List Int, ns.length ≤ 63 → Trues (pt.call n iL) ns) :
    PySem.W.WalkO q loose XP (hookP nH pt).says l.row.toRowW d [] (fun f vs => PySem.call f vs) := by
  refine walk_ofG (x := x) (k := 2 * n + 1) (c := pt.call n iL) hn (by decide +kernel) hdf hr (fun w mg fa h Y hns hmg => ?_) ht
  obtain ⟨K, KX, says, htab⟩ := Y
  have S0 : St pt ⟨l.prog, w, K, mg, h, tbOf pt K, xfOf pt⟩ := ⟨rfl, rfl, KX, hns, says⟩
  have eg := S0.fn_gl hL pL
  have e2 : fa = dL.pa.ad K := by
    have := hmg.symm.trans eg
    cases this
    rfl
  subst e2
  obtain ⟨fd, D⟩ := S0.fd hL
  have hb := FunD.bindsA (ps := [x]) D (by have b := (ok dL (List.mem_of_getElem? hL)).bd; rw [sL] at b; exact b)
  obtain ⟨hc1, hc2⟩ := He.ba S0.chkT
  have Z : TabsAt h K (tbOf pt K) (pt.tabs.map fun i => (cAd K (pt.dAd K i), tabAd K (pt.dAd K i))) := by
    refine ⟨fun p hp => ?_, fun p hp => ?_, fun p hp => ?_, ?_, ?_⟩
    · obtain ⟨i, hi, rfl⟩ := List.mem_map.mp hp
      exact htab i hi
    · obtain ⟨i, hi, rfl⟩ := List.mem_map.mp hp
      have h3 := (He.ba (He.ba (List.all_eq_true.mp hc1 i hi)).2).2
      cases e : K.lookup (tabAd K (pt.dAd K i)) with
      | none => rfl
      | some o => exact absurd h3 (by show ¬ (match K.lookup (tabAd K (pt.dAd K i)) with | none => true | some _ => false) = true; rw [e]; simp)
    · obtain ⟨i, hi, rfl⟩ := List.mem_map.mp hp
      exact PySem.W.codeHd_of_K KX (He.ba (He.ba (List.all_eq_true.mp hc1 i hi)).2).1
    · simp only [tbOf, List.map_map]; rfl
    · have := of_decide_eq_true hc2
      rw [List.map_map]
      exact this
  refine ⟨K, tbOf pt K, xfOf pt, fd, _, KX, rfl, Z, fun s u => hb s [u] rfl, fun base KB hbs TB => ?_⟩
  have S : St pt ⟨l.prog, w, K, mg, base, tbOf pt K, xfOf pt⟩ := ⟨rfl, rfl, KB, hbs, says⟩
  obtain ⟨fd2, D2, _, G0⟩ := (all_ok ok xok S rfl (fun i hi => TB (cAd K (pt.dAd K i), tabAd K (pt.dAd K i)) (List.mem_map.mpr ⟨i, hi, rfl⟩)) n).fn iL dL hL
  obtain ⟨oc, od, dV, kV, doc, pm, an, cdv, ct, osl, rfl, lk, _⟩ := D.ex
  obtain ⟨oc2, od2, dV2, kV2, doc2, pm2, an2, cdv2, ct2, osl2, rfl, lk2, _⟩ := D2.ex
  have el := lk.symm.trans lk2
  rw [sL] at G0
  injection el with el
  injection el with _ _ e3
  injection e3 with e3
  rw [e3]
  exact G0
theorem al_nil {α : Type} {P : α → Prop} : ∀ d ∈ ([] : List α), P d := fun _ h => by cases h
theorem al_cons {α : Type} {P : α → Prop} {a : α} {l : List α} (h : P a) (hs : ∀ d ∈ l, P d) : ∀ d ∈ a :: l, P d := fun d hd => by
  rcases List.mem_cons.mp hd with e | hd
  · rw [e]; exact h
  · exact hs d hd
end G
namespace G
def m_is_integer (Γ : Ctx) : StS :=
  seqS (retS (Sem.bop true [isiE Γ (vE 0) .int, Sem.no (isiE Γ (vE 0) .bool)])) (passS)
def m_is_within (Γ : Ctx) (p0 : Fd) : StS :=
  seqS (retS (Sem.bop true [callE p0 [vE 0], chE .le .le (vE 1) (vE 0) (vE 2)])) (passS)
def m_is_name (Γ : Ctx) : StS :=
  seqS (ifS (Sem.bop false [Sem.no (isiE Γ (vE 0) .str), Sem.no (chE .le .le (kE (.int 1)) (biE .len [vE 0]) (kE (.int 8)))]) (seqS (retS (kE (.bl false))) (passS)) (passS)) (seqS (retS (Sem.bop true [opE .mem (opE .idx (vE 0) (kE (.int 0))) (kE (.str [97, 98, 99, 100, 101, 102, 103, 104, 105, 106, 107, 108, 109, 110, 111, 112, 113, 114, 115, 116, 117, 118, 119, 120, 121, 122])), biE .all [lcE (vE 0) (Sem.bop false [opE .mem (vE 1) (kE (.str [97, 98, 99, 100, 101, 102, 103, 104, 105, 106, 107, 108, 109, 110, 111, 112, 113, 114, 115, 116, 117, 118, 119, 120, 121, 122])), opE .mem (vE 1) (kE (.str [48, 49, 50, 51, 52, 53, 54, 55, 56, 57]))]) [1] (.nm 1) []]])) (passS))
def m_check_points (Γ : Ctx) (p0 : Fd) (p1 : Nat) : StS :=
  seqS (ifS (Sem.no (callE p0 [vE 0, kE (.int 1), kE (.int 9)])) (seqS (raiseS Γ p1 [vE 0]) (passS)) (passS)) (passS)
def m_read_number (Γ : Ctx) : StS :=
  seqS (ifS (Sem.bop false [opE .eq (vE 0) (kE (.str [])), opE .gt (biE .len [vE 0]) (kE (.int 40)), Sem.no (biE .all [lcE (vE 0) (opE .mem (vE 4) (kE (.str [48, 49, 50, 51, 52, 53, 54, 55, 56, 57]))) [4] (.nm 4) []])]) (seqS (retS (kE .non)) (passS)) (passS)) (seqS (nmS 3 (biE .int [vE 0])) (seqS (retS (Sem.ife (Sem.bop true [opE .eq (biE .str [vE 3]) (vE 0), chE .le .le (vE 1) (vE 3) (vE 2)]) (vE 3) (kE .non))) (passS)))
def m_is_row (Γ : Ctx) (p0 : Fd) (p1 : Fd) : StS :=
  seqS (ifS (Sem.bop false [Sem.no (isiE Γ (vE 0) .tuple), opE .ne (biE .len [vE 0]) (kE (.int 3)), Sem.no (callE p0 [opE .idx (vE 0) (kE (.int 0))])]) (seqS (retS (kE (.bl false))) (passS)) (passS)) (seqS (retS (Sem.bop true [callE p1 [opE .idx (vE 0) (kE (.int 1)), kE (.int 1), kE (.int 1000000000000000000000000000000)], callE p1 [opE .idx (vE 0) (kE (.int 2)), kE (.int 0), kE (.int 1000000000000000000000000000000000)]])) (passS))
def m_wrong_row (Γ : Ctx) (p0 : Fd) : StS :=
  seqS (ownS 1 (lstE [])) (seqS (forS (.tp [.nm 2, .nm 3]) (enumE (vE 0)) (seqS (ifS (Sem.bop false [Sem.no (callE p0 [vE 3]), opE .mem (opE .idx (vE 3) (kE (.int 0))) (pkE 1), opE .ge (vE 2) (kE (.int 6))]) (seqS (retS (vE 2)) (passS)) (passS)) (seqS (appS 1 (opE .idx (vE 3) (kE (.int 0)))) (passS)))) (seqS (retS (kE .non)) (passS)))
def m_check_rows (Γ : Ctx) (p0 : Nat) (p1 : Fd) : StS :=
  seqS (ifS (Sem.bop false [Sem.no (isiE Γ (vE 0) .tuple), opE .eq (biE .len [vE 0]) (kE (.int 0))]) (seqS (raiseS Γ p0 [kE .non]) (passS)) (passS)) (seqS (nmS 1 (callE p1 [vE 0])) (seqS (ifS (opE .isnot (vE 1) (kE .non)) (seqS (raiseS Γ p0 [vE 1]) (passS)) (passS)) (passS)))
def m_read_row (Γ : Ctx) (p0 : Fd) (p1 : Fd) : StS :=
  seqS (nmS 1 (splitE (vE 0) 32)) (seqS (ifS (Sem.bop false [opE .ne (biE .len [vE 1]) (kE (.int 3)), Sem.no (callE p0 [opE .idx (vE 1) (kE (.int 0))])]) (seqS (retS (kE .non)) (passS)) (passS)) (seqS (parS [(false, 2), (false, 3)] [callE p1 [opE .idx (vE 1) (kE (.int 1)), kE (.int 1), kE (.int 1000000000000000000000000000000)], callE p1 [opE .idx (vE 1) (kE (.int 2)), kE (.int 0), kE (.int 1000000000000000000000000000000000)]]) (seqS (retS (Sem.ife (Sem.bop false [opE .is (vE 2) (kE .non), opE .is (vE 3) (kE .non)]) (kE .non) (tupE [opE .idx (vE 1) (kE (.int 0)), vE 2, vE 3]))) (passS))))
def m_read_list (Γ : Ctx) (p0 : Fd) (p1 : Fd) (p2 : Fd) : StS :=
  seqS (ifS (Sem.no (isiE Γ (vE 0) .str)) (seqS (retS (kE .non)) (passS)) (passS)) (seqS (nmS 1 (splitE (vE 0) 10)) (seqS (nmS 2 (splitE (opE .idx (vE 1) (kE (.int 0))) 32)) (seqS (nmS 3 (Sem.ife (Sem.bop true [opE .eq (biE .len [vE 2]) (kE (.int 2)), opE .eq (opE .idx (vE 2) (kE (.int 0))) (kE (.str [112, 111, 105, 110, 116, 115]))]) (callE p0 [opE .idx (vE 2) (kE (.int 1)), kE (.int 1), kE (.int 9)]) (kE .non))) (seqS (nmS 4 (lcE (slE (vE 1) [kE (.int 1)] []) (callE p1 [vE 5]) [5] (.nm 5) [])) (seqS (ifS (Sem.bop false [opE .is (vE 3) (kE .non), opE .eq (vE 4) (lstE []), opE .mem (kE .non) (vE 4), opE .isnot (callE p2 [vE 4]) (kE .non)]) (seqS (retS (kE .non)) (passS)) (passS)) (seqS (retS (tupE [vE 3, biE .tuple [vE 4]])) (passS)))))))
def m_List_init (Γ : Ctx) (p0 : Fd) (p1 : Fd) : StS :=
  seqS (exS (callE p0 [vE 1])) (seqS (exS (callE p1 [vE 2])) (seqS (fldS Γ 6 (vE 0) (vE 1)) (seqS (fldS Γ 7 (vE 0) (vE 2)) (passS))))
def m_List_read (Γ : Ctx) (p0 : Fd) (p1 : Nat) (p2 : Nat) : StS :=
  seqS (nmS 2 (callE p0 [vE 1])) (seqS (ifS (opE .is (vE 2) (kE .non)) (seqS (raiseS Γ p1 [vE 1]) (passS)) (passS)) (seqS (retS (mkcE Γ 0 p2 [opE .idx (vE 2) (kE (.int 0)), opE .idx (vE 2) (kE (.int 1))])) (passS)))
def m_List_points (Γ : Ctx) : StS :=
  seqS (retS (atE Γ 6 (vE 0))) (passS)
def m_List_rows (Γ : Ctx) : StS :=
  seqS (retS (atE Γ 7 (vE 0))) (passS)
def m_List_kinds (Γ : Ctx) : StS :=
  seqS (retS (biE .tuple [lcE (atE Γ 7 (vE 0)) (opE .idx (vE 1) (kE (.int 0))) [1] (.nm 1) []])) (passS)
def m_List_players (Γ : Ctx) : StS :=
  seqS (retS (biE .sum [lcE (atE Γ 7 (vE 0)) (opE .idx (vE 1) (kE (.int 1))) [1] (.nm 1) []])) (passS)
def m_List_contains (Γ : Ctx) : StS :=
  seqS (retS (opE .mem (vE 1) (atE Γ 18 (vE 0)))) (passS)
def m_List_len (Γ : Ctx) : StS :=
  seqS (retS (biE .len [atE Γ 7 (vE 0)])) (passS)
def m_List_bool (Γ : Ctx) : StS :=
  seqS (retS (kE (.bl true))) (passS)
def m_List_eq (Γ : Ctx) (p0 : Nat) : StS :=
  seqS (retS (Sem.bop true [isiE Γ (vE 1) (.own p0), opE .eq (atE Γ 6 (vE 0)) (atE Γ 6 (vE 1)), opE .eq (atE Γ 7 (vE 0)) (atE Γ 7 (vE 1))])) (passS)
def m_List_str (Γ : Ctx) : StS :=
  seqS (nmS 1 (lcE (atE Γ 7 (vE 0)) (joinedE [fmtE (vE 2), kE (.str [32]), fmtE (vE 3), kE (.str [32]), fmtE (vE 4)]) [2, 3, 4] (.tp [.nm 2, .nm 3, .nm 4]) [])) (seqS (retS (joinE [10] (consE (joinedE [kE (.str [112, 111, 105, 110, 116, 115, 32]), fmtE (atE Γ 6 (vE 0))]) (vE 1)))) (passS))
def m_well (Γ : Ctx) : StS :=
  seqS (nmS 2 (Sem.ife (opE .lt (vE 1) (biE .len [vE 0])) (opE .idx (vE 0) (vE 1)) (kE (.int 0)))) (seqS (nmS 3 (opE .add (kE (.int 104729)) (opE .mul (kE (.int 7907)) (vE 1)))) (seqS (forS (.nm 4) (slE (vE 0) [] [kE (.int 4)]) (seqS (nmS 3 (opE .mod (biE .int [opE .add (opE .add (opE .mul (vE 3) (kE (.int 48271))) (opE .mod (biE .int [vE 4]) (kE (.int 2147483587)))) (kE (.int 13))]) (kE (.int 2147483629)))) (passS))) (seqS (nmS 3 (opE .mod (biE .int [opE .add (opE .add (opE .mul (vE 3) (kE (.int 69621))) (opE .mod (biE .int [vE 2]) (kE (.int 2147483579)))) (kE (.int 5))]) (kE (.int 2147483629)))) (seqS (retS (newE [vE 3, Sem.ife (opE .ge (biE .abs [vE 2]) (opE .pow (kE (.int 10)) (kE (.int 18)))) (biE .abs [vE 2]) (kE (.int 0)), kE (.int 0)])) (passS)))))
def m_dip (Γ : Ctx) : StS :=
  seqS (ifS (opE .gt (opE .idx (vE 0) (kE (.int 1))) (kE (.int 0))) (seqS (unpS [subR (vE 0) (kE (.int 1)), nmT 2] (biE .divmod [opE .idx (vE 0) (kE (.int 1)), vE 1])) (seqS (retS (vE 2)) (passS))) (passS)) (seqS (tgS (subR (vE 0) (kE (.int 2))) (opE .add (opE .idx (vE 0) (kE (.int 2))) (kE (.int 1)))) (seqS (tgS (subR (vE 0) (kE (.int 0))) (opE .mod (biE .int [opE .add (opE .add (opE .mul (opE .idx (vE 0) (kE (.int 0))) (kE (.int 39373))) (opE .mul (opE .mul (kE (.int 7)) (opE .idx (vE 0) (kE (.int 2)))) (opE .idx (vE 0) (kE (.int 2))))) (kE (.int 101))]) (kE (.int 2147483629)))) (seqS (retS (opE .mod (biE .int [opE .fdiv (opE .idx (vE 0) (kE (.int 0))) (kE (.int 64))]) (vE 1))) (passS))))
def m_names (Γ : Ctx) (p0 : Fd) : StS :=
  seqS (nmS 2 (lstE [kE (.str [112, 111, 105, 110, 116, 115]), kE (.str [116, 97, 107, 101, 115]), kE (.str [110, 101, 118, 101, 114]), kE (.str [97, 98, 111, 118, 101]), kE (.str [97, 108, 108]), kE (.str [97]), kE (.str [98]), kE (.str [110, 111, 110, 101])])) (seqS (parS [(false, 4), (true, 5)] [kE (.str [97, 98, 99, 100, 101, 102, 103, 104, 105, 106, 107, 108, 109, 110, 111, 112, 113, 114, 115, 116, 117, 118, 119, 120, 121, 122, 48, 49, 50, 51, 52, 53, 54, 55, 56, 57]), lstE []]) (seqS (forS (.nm 3) (rngE [vE 1]) (seqS (nmS 6 (Sem.ife (opE .eq (callE p0 [vE 0, kE (.int 4)]) (kE (.int 0))) (callE p0 [vE 0, kE (.int 8)]) (callE p0 [vE 0, kE (.int 2)]))) (seqS (nmS 7 (opE .add (opE .idx (vE 4) (callE p0 [vE 0, kE (.int 26)])) (joinE [] (lcE (rngE [vE 6]) (opE .idx (vE 4) (callE p0 [vE 0, kE (.int 36)])) [9] (.nm 9) [])))) (seqS (ifS (opE .eq (callE p0 [vE 0, kE (.int 5)]) (kE (.int 0))) (seqS (nmS 7 (opE .idx (vE 2) (callE p0 [vE 0, kE (.int 8)]))) (passS)) (passS)) (seqS (nmS 8 (opE .add (lstE [vE 7]) (lcE (rngE [vE 1]) (opE .add (kE (.str [122])) (biE .str [vE 9])) [9] (.nm 9) []))) (seqS (appS 5 (opE .idx (lcE (vE 8) (vE 10) [10] (.nm 10) [opE .nmem (vE 10) (pkE 5)]) (kE (.int 0)))) (passS))))))) (frzS 5 (seqS (retS (vE 5)) (passS)))))
def m_number (Γ : Ctx) (p0 : Fd) : StS :=
  seqS (nmS 1 (callE p0 [vE 0, kE (.int 4)])) (seqS (ifS (opE .eq (vE 1) (kE (.int 0))) (seqS (retS (opE .add (kE (.int 1)) (callE p0 [vE 0, kE (.int 4)]))) (passS)) (passS)) (seqS (ifS (opE .eq (vE 1) (kE (.int 1))) (seqS (retS (opE .add (kE (.int 1)) (callE p0 [vE 0, opE .pow (kE (.int 10)) (kE (.int 6))]))) (passS)) (passS)) (seqS (ifS (opE .eq (vE 1) (kE (.int 2))) (seqS (retS (opE .sub (opE .pow (kE (.int 10)) (kE (.int 30))) (callE p0 [vE 0, kE (.int 3)]))) (passS)) (passS)) (seqS (retS (opE .add (opE .add (kE (.int 1)) (opE .mul (callE p0 [vE 0, opE .pow (kE (.int 10)) (kE (.int 15))]) (opE .pow (kE (.int 10)) (kE (.int 15))))) (callE p0 [vE 0, opE .pow (kE (.int 10)) (kE (.int 15))]))) (passS)))))
def m_end (Γ : Ctx) (p0 : Fd) : StS :=
  seqS (nmS 1 (callE p0 [vE 0, kE (.int 4)])) (seqS (ifS (opE .eq (vE 1) (kE (.int 0))) (seqS (retS (callE p0 [vE 0, kE (.int 5)])) (passS)) (passS)) (seqS (ifS (opE .eq (vE 1) (kE (.int 1))) (seqS (retS (callE p0 [vE 0, opE .pow (kE (.int 10)) (kE (.int 9))])) (passS)) (passS)) (seqS (ifS (opE .eq (vE 1) (kE (.int 2))) (seqS (retS (opE .sub (opE .pow (kE (.int 10)) (kE (.int 33))) (callE p0 [vE 0, kE (.int 3)]))) (passS)) (passS)) (seqS (retS (opE .add (opE .mul (callE p0 [vE 0, opE .pow (kE (.int 10)) (kE (.int 17))]) (opE .pow (kE (.int 10)) (kE (.int 16)))) (callE p0 [vE 0, opE .pow (kE (.int 10)) (kE (.int 16))]))) (passS)))))
def m_rows (Γ : Ctx) (p0 : Fd) (p1 : Fd) (p2 : Fd) (p3 : Fd) : StS :=
  seqS (nmS 2 (callE p0 [vE 0, opE .add (kE (.int 1)) (callE p1 [vE 0, vE 1])])) (seqS (retS (lcE (vE 2) (tupE [vE 3, callE p2 [vE 0], callE p3 [vE 0]]) [3] (.nm 3) [])) (passS))
def m_text (Γ : Ctx) : StS :=
  seqS (ownS 2 (lstE [opE .add (kE (.str [112, 111, 105, 110, 116, 115, 32])) (biE .str [vE 0])])) (seqS (forS (.tp [.nm 3, .nm 4, .nm 5]) (vE 1) (seqS (appS 2 (opE .add (opE .add (opE .add (opE .add (vE 3) (kE (.str [32]))) (biE .str [vE 4])) (kE (.str [32]))) (biE .str [vE 5]))) (passS))) (seqS (retS (joinE [10] (pkE 2))) (passS)))
def m_made (Γ : Ctx) (p0 : Nat) (p1 : Fd) (p2 : Fd) : StS :=
  seqS (ifS (opE .eq (vE 0) (kE (.int 0))) (seqS (retS (mkE Γ p0 [vE 1, vE 2])) (passS)) (passS)) (seqS (ifS (opE .eq (vE 0) (kE (.int 1))) (seqS (retS (mkKE Γ p0 [0, 1] [vE 1, vE 2])) (passS)) (passS)) (seqS (retS (Sem.ife (opE .eq (vE 0) (kE (.int 2))) (mkKE Γ p0 [1, 0] [vE 2, vE 1]) (cmE p2 p0 [callE p1 [vE 1, vE 2]]))) (passS)))
def m_shows (Γ : Ctx) (p0 : Nat) (p1 : Fd) : StS :=
  seqS (ifS (Sem.no (isiE Γ (vE 0) (.own p0))) (seqS (retS (kE (.bl false))) (passS)) (passS)) (seqS (nmS 3 (lstE [vE 1, vE 2, biE .tuple [lcE (vE 2) (opE .idx (vE 4) (kE (.int 0))) [4] (.nm 4) []], biE .sum [lcE (vE 2) (opE .idx (vE 4) (kE (.int 1))) [4] (.nm 4) []], biE .len [vE 2]])) (seqS (ifS (opE .ne (biE .repr [lstE [atE Γ 16 (vE 0), atE Γ 17 (vE 0), atE Γ 18 (vE 0), atE Γ 19 (vE 0), lenOE Γ p0 (vE 0)]]) (biE .repr [vE 3])) (seqS (retS (kE (.bl false))) (passS)) (passS)) (seqS (retS (Sem.bop true [opE .eq (strOE Γ p0 (vE 0)) (callE p1 [vE 1, vE 2]), boolOE Γ p0 (vE 0)])) (passS))))
def m_right (Γ : Ctx) (p0 : Fd) (p1 : Fd) (p2 : Fd) (p3 : Fd) : StS :=
  seqS (parS [(false, 3), (false, 4), (false, 5)] [callE p0 [vE 0, kE (.int 4)], opE .add (kE (.int 1)) (callE p0 [vE 0, kE (.int 9)]), biE .tuple [callE p1 [vE 0, kE (.int 6)]]]) (seqS (nmS 1 (callE p2 [vE 3, vE 4, vE 5])) (seqS (ifS (Sem.no (callE p3 [vE 1, vE 4, vE 5])) (seqS (retS (kE (.bl false))) (passS)) (passS)) (seqS (parS [(false, 6), (false, 7)] [opE .add (kE (.int 1)) (callE p0 [vE 0, kE (.int 9)]), biE .tuple [callE p1 [vE 0, kE (.int 6)]]]) (seqS (nmS 2 (callE p2 [callE p0 [vE 0, kE (.int 4)], vE 6, vE 7])) (seqS (retS (Sem.bop true [callE p3 [vE 2, vE 6, vE 7], callE p3 [vE 1, vE 4, vE 5]])) (passS))))))
def m_law (Γ : Ctx) (p0 : Fd) (p1 : Fd) : StS :=
  seqS (forS (.nm 1) (rngE [biE .max [kE (.int 2), biE .min [biE .len [vE 0], kE (.int 6)]]]) (seqS (ifS (Sem.no (callE p0 [callE p1 [vE 0, vE 1]])) (seqS (retS (kE (.bl false))) (passS)) (passS)) (passS))) (seqS (retS (kE (.bl true))) (passS))
def m_values (Γ : Ctx) (p0 : Fd) : StS :=
  seqS (parS [(false, 5), (true, 6)] [lcE (opE .add (vE 1) (vE 2)) (opE .idx (vE 9) (kE (.int 0))) [9] (.nm 9) [], lstE []]) (seqS (forS (.nm 3) (rngE [kE (.int 8)]) (seqS (parS [(false, 7), (false, 8)] [opE .idx (vE 5) (callE p0 [vE 0, biE .len [vE 5]]), callE p0 [vE 0, kE (.int 6)]]) (seqS (ifS (opE .lt (vE 8) (kE (.int 2))) (seqS (appS 6 (vE 7)) (passS)) (seqS (ifS (opE .eq (vE 8) (kE (.int 2))) (seqS (appS 6 (opE .add (vE 7) (opE .idx (kE (.str [97, 98, 99, 48, 49, 57, 122])) (callE p0 [vE 0, kE (.int 7)])))) (passS)) (seqS (ifS (opE .eq (vE 8) (kE (.int 3))) (seqS (nmS 10 (callE p0 [vE 0, biE .len [vE 7]])) (seqS (appS 6 (opE .add (slE (vE 7) [] [vE 10]) (slE (vE 7) [opE .add (vE 10) (kE (.int 1))] []))) (passS))) (seqS (appS 6 (opE .idx (lstE [upE (vE 7), tupE [vE 7], lstE [vE 7], dct1E (vE 7) (kE (.int 1)), opE .add (vE 7) (kE (.str [32])), opE .idx (vE 1) (kE (.int 0))]) (callE p0 [vE 0, kE (.int 6)]))) (passS))) (passS))) (passS))) (passS)))) (seqS (nmS 4 (lstE [kE .non, kE (.int 0), kE (.int 1), kE (.bl true), kE (.str []), tupE [], lstE [], dct0E, opE .idx (opE .idx (vE 1) (kE (.int 0))) (kE (.int 1)), opE .idx (opE .idx (vE 1) (kE (.int 0))) (kE (.int 2)), biE .len [vE 1], biE .tuple [vE 5], opE .pow (kE (.int 10)) (kE (.int 30)), opE .sub (kE (.int 0)) (kE (.int 1))])) (seqS (retS (opE .add (pkE 6) (lcE (rngE [kE (.int 4)]) (opE .idx (vE 4) (callE p0 [vE 0, kE (.int 14)])) [3] (.nm 3) []))) (passS))))
def m_right_k06 (Γ : Ctx) (p0 : Fd) (p1 : Fd) (p2 : Nat) (p3 : Fd) : StS :=
  seqS (parS [(false, 3), (true, 4)] [callE p0 [vE 0, kE (.int 6)], lsE (callE p0 [vE 0, kE (.int 3)])]) (seqS (nmS 1 (lcE (pkE 4) (opE .idx (vE 12) (kE (.int 0))) [12] (.nm 12) [])) (seqS (forS (.tp [.nm 5, .nm 6, .nm 7]) (vE 3) (seqS (ifS (Sem.bop true [opE .eq (callE p1 [vE 0, kE (.int 4)]) (kE (.int 0)), opE .nmem (vE 5) (vE 1), opE .lt (biE .len [pkE 4]) (kE (.int 6))]) (seqS (appS 4 (tupE [vE 5, vE 6, vE 7])) (passS)) (passS)) (passS))) (seqS (parS [(false, 8), (false, 9)] [mkE Γ p2 [opE .add (callE p1 [vE 0, kE (.int 9)]) (kE (.int 1)), biE .tuple [vE 3]], mkE Γ p2 [kE (.int 1), biE .tuple [pkE 4]]]) (frzS 4 (seqS (forS (.nm 2) (opE .add (callE p3 [vE 0, vE 3, vE 4]) (lstE [opE .idx (atE Γ 18 (vE 8)) (kE (.int 0))])) (seqS (nmS 10 (Sem.bop true [isiE Γ (vE 2) .str, opE .mem (vE 2) (lcE (vE 3) (opE .idx (vE 13) (kE (.int 0))) [13] (.nm 13) [])])) (seqS (nmS 11 (Sem.bop true [isiE Γ (vE 2) .str, opE .mem (vE 2) (lcE (vE 4) (opE .idx (vE 12) (kE (.int 0))) [12] (.nm 12) [])])) (seqS (ifS (opE .ne (biE .repr [lstE [hasE Γ p2 false (vE 2) (vE 8), hasE Γ p2 false (vE 2) (vE 9), hasE Γ p2 false (vE 2) (vE 8)]]) (biE .repr [lstE [vE 10, vE 11, vE 10]])) (seqS (retS (kE (.bl false))) (passS)) (passS)) (seqS (ifS (opE .ne (biE .repr [hasE Γ p2 true (vE 2) (vE 8)]) (biE .repr [Sem.no (vE 10)])) (seqS (retS (kE (.bl false))) (passS)) (passS)) (passS)))))) (seqS (retS (kE (.bl true))) (passS)))))))
def m__wall (Γ : Ctx) : StS :=
  seqS (whlS (kE (.bl true)) (seqS (passS) (passS))) (passS)
def m_is_left (Γ : Ctx) (p0 : Fd) : StS :=
  seqS (ifS (Sem.bop false [Sem.no (isiE Γ (vE 0) .tuple), opE .ne (biE .len [vE 0]) (kE (.int 3)), Sem.no (callE p0 [opE .idx (vE 0) (kE (.int 2)), kE (.int 1), kE (.int 9)])]) (seqS (retS (kE (.bl false))) (passS)) (passS)) (seqS (retS (Sem.bop true [opE .mem (opE .idx (vE 0) (kE (.int 0))) (vE 1), opE .mem (opE .idx (vE 0) (kE (.int 1))) (vE 1)])) (passS))
def m_wrong_left (Γ : Ctx) (p0 : Fd) : StS :=
  seqS (ownS 2 (lstE [])) (seqS (forS (.tp [.nm 3, .nm 4]) (enumE (vE 0)) (seqS (ifS (Sem.bop false [Sem.no (callE p0 [vE 4, vE 1]), opE .mem (tupE [opE .idx (vE 4) (kE (.int 0)), opE .idx (vE 4) (kE (.int 1))]) (pkE 2), opE .mem (tupE [opE .idx (vE 4) (kE (.int 1)), opE .idx (vE 4) (kE (.int 0))]) (pkE 2)]) (seqS (retS (vE 3)) (passS)) (passS)) (seqS (appS 2 (tupE [opE .idx (vE 4) (kE (.int 0)), opE .idx (vE 4) (kE (.int 1))])) (passS)))) (seqS (retS (kE .non)) (passS)))
def m_Season_init (Γ : Ctx) (p0 : Fd) (p1 : Fd) (p2 : Nat) (p3 : Fd) : StS :=
  seqS (exS (callE p0 [vE 1])) (seqS (exS (callE p1 [vE 2])) (seqS (nmS 4 (lcE (vE 2) (opE .idx (vE 6) (kE (.int 0))) [6] (.nm 6) [])) (seqS (ifS (Sem.no (isiE Γ (vE 3) .tuple)) (seqS (raiseS Γ p2 [kE .non]) (passS)) (passS)) (seqS (nmS 5 (callE p3 [vE 3, vE 4])) (seqS (ifS (opE .isnot (vE 5) (kE .non)) (seqS (raiseS Γ p2 [vE 5]) (passS)) (passS)) (seqS (fldS Γ 6 (vE 0) (vE 1)) (seqS (fldS Γ 7 (vE 0) (vE 2)) (seqS (fldS Γ 8 (vE 0) (vE 3)) (passS)))))))))
def m_Season_left (Γ : Ctx) : StS :=
  seqS (retS (atE Γ 8 (vE 0))) (passS)
def m_Season_meetings (Γ : Ctx) : StS :=
  seqS (nmS 3 (atE Γ 18 (vE 0))) (seqS (nmS 4 (lstE [tupE [opE .idx (vE 3) (vE 1), opE .idx (vE 3) (vE 2)], tupE [opE .idx (vE 3) (vE 2), opE .idx (vE 3) (vE 1)]])) (seqS (nmS 5 (lcE (atE Γ 8 (vE 0)) (vE 8) [6, 7, 8] (.tp [.nm 6, .nm 7, .nm 8]) [opE .mem (tupE [vE 6, vE 7]) (vE 4)])) (seqS (retS (Sem.ife (opE .ne (vE 5) (lstE [])) (opE .idx (vE 5) (kE (.int 0))) (kE (.int 0)))) (passS))))
def m_Season_within (Γ : Ctx) (p0 : Nat) : StS :=
  seqS (nmS 2 (kE (.int 0))) (seqS (forS (.tp [.nm 3, .nm 4]) (enumE (vE 1)) (seqS (augS 2 .add (opE .fdiv (opE .mul (opE .mul (meE Γ p0 34 (vE 0) [vE 3, vE 3]) (vE 4)) (opE .sub (vE 4) (kE (.int 1)))) (kE (.int 2)))) (seqS (augS 2 .add (biE .sum [lcE (rngE [vE 3]) (opE .mul (opE .mul (meE Γ p0 34 (vE 0) [vE 3, vE 5]) (vE 4)) (opE .idx (vE 1) (vE 5))) [5] (.nm 5) []])) (passS)))) (seqS (retS (opE .mul (atE Γ 6 (vE 0)) (vE 2))) (passS)))
def m_Season_others_of (Γ : Ctx) (p0 : Fd) : StS :=
  seqS (exS (callE p0 [kE (.int 0)])) (passS)
def m_Season_best_of (Γ : Ctx) (p0 : Fd) : StS :=
  seqS (exS (callE p0 [kE (.int 1)])) (passS)
def m_Season_is_first (Γ : Ctx) (p0 : Fd) : StS :=
  seqS (exS (callE p0 [kE (.int 2)])) (passS)
def m_Season_is_last (Γ : Ctx) (p0 : Fd) : StS :=
  seqS (exS (callE p0 [kE (.int 3)])) (passS)
def m_Season_row_of (Γ : Ctx) (p0 : Fd) : StS :=
  seqS (exS (callE p0 [kE (.int 4)])) (passS)
def m_Season_best (Γ : Ctx) (p0 : Fd) : StS :=
  seqS (exS (callE p0 [kE (.int 5)])) (passS)
def m_Season_can_be_first (Γ : Ctx) (p0 : Fd) : StS :=
  seqS (exS (callE p0 [kE (.int 6)])) (passS)
def m_Season_can_be_last (Γ : Ctx) (p0 : Fd) : StS :=
  seqS (exS (callE p0 [kE (.int 7)])) (passS)
def m_Season_firsts (Γ : Ctx) (p0 : Fd) : StS :=
  seqS (exS (callE p0 [kE (.int 8)])) (passS)
def m_Season_bar (Γ : Ctx) (p0 : Fd) : StS :=
  seqS (exS (callE p0 [kE (.int 9)])) (passS)
def m_changed (Γ : Ctx) (p0 : Fd) (p1 : Fd) (p2 : Fd) : StS :=
  seqS (parS [(false, 3), (true, 4)] [callE p0 [vE 0, kE (.int 7)], lsE (biE .list [vE 2])]) (seqS (parS [(false, 5), (false, 6)] [callE p0 [vE 0, biE .len [vE 2]], opE .add (kE (.str [113])) (biE .str [callE p0 [vE 0, kE (.int 1000)]])]) (seqS (ifS (opE .mem (vE 6) (lcE (vE 2) (opE .idx (vE 7) (kE (.int 0))) [7] (.nm 7) [])) (seqS (nmS 6 (opE .idx (opE .idx (vE 2) (vE 5)) (kE (.int 0)))) (passS)) (passS)) (seqS (ifS (opE .eq (vE 3) (kE (.int 0))) (frzS 4 (seqS (retS (lstE [opE .add (kE (.int 1)) (callE p0 [vE 0, kE (.int 9)]), vE 4])) (passS))) (passS)) (seqS (ifS (opE .eq (vE 3) (kE (.int 1))) (seqS (tgS (osubR 4 (vE 5)) (tupE [vE 6, opE .idx (opE .idx (vE 2) (vE 5)) (kE (.int 1)), opE .idx (opE .idx (vE 2) (vE 5)) (kE (.int 2))])) (passS)) (seqS (ifS (opE .eq (vE 3) (kE (.int 2))) (seqS (tgS (osubR 4 (vE 5)) (tupE [opE .idx (opE .idx (vE 2) (vE 5)) (kE (.int 0)), callE p1 [vE 0], opE .idx (opE .idx (vE 2) (vE 5)) (kE (.int 2))])) (passS)) (seqS (ifS (opE .eq (vE 3) (kE (.int 3))) (seqS (tgS (osubR 4 (vE 5)) (tupE [opE .idx (opE .idx (vE 2) (vE 5)) (kE (.int 0)), opE .idx (opE .idx (vE 2) (vE 5)) (kE (.int 1)), callE p2 [vE 0]])) (passS)) (seqS (ifS (opE .eq (vE 3) (kE (.int 4))) (seqS (asgnS [osubR 4 (vE 5), osubR 4 (kE (.int 0))] [opE .idx (pkE 4) (kE (.int 0)), opE .idx (pkE 4) (vE 5)]) (passS)) (seqS (ifS (Sem.bop true [opE .eq (vE 3) (kE (.int 5)), opE .ne (vE 6) (opE .idx (opE .idx (vE 2) (vE 5)) (kE (.int 0)))]) (seqS (insS 4 (callE p0 [vE 0, opE .add (biE .len [pkE 4]) (kE (.int 1))]) (tupE [vE 6, callE p1 [vE 0], callE p2 [vE 0]])) (passS)) (seqS (ifS (Sem.bop true [opE .eq (vE 3) (kE (.int 6)), opE .gt (biE .len [pkE 4]) (kE (.int 1))]) (seqS (ownS 4 (lsE (opE .add (slE (pkE 4) [] [vE 5]) (slE (pkE 4) [opE .add (vE 5) (kE (.int 1))] [])))) (passS)) (passS)) (passS))) (passS))) (passS))) (passS))) (passS))) (frzS 4 (seqS (retS (lstE [vE 1, vE 4])) (passS)))))))
def m_alike (Γ : Ctx) (p0 : Nat) : StS :=
  seqS (nmS 2 (opE .eq (strOE Γ p0 (vE 0)) (strOE Γ p0 (vE 1)))) (seqS (retS (opE .eq (biE .repr [lstE [eqOE Γ p0 false (vE 0) (vE 1), eqOE Γ p0 false (vE 1) (vE 0), eqOE Γ p0 true (vE 0) (vE 1), eqOE Γ p0 true (vE 1) (vE 0)]]) (biE .repr [lstE [vE 2, vE 2, Sem.no (vE 2), Sem.no (vE 2)]]))) (passS))
def m_right_k05 (Γ : Ctx) (p0 : Fd) (p1 : Fd) (p2 : Nat) (p3 : Fd) (p4 : Fd) (p5 : Fd) (p6 : Fd) (p7 : Nat) : StS :=
  seqS (parS [(false, 6), (false, 7)] [opE .add (kE (.int 1)) (callE p0 [vE 0, kE (.int 9)]), callE p1 [vE 0, kE (.int 5)]]) (seqS (parS [(false, 8), (false, 9)] [mkE Γ p2 [vE 6, biE .tuple [vE 7]], mkE Γ p2 [vE 6, biE .tuple [biE .list [vE 7]]]]) (seqS (nmS 1 (cmE p4 p2 [callE p3 [vE 6, vE 7]])) (seqS (forS (.nm 2) (lstE [vE 8, vE 9, vE 1]) (seqS (ifS (Sem.bop false [opE .ne (strOE Γ p2 (vE 2)) (callE p3 [vE 6, vE 7]), opE .ne (strOE Γ p2 (cmE p4 p2 [strOE Γ p2 (vE 2)])) (strOE Γ p2 (vE 2))]) (seqS (retS (kE (.bl false))) (passS)) (passS)) (seqS (ifS (Sem.bop false [Sem.no (callE p5 [vE 2, vE 8]), Sem.no (callE p5 [vE 2, vE 9]), opE .ne (biE .repr [eqOE Γ p2 false (vE 2) (vE 8)]) (kE (.str [84, 114, 117, 101]))]) (seqS (retS (kE (.bl false))) (passS)) (passS)) (passS)))) (seqS (forS (.nm 3) (rngE [kE (.int 4)]) (seqS (unpS [nmT 11, nmT 12] (callE p6 [vE 0, vE 6, vE 7])) (seqS (nmS 10 (mkE Γ p2 [vE 11, biE .tuple [vE 12]])) (seqS (ifS (Sem.bop false [opE .ne (strOE Γ p2 (vE 10)) (callE p3 [vE 11, vE 12]), Sem.no (callE p5 [vE 8, vE 10]), Sem.no (callE p5 [vE 10, vE 1])]) (seqS (retS (kE (.bl false))) (passS)) (passS)) (passS))))) (seqS (nmS 4 (lstE [kE .non, kE (.int 0), kE (.bl true), strOE Γ p2 (vE 8), biE .tuple [vE 7], biE .list [vE 7], tupE [vE 6, biE .tuple [vE 7]], dct0E, atE Γ 18 (vE 8)])) (seqS (forS (.nm 5) (opE .add (vE 4) (lstE [mkE Γ p7 [vE 6, biE .tuple [vE 7], tupE []]])) (seqS (ifS (opE .ne (biE .repr [lstE [eqOE Γ p2 false (vE 8) (vE 5), eqOE Γ p2 true (vE 8) (vE 5)]]) (kE (.str [91, 70, 97, 108, 115, 101, 44, 32, 84, 114, 117, 101, 93]))) (seqS (retS (kE (.bl false))) (passS)) (passS)) (passS))) (seqS (retS (kE (.bl true))) (passS))))))))
end G
/-! Plain reckoning with the meanings. -/
namespace G
/-! ### what an outcome is wanted to be -/
class QQ (α : Type) where
  q : α → Store → Prop
def OPi {α : Type} [k : QQ α] : O α → Prop
  | .ok a st => k.q a st
  | _ => False
def OP {α : Type} (Q : α → Store → Prop) (o : O α) : Prop := @OPi α ⟨Q⟩ o
class Kt where
  nx : Env → Store → Prop
  rt : D → Store → Prop
  bk : Env → Store → Prop
  ct : Env → Store → Prop
def RP [K : Kt] : R → Prop
  | .nx env st => K.nx env st
  | .rt d st => K.rt d st
  | .bk env st => K.bk env st
  | .ct env st => K.ct env st
  | _ => False
section
variable {α β : Type} {Q : α → Store → Prop} {nx : Env → Store → Prop} {rt : D → Store → Prop} {bk ct : Env → Store → Prop} {env : Env} {st : Store}
theorem OP.mono {Q' : α → Store → Prop} {o : O α} (h : OP Q o) (i : ∀ a st, Q a st → Q' a st) : @OPi _ ⟨Q'⟩ o := by
  cases o with
  | ok a st => exact i _ _ h
  | _ => exact h
theorem RP.mono {n1 n2 : Env → Store → Prop} {r1 r2 : D → Store → Prop} {b1 b2 c1 c2 : Env → Store → Prop} {r : R} (h : @RP ⟨n1, r1, b1, c1⟩ r) (h1 : ∀ e s, n1 e s → n2 e s) (h2 : ∀ e s, r1 e s → r2 e s) (h3 : ∀ e s, b1 e s → b2 e s) (h4 : ∀ e s, c1 e s → c2 e s) : @RP ⟨n2, r2, b2, c2⟩ r := by
  cases r with
  | nx e s => exact h1 _ _ h
  | rt e s => exact h2 _ _ h
  | bk e s => exact h3 _ _ h
  | ct e s => exact h4 _ _ h
  | _ => exact h
theorem /-ev-/ OP_ok {a : α} : @OPi _ ⟨Q⟩ (.ok a st) = Q a st := propext Iff.rfl
theorem /-ev-/ OP_bad : @OPi _ ⟨Q⟩ .bad = False := propext Iff.rfl
theorem /-ev-/ OP_bind {f : α → Store → O β} {Q : β → Store → Prop} {x : O α} : @OPi _ ⟨Q⟩ (x.bind f) = @OPi _ ⟨fun a st => @OPi _ ⟨Q⟩ (f a st)⟩ x := by
  cases x <;> rfl
theorem /-ev-/ O_of_some {a : α} : O.of (some a) st = .ok a st := rfl
theorem /-ev-/ O_of_none : O.of (none : Option α) st = .bad := rfl
theorem /-ev-/ OP_of_ite {c : Prop} [Decidable c] {a : α} : @OPi _ ⟨Q⟩ (O.of (if c then some a else none) st) = (c ∧ Q a st) := by
  by_cases h : c
  · rw [if_pos h]; simp [h, OPi, O.of]
  · rw [if_neg h]; simp [h, OPi, O.of]
theorem OP_of {x : Option α} : @OPi _ ⟨Q⟩ (O.of x st) = ∃ a, x = some a ∧ Q a st := by
  cases x with
  | none => simp [OPi, O.of]
  | some a => simp [OPi, O.of]
theorem /-ev-/ OP_ite {c : Prop} [Decidable c] {a b : O α} : @OPi _ ⟨Q⟩ (if c then a else b) = ((c → @OPi _ ⟨Q⟩ a) ∧ (¬ c → @OPi _ ⟨Q⟩ b)) := by
  by_cases h : c <;> simp [h]
theorem /-ev-/ RP_ite {c : Prop} [Decidable c] {a b : R} : @RP ⟨nx, rt, bk, ct⟩ (if c then a else b) = ((c → @RP ⟨nx, rt, bk, ct⟩ a) ∧ (¬ c → @RP ⟨nx, rt, bk, ct⟩ b)) := by
  by_cases h : c <;> simp [h]
theorem /-ev-/ OP_ite_bad {c : Prop} [Decidable c] {a : O α} : @OPi _ ⟨Q⟩ (if c then a else .bad) = (c ∧ @OPi _ ⟨Q⟩ a) := by
  by_cases h : c <;> simp [h, OPi]
theorem /-ev-/ RP_ite_bad {c : Prop} [Decidable c] {a : R} : @RP ⟨nx, rt, bk, ct⟩ (if c then a else .bad) = (c ∧ @RP ⟨nx, rt, bk, ct⟩ a) := by
  by_cases h : c <;> simp [h, RP]
theorem /-ev-/ RP_nx : @RP ⟨nx, rt, bk, ct⟩ (.nx env st) = nx env st := propext Iff.rfl
theorem /-ev-/ RP_rt {d : D} : @RP ⟨nx, rt, bk, ct⟩ (.rt d st) = rt d st := propext Iff.rfl
theorem /-ev-/ RP_bk : @RP ⟨nx, rt, bk, ct⟩ (.bk env st) = bk env st := propext Iff.rfl
theorem /-ev-/ RP_ct : @RP ⟨nx, rt, bk, ct⟩ (.ct env st) = ct env st := propext Iff.rfl
theorem /-ev-/ RP_bad : @RP ⟨nx, rt, bk, ct⟩ .bad = False := propext Iff.rfl
theorem /-ev-/ RP_run {o : O α} {f : α → Store → R} : @RP ⟨nx, rt, bk, ct⟩ (o.run env f) = @OPi _ ⟨fun a st => @RP ⟨nx, rt, bk, ct⟩ (f a st)⟩ o := by
  cases o <;> rfl
/-! ### statements -/
theorem /-ev-/ RP_seqR {r : R} {f : StS} : @RP ⟨nx, rt, bk, ct⟩ (seqR r f) = @RP ⟨fun env st => @RP ⟨nx, rt, bk, ct⟩ (f env st), rt, bk, ct⟩ r := by
  cases r <;> rfl
variable {i : Nat} {s s1 s2 : Sem} {a b : StS}
theorem /-ev-/ RP_seq : @RP ⟨nx, rt, bk, ct⟩ (seqS a b env st) = @RP ⟨fun env st => @RP ⟨nx, rt, bk, ct⟩ (b env st), rt, bk, ct⟩ (a env st) := RP_seqR
theorem /-ev-/ RP_pass : @RP ⟨nx, rt, bk, ct⟩ (passS env st) = nx env st := propext Iff.rfl
theorem /-ev-/ RP_brk : @RP ⟨nx, rt, bk, ct⟩ (brkS env st) = bk env st := propext Iff.rfl
theorem /-ev-/ RP_cont : @RP ⟨nx, rt, bk, ct⟩ (contS env st) = ct env st := propext Iff.rfl
theorem /-ev-/ RP_ret0 : @RP ⟨nx, rt, bk, ct⟩ (ret0S env st) = rt .non st := propext Iff.rfl
theorem /-ev-/ RP_badS : @RP ⟨nx, rt, bk, ct⟩ (badS env st) = False := rfl
theorem /-ev-/ RP_ret : @RP ⟨nx, rt, bk, ct⟩ (retS s env st) = @OPi _ ⟨rt⟩ (s.val env st) := RP_run
theorem /-ev-/ RP_ex : @RP ⟨nx, rt, bk, ct⟩ (exS s env st) = @OPi _ ⟨fun _ st => nx env st⟩ (s.val env st) := RP_run
theorem /-ev-/ RP_nm : @RP ⟨nx, rt, bk, ct⟩ (nmS i s env st) = @OPi _ ⟨fun d st => nx (env.set i (.v d)) st⟩ (s.val env st) := RP_run
theorem /-ev-/ RP_own : @RP ⟨nx, rt, bk, ct⟩ (ownS i s env st) = @OPi _ ⟨fun d st => @RP ⟨nx, rt, bk, ct⟩ (ownR i d env st)⟩ (s.val env st) := RP_run
theorem /-ev-/ ownR_lst {xs : List D} : ownR i (.lst xs) env st = .nx (env.set i (.own xs)) st := rfl
theorem /-ev-/ RP_if : @RP ⟨nx, rt, bk, ct⟩ (ifS s a b env st) = @OPi _ ⟨fun t st => @RP ⟨nx, rt, bk, ct⟩ (if t = true then a env st else b env st)⟩ (s.test env st) := RP_run
theorem /-ev-/ RP_tg {f : D → StS} : @RP ⟨nx, rt, bk, ct⟩ (tgS f s env st) = @OPi _ ⟨fun d st => @RP ⟨nx, rt, bk, ct⟩ (f d env st)⟩ (s.val env st) := RP_run
theorem /-ev-/ RP_par {ts : List (Bool × Nat)} {ss : List Sem} : @RP ⟨nx, rt, bk, ct⟩ (parS ts ss env st) = @OPi _ ⟨fun ds st => @RP ⟨nx, rt, bk, ct⟩ (ofPut (putO ts ds env) st)⟩ (args ss env st) := RP_run
theorem /-ev-/ RP_asgn {fs : List (D → StS)} {ss : List Sem} : @RP ⟨nx, rt, bk, ct⟩ (asgnS fs ss env st) = @OPi _ ⟨fun ds st => @RP ⟨nx, rt, bk, ct⟩ (setAll fs ds env st)⟩ (args ss env st) := RP_run
theorem /-ev-/ RP_unp {fs : List (D → StS)} : @RP ⟨nx, rt, bk, ct⟩ (unpS fs s env st) = @OPi _ ⟨fun d st => @RP ⟨nx, rt, bk, ct⟩ (match d with
  | .tup ds => if ds.length = fs.length then setAll fs ds env st else .bad
  | .lst ds => if ds.length = fs.length then setAll fs ds env st else .bad
  | _ => .bad)⟩ (s.val env st) := RP_run
theorem /-ev-/ RP_for {p : Pt} : @RP ⟨nx, rt, bk, ct⟩ (forS p s a env st) = @OPi _ ⟨fun xs st => @RP ⟨nx, rt, bk, ct⟩ (forL a p xs env st)⟩ (s.items env st) := RP_run
theorem /-ev-/ RP_app : @RP ⟨nx, rt, bk, ct⟩ (appS i s env st) = @RP ⟨nx, rt, bk, ct⟩ (match env[i]? with
  | some (.own xs) => (s.val env st).run env fun d st => if xs.length < LIM then .nx (env.set i (.own (xs ++ [d]))) st else .bad
  | _ => .bad) := rfl
theorem /-ev-/ RP_frz : @RP ⟨nx, rt, bk, ct⟩ (frzS i a env st) = @RP ⟨nx, rt, bk, ct⟩ (match env[i]? with
  | some (.own xs) => a (env.set i (.v (.lst xs))) st
  | _ => .bad) := rfl
theorem /-ev-/ RP_aug {o : Op2} : @RP ⟨nx, rt, bk, ct⟩ (augS i o s env st) = @RP ⟨nx, rt, bk, ct⟩ (match env.get i with
  | some (.int x) => (s.val env st).run env fun y st => aug1 o i x y env st
  | _ => .bad) := rfl
theorem /-ev-/ aug_add {x y : Int} : aug1 .add i x (.int y) env st = .nx (env.set i (.v (.int (x + y)))) st := rfl
theorem /-ev-/ aug_sub {x y : Int} : aug1 .sub i x (.int y) env st = .nx (env.set i (.v (.int (x - y)))) st := rfl
theorem /-ev-/ ofPut_some {e : Env} : ofPut (some e) st = .nx e st := rfl
theorem /-ev-/ putO_nil : putO [] [] env = some env := rfl
theorem /-ev-/ putO_v {ts : List (Bool × Nat)} {d : D} {ds : List D} : putO ((false, i) :: ts) (d :: ds) env = putO ts ds (env.set i (.v d)) := rfl
theorem /-ev-/ putO_o {ts : List (Bool × Nat)} {xs : List D} {ds : List D} : putO ((true, i) :: ts) (.lst xs :: ds) env = putO ts ds (env.set i (.own xs)) := rfl
theorem /-ev-/ setAll_nil : setAll [] [] env st = .nx env st := rfl
theorem /-ev-/ setAll_cons {f : D → StS} {fs : List (D → StS)} {d : D} {ds : List D} : setAll (f :: fs) (d :: ds) env st = seqR (f d env st) (setAll fs ds) := rfl
theorem /-ev-/ nmT_eq {d : D} : nmT i d env st = .nx (env.set i (.v d)) st := rfl
theorem /-ev-/ osubR_eq {d : D} : osubR i s d env st = match env[i]? with
  | some (.own xs) => (s.val env st).run env fun k st => match k with
    | .int k => match ixN xs.length k with
      | some j => .nx (env.set i (.own (xs.set j d))) st
      | none => .bad
    | _ => .bad
  | _ => .bad := rfl
theorem /-ev-/ RP_fld {Γ : Ctx} {f : Nm} : @RP ⟨nx, rt, bk, ct⟩ (fldS Γ f s1 s2 env st) = @OPi _ ⟨fun d st => @RP ⟨nx, rt, bk, ct⟩ (fldR Γ f s1 d env st)⟩ (s2.val env st) := RP_run
theorem RP_fldR {Γ : Ctx} {f : Nm} {d : D} : @RP ⟨nx, rt, bk, ct⟩ (fldR Γ f s1 d env st) = @OPi _ ⟨fun x st => @RP ⟨nx, rt, bk, ct⟩ (match x with
    | .loc l => (match st[l]? with
      | some (.ins c fs) => if ltLoc l d = true ∧ fs.length < 100 ∧ isFld Γ c f = true then .nx env (st.set l (.ins c (putF f d fs))) else .bad
      | _ => .bad)
    | _ => .bad)⟩ (s1.val env st) := RP_run
/-! ### expressions -/
variable {d : D} {o p : Op2} {x y z : Sem} {es : List Sem} {Γ : Ctx} {c : Fd}
theorem /-ev-/ val_k : (kE d).val env st = .ok d st := rfl
theorem /-ev-/ val_v : (vE i).val env st = .of (env.get i) st := rfl
theorem /-ev-/ val_pk : (pkE i).val env st = .of (env.pk i) st := rfl
theorem /-ev-/ val_op : (opE o x y).val env st = (x.val env st).bind fun u st => (y.val env st).bind fun v st => .of (op2 o st u v) st := rfl
theorem /-ev-/ val_neg : (negE x).val env st = (x.val env st).bind fun u st => .of (neg1 u) st := rfl
theorem /-ev-/ val_no : (Sem.no x).val env st = (x.val env st).bind fun u st => (O.of (truth st u) st).bind fun b st => .ok (.bl (!b)) st := rfl
theorem /-ev-/ val_ife : (Sem.ife x y z).val env st = (x.test env st).bind fun t st => if t = true then y.val env st else z.val env st := rfl
theorem /-ev-/ val_tup : (tupE es).val env st = (args es env st).bind fun ds st => .ok (.tup ds) st := rfl
theorem /-ev-/ val_lst : (lstE es).val env st = (args es env st).bind fun ds st => .ok (.lst ds) st := rfl
theorem /-ev-/ val_new : (newE es).val env st = (args es env st).bind newV := rfl
theorem /-ev-/ val_bi {f : Bi} : (biE f es).val env st = (args es env st).bind fun ds st => .of (bi f st ds) st := rfl
theorem /-ev-/ val_call : (callE c es).val env st = (args es env st).bind c := rfl
theorem /-ev-/ val_callK {is : List Nat} : (callKE c is es).val env st = (args es env st).bind fun ds st => c (pick .non is ds) st := rfl
theorem /-ev-/ val_mk : (mkE Γ i es).val env st = (args es env st).bind (mkObj Γ i) := rfl
theorem /-ev-/ val_mkK {is : List Nat} : (mkKE Γ i is es).val env st = (args es env st).bind fun ds st => mkObj Γ i (pick .non is ds) st := rfl
theorem /-ev-/ val_mkc {j : Nat} : (mkcE Γ j i es).val env st = match env.get j with
  | some (.cls d) => if d = i then (args es env st).bind (mkObj Γ i) else .bad
  | _ => .bad := rfl
theorem /-ev-/ get_c {env : Env} {k : Nat} {d : D} : Env.get (.v d :: env) 0 = some d := rfl
theorem /-ev-/ val_cm : (cmE c i es).val env st = (args es env st).bind fun ds st => c (.cls i :: ds) st := rfl
theorem /-ev-/ val_isi {τ : Ty} : (isiE Γ x τ).val env st = (x.val env st).bind fun u st => .of ((isiV Γ st u τ).map .bl) st := rfl
theorem /-ev-/ val_at {f : Nm} : (atE Γ f x).val env st = (x.val env st).bind fun u st => atV Γ f u st := rfl
theorem /-ev-/ val_has {n : Bool} : (hasE Γ i n x y).val env st = (x.val env st).bind fun u st => (y.val env st).bind fun v st => hasV Γ i n u v st := rfl
theorem /-ev-/ val_lenO : (lenOE Γ i x).val env st = (x.val env st).bind fun u st => dunV Γ i n_len u st := rfl
theorem /-ev-/ val_strO : (strOE Γ i x).val env st = (x.val env st).bind fun u st => dunV Γ i n_str u st := rfl
theorem /-ev-/ val_boolO : (boolOE Γ i x).val env st = (x.val env st).bind fun u st => dunV Γ i n_bool u st := rfl
def lsV (d : D) (st : Store) : O D := match d with
  | .lst xs => .ok (.lst xs) st
  | _ => .bad
theorem /-ev-/ val_ls : (lsE x).val env st = (x.val env st).bind lsV := rfl
theorem /-ev-/ lsV_lst {xs : List D} : lsV (.lst xs) st = .ok (.lst xs) st := rfl
theorem /-ev-/ val_up : (upE x).val env st = (x.val env st).bind fun u st => .of (upD u) st := rfl
theorem /-ev-/ upD_str {u : List Nat} : upD (.str u) = if u.length ≤ 1000000 ∧ u.all (fun c => decide (c < 128)) = true then some (.str (u.map upC)) else none := rfl
theorem /-ev-/ val_d0 : dct0E.val env st = .ok (.dct [] []) st := rfl
theorem /-ev-/ val_d1 : (dct1E x y).val env st = (x.val env st).bind fun u st => (y.val env st).bind fun v st => dct1V u v st := rfl
theorem /-ev-/ d1_str {u : List Nat} {v : D} : dct1V (.str u) v st = .ok (.dct [.str u] [v]) st := rfl
theorem /-ev-/ val_ch : (chE o p x y z).val env st = (x.val env st).bind fun u st => (y.val env st).bind fun v st => (O.of (op2 o st u v) st).bind fun r st => match r with
  | .bl b => if b = true then (z.val env st).bind fun w st => .of (op2 p st v w) st else .ok (.bl false) st
  | _ => .bad := by
  show chain o p x y z env st = _
  unfold chain
  congr 1; funext u st; congr 1; funext v st; congr 1; funext r st
  cases r <;> first | rfl | (rename_i b; cases b <;> rfl)
theorem /-ev-/ val_split {n : Nat} : (splitE x n).val env st = (x.val env st).bind fun u st => .of (mt .split st u [.str [n]]) st := rfl
theorem /-ev-/ val_join {n : List Nat} : (joinE n x).val env st = (x.val env st).bind fun u st => .of (mt .join st (.str n) [u]) st := rfl
theorem /-ev-/ val_fmt : (fmtE x).val env st = (x.val env st).bind fun u st => .of (fmtD u) st := rfl
theorem /-ev-/ val_joined : (joinedE es).val env st = joinedV es [] env st := rfl
theorem /-ev-/ val_cons : (consE x y).val env st = (x.val env st).bind fun u st => (y.val env st).bind fun v st => consV u v st := rfl
theorem /-ev-/ val_bop {n : Bool} : (Sem.bop n es).val env st = bopV n es env st := rfl
theorem /-ev-/ val_sl {lo hi : List Sem} : (slE x lo hi).val env st = (x.val env st).bind fun u st => (optV lo env st).bind fun l st => (optV hi env st).bind fun h st => .of (slice st u l h) st := rfl
theorem /-ev-/ val_lc {own : List Nat} {q : Pt} {ifs : List Sem} : (lcE x y own q ifs).val env st = (x.items env st).bind fun items st => (compL (turnV own y q ifs env) items [] st).bind fun ds st => .ok (.lst ds) st := rfl
/-! tests -/
theorem /-ev-/ tst_k : (kE d).test env st = .of (truth st d) st := rfl
theorem /-ev-/ tst_v : (vE i).test env st = (O.of (env.get i) st).bind fun x st => .of (truth st x) st := rfl
theorem /-ev-/ tst_op : (opE o x y).test env st = ((opE o x y).val env st).bind fun x st => .of (truth st x) st := rfl
theorem /-ev-/ tst_bi {f : Bi} : (biE f es).test env st = ((biE f es).val env st).bind fun x st => .of (truth st x) st := rfl
theorem /-ev-/ tst_call : (callE c es).test env st = ((callE c es).val env st).bind fun x st => .of (truth st x) st := rfl
theorem /-ev-/ tst_isi {τ : Ty} : (isiE Γ x τ).test env st = ((isiE Γ x τ).val env st).bind fun x st => .of (truth st x) st := rfl
theorem /-ev-/ tst_ch : (chE o p x y z).test env st = ((chE o p x y z).val env st).bind fun x st => .of (truth st x) st := rfl
theorem /-ev-/ tst_has {n : Bool} : (hasE Γ i n x y).test env st = ((hasE Γ i n x y).val env st).bind fun x st => .of (truth st x) st := rfl
theorem /-ev-/ tst_boolO : (boolOE Γ i x).test env st = ((boolOE Γ i x).val env st).bind fun x st => .of (truth st x) st := rfl
theorem /-ev-/ tst_at {f : Nm} : (atE Γ f x).test env st = ((atE Γ f x).val env st).bind fun x st => .of (truth st x) st := rfl
theorem /-ev-/ tst_me {f : Nm} : (meE Γ i f x es).test env st = ((meE Γ i f x es).val env st).bind fun x st => .of (truth st x) st := rfl
theorem /-ev-/ tst_no : (Sem.no x).test env st = (x.test env st).bind fun b st => .ok (!b) st := rfl
theorem /-ev-/ tst_bop {n : Bool} : (Sem.bop n es).test env st = bopT n es env st := rfl
theorem /-ev-/ tst_ife : (Sem.ife x y z).test env st = (x.test env st).bind fun t st => if t = true then y.test env st else z.test env st := rfl
theorem /-ev-/ bopV_one {n : Bool} : bopV n [x] env st = x.val env st := rfl
theorem /-ev-/ bopV_cons {n : Bool} : bopV n (x :: y :: es) env st = (x.val env st).bind fun u st => match u with
    | .bl b => if b = n then bopV n (y :: es) env st else .ok (.bl b) st
    | _ => .bad := rfl
theorem /-ev-/ bopT_one {n : Bool} : bopT n [x] env st = x.test env st := rfl
theorem /-ev-/ bopT_cons {n : Bool} : bopT n (x :: y :: es) env st = (x.test env st).bind fun b st => if b = n then bopT n (y :: es) env st else .ok b st := rfl
theorem /-ev-/ args_nil : args [] env st = .ok [] st := rfl
theorem /-ev-/ args_cons : args (x :: es) env st = (x.val env st).bind fun u st => (args es env st).bind fun us st => .ok (u :: us) st := rfl
theorem /-ev-/ joinedV_nil {acc : List Nat} : joinedV [] acc env st = .ok (.str acc) st := rfl
theorem /-ev-/ joinedV_cons {acc : List Nat} : joinedV (x :: es) acc env st = (x.val env st).bind fun u st => match u with
    | .str y => if acc.length + y.length ≤ LIM then joinedV es (acc ++ y) env st else .bad
    | _ => .bad := rfl
theorem /-ev-/ optV_none : optV [] env st = .ok none st := rfl
theorem /-ev-/ optV_one : optV [x] env st = (x.val env st).bind fun u st => .of (optI [u]) st := by
  unfold optV args
  cases x.val env st <;> rfl
theorem /-ev-/ optI_int {k : Int} : optI [.int k] = some (some k) := rfl
/-! items -/
theorem /-ev-/ itm_v : (vE i).items env st = (O.of (env.get i) st).bind fun x st => .of (seqI x) st := rfl
theorem /-ev-/ itm_pk : (pkE i).items env st = (O.of (env.pk i) st).bind fun x st => .of (seqI x) st := rfl
theorem /-ev-/ itm_op : (opE o x y).items env st = ((opE o x y).val env st).bind fun x st => .of (seqI x) st := rfl
theorem /-ev-/ itm_call : (callE c es).items env st = ((callE c es).val env st).bind fun x st => .of (seqI x) st := rfl
theorem /-ev-/ itm_at {f : Nm} : (atE Γ f x).items env st = ((atE Γ f x).val env st).bind fun x st => .of (seqI x) st := rfl
theorem /-ev-/ itm_sl {lo hi : List Sem} : (slE x lo hi).items env st = ((slE x lo hi).val env st).bind fun x st => .of (seqI x) st := rfl
theorem /-ev-/ itm_lst : (lstE es).items env st = ((lstE es).val env st).bind fun x st => .of (seqI x) st := rfl
theorem /-ev-/ itm_tup : (tupE es).items env st = ((tupE es).val env st).bind fun x st => .of (seqI x) st := rfl
theorem /-ev-/ itm_lc {own : List Nat} {q : Pt} {ifs : List Sem} : (lcE x y own q ifs).items env st = ((lcE x y own q ifs).val env st).bind fun x st => .of (seqI x) st := rfl
theorem /-ev-/ itm_rng : (rngE es).items env st = (args es env st).bind fun ds st => rngI ds st := rfl
theorem /-ev-/ itm_enum : (enumE x).items env st = (x.val env st).bind fun x st => .of ((seqF x).map enumD) st := rfl
theorem /-ev-/ itm_zip : (zipE x y).items env st = (x.val env st).bind fun u st => (y.val env st).bind fun v st => .of (zipV u v) st := rfl
theorem /-ev-/ rng1 {Q : List D → Store → Prop} {j : Int} : @OPi _ ⟨Q⟩ (rngI [.int j] st) = ((-LIM ≤ j ∧ j ≤ LIM) ∧ Q (rangeD 0 j) st) := by
  show @OPi _ ⟨Q⟩ (if -(LIM : Int) ≤ j ∧ j ≤ LIM then .ok (rangeD 0 j) st else .bad) = _
  by_cases h : -(LIM : Int) ≤ j ∧ j ≤ LIM
  · rw [if_pos h]; simp [OPi, h]
  · rw [if_neg h]; simp only [OPi]; simp [h]
end
/-! ### operators on data -/
section
variable {st : Store} {i j : Int} {a b : Bool} {xs ys : List D} {u v : List Nat} {d e : D}
theorem /-ev-/ vw_int : view st (.int i) = .int i := rfl
theorem /-ev-/ vw_str : view st (.str u) = .str u := rfl
theorem /-ev-/ vw_tup : view st (.tup xs) = .tup xs := rfl
theorem /-ev-/ vw_lst : view st (.lst xs) = .lst xs := rfl
theorem /-ev-/ vw_bl : view st (.bl a) = .bl a := rfl
theorem /-ev-/ vw_non : view st .non = .non := rfl
theorem /-ev-/ add_int : op2 .add st (.int i) (.int j) = some (.int (i + j)) := rfl
theorem /-ev-/ add_str : op2 .add st (.str u) (.str v) = if u.length + v.length ≤ LIM then some (.str (u ++ v)) else none := rfl
theorem /-ev-/ add_tup : op2 .add st (.tup xs) (.tup ys) = if xs.length + ys.length ≤ LIM then some (.tup (xs ++ ys)) else none := rfl
theorem /-ev-/ add_lst : op2 .add st (.lst xs) (.lst ys) = if xs.length + ys.length ≤ LIM then some (.lst (xs ++ ys)) else none := rfl
theorem /-ev-/ sub_int : op2 .sub st (.int i) (.int j) = some (.int (i - j)) := rfl
theorem /-ev-/ mul_int : op2 .mul st (.int i) (.int j) = if okMul i j = true then some (.int (i * j)) else none := rfl
theorem /-ev-/ fdiv_int : op2 .fdiv st (.int i) (.int j) = if okDiv j = true then some (.int (i / j)) else none := rfl
theorem /-ev-/ mod_int : op2 .mod st (.int i) (.int j) = if okDiv j = true then some (.int (i % j)) else none := rfl
theorem /-ev-/ lt_int : op2 .lt st (.int i) (.int j) = some (.bl (decide (i < j))) := rfl
theorem /-ev-/ le_int : op2 .le st (.int i) (.int j) = some (.bl (decide (i ≤ j))) := rfl
theorem /-ev-/ gt_int : op2 .gt st (.int i) (.int j) = some (.bl (decide (j < i))) := rfl
theorem /-ev-/ ge_int : op2 .ge st (.int i) (.int j) = some (.bl (decide (j ≤ i))) := rfl
theorem pyEq_int : pyEq (.int i) (.int j) = (i == j) := by simp [pyEq]
theorem pyEq_str : pyEq (.str u) (.str v) = (u == v) := by simp [pyEq]
theorem /-ev-/ eq_int : op2 .eq st (.int i) (.int j) = some (.bl (decide (i = j))) := by
  simp [op2, view, okEq, pyEq] <;> (first | rfl | exact Bool.beq_eq_decide_eq _ _)
theorem /-ev-/ ne_int : op2 .ne st (.int i) (.int j) = some (.bl (!decide (i = j))) := by
  simp [op2, view, okEq, pyEq] <;> (first | rfl | exact Bool.beq_eq_decide_eq _ _)
theorem /-ev-/ eq_str : op2 .eq st (.str u) (.str v) = some (.bl (decide (u = v))) := by
  simp [op2, view, okEq, pyEq] <;> (first | rfl | exact Bool.beq_eq_decide_eq _ _)
theorem /-ev-/ ne_str : op2 .ne st (.str u) (.str v) = some (.bl (!decide (u = v))) := by
  simp [op2, view, okEq, pyEq] <;> (first | rfl | exact Bool.beq_eq_decide_eq _ _)
theorem /-ev-/ is_non : op2 .is st .non .non = some (.bl true) := rfl
theorem /-ev-/ isnot_non : op2 .isnot st .non .non = some (.bl false) := rfl
theorem /-ev-/ is_tup : op2 .is st (.tup xs) .non = some (.bl false) := rfl
theorem /-ev-/ isnot_tup : op2 .isnot st (.tup xs) .non = some (.bl true) := rfl
theorem /-ev-/ is_int : op2 .is st (.int i) .non = some (.bl false) := rfl
theorem /-ev-/ isnot_int : op2 .isnot st (.int i) .non = some (.bl true) := rfl
theorem /-ev-/ mem_chr {c : Nat} : op2 .mem st (.str [c]) (.str v) = some (.bl (v.contains c)) := rfl
theorem /-ev-/ nmem_chr {c : Nat} : op2 .nmem st (.str [c]) (.str v) = some (.bl (!v.contains c)) := rfl
theorem /-ev-/ idx_str : op2 .idx st (.str u) (.int i) = (atI u i).map fun c => .str [c] := rfl
theorem /-ev-/ idx_tup : op2 .idx st (.tup xs) (.int i) = atI xs i := rfl
theorem /-ev-/ idx_lst : op2 .idx st (.lst xs) (.int i) = atI xs i := rfl
theorem /-ev-/ idx_fl : op2 .idx st (.fl xs) (.int i) = atI xs i := rfl
theorem /-ev-/ tr_bl : truth st (.bl a) = some a := rfl
theorem /-ev-/ tr_int : truth st (.int i) = some (i != 0) := rfl
theorem /-ev-/ tr_non : truth st .non = some false := rfl
theorem /-ev-/ tr_str : truth st (.str u) = some (!u.isEmpty) := rfl
theorem /-ev-/ tr_tup : truth st (.tup xs) = some (!xs.isEmpty) := rfl
theorem /-ev-/ tr_lst : truth st (.lst xs) = some (!xs.isEmpty) := rfl
theorem /-ev-/ neg_int : neg1 (.int i) = some (.int (-i)) := rfl
theorem /-ev-/ sf_tup : seqF (.tup xs) = some xs := rfl
theorem /-ev-/ sf_lst : seqF (.lst xs) = some xs := rfl
theorem /-ev-/ si_tup : seqI (.tup xs) = some xs := rfl
theorem /-ev-/ si_lst : seqI (.lst xs) = some xs := rfl
theorem /-ev-/ si_str : seqI (.str u) = some (u.map fun c => .str [c]) := rfl
theorem /-ev-/ sv_tup : seqv st (.tup xs) = some xs := rfl
theorem /-ev-/ sv_lst : seqv st (.lst xs) = some xs := rfl
theorem /-ev-/ sv_fl : seqv st (.fl xs) = some xs := rfl
theorem /-ev-/ len_str : bi .len st [.str u] = some (.int u.length) := rfl
theorem /-ev-/ len_tup : bi .len st [.tup xs] = some (.int xs.length) := rfl
theorem /-ev-/ len_lst : bi .len st [.lst xs] = some (.int xs.length) := rfl
theorem /-ev-/ len_fl : bi .len st [.fl xs] = some (.int xs.length) := rfl
theorem /-ev-/ int_int : bi .int st [.int i] = some (.int i) := rfl
theorem /-ev-/ int_bl : bi .int st [.bl a] = some (.int (b2i a)) := rfl
theorem /-ev-/ int_str : bi .int st [.str u] = if u ≠ [] ∧ u.length ≤ 40 ∧ u.all isDig = true then some (.int (digVal u)) else none := rfl
theorem /-ev-/ str_int : bi .str st [.int i] = if i.natAbs < 2 ^ 1900 then some (.str (intStr i)) else none := rfl
theorem /-ev-/ str_str : bi .str st [.str u] = some (.str u) := rfl
theorem /-ev-/ abs_int : bi .abs st [.int i] = some (.int i.natAbs) := rfl
theorem /-ev-/ bool_bl : bi .bool st [.bl a] = some (.bl a) := rfl
theorem /-ev-/ min_int : bi .min st [.int i, .int j] = some (.int (if j < i then j else i)) := rfl
theorem /-ev-/ max_int : bi .max st [.int i, .int j] = some (.int (if j > i then j else i)) := rfl
theorem /-ev-/ divmod_int : bi .divmod st [.int i, .int j] = if okDiv j = true then some (.tup [.int (i / j), .int (i % j)]) else none := rfl
theorem /-ev-/ tuple_lst : bi .tuple st [.lst xs] = some (.tup xs) := rfl
theorem /-ev-/ tuple_tup : bi .tuple st [.tup xs] = some (.tup xs) := rfl
theorem /-ev-/ list_lst : bi .list st [.lst xs] = some (.lst xs) := rfl
theorem /-ev-/ list_tup : bi .list st [.tup xs] = some (.lst xs) := rfl
theorem /-ev-/ sl_str {lo hi : Option Int} : slice st (.str u) lo hi = some (.str (cut u lo hi)) := rfl
theorem /-ev-/ sl_tup {lo hi : Option Int} : slice st (.tup xs) lo hi = some (.tup (cut xs lo hi)) := rfl
theorem /-ev-/ sl_lst {lo hi : Option Int} : slice st (.lst xs) lo hi = some (.lst (cut xs lo hi)) := rfl
theorem /-ev-/ sl_fl {lo hi : Option Int} : slice st (.fl xs) lo hi = some (.lst (cut xs lo hi)) := rfl
theorem /-ev-/ fmt_str : fmtD (.str u) = some (.str u) := rfl
theorem /-ev-/ fmt_int : fmtD (.int i) = if i.natAbs < 2 ^ 1900 then some (.str (intStr i)) else none := rfl
theorem /-ev-/ cons_lst : consV d (.lst xs) st = if xs.length < LIM then .ok (.lst (d :: xs)) st else .bad := rfl
theorem /-ev-/ lv_lst : listv st (.lst xs) = some xs := rfl
/-! constants at an index -/
theorem /-ev-/ atI_zero {α : Type} {x : α} {l : List α} : atI (x :: l) 0 = some x := by
  simp [atI, ixN]
theorem atI_nat {α : Type} {l : List α} {k : Nat} : atI l (k : Int) = l[k]? := by
  unfold atI ixN
  by_cases h : (k : Int) < l.length
  · have h2 : k < l.length := by omega
    simp [h]
  · have h2 : l.length ≤ k := by omega
    simp [h, List.getElem?_eq_none h2]
theorem /-ev-/ atI_one {α : Type} {x y : α} {l : List α} : atI (x :: y :: l) 1 = some y := atI_nat (k := 1)
theorem /-ev-/ atI_two {α : Type} {x y z : α} {l : List α} : atI (x :: y :: z :: l) 2 = some z := atI_nat (k := 2)
theorem /-ev-/ atI_three {α : Type} {x y z w : α} {l : List α} : atI (x :: y :: z :: w :: l) 3 = some w := atI_nat (k := 3)
end
theorem /-ev-/ not_f : (!false) = true := rfl
theorem /-ev-/ not_t : (!true) = false := rfl
theorem /-ev-/ testsV_nil {env : Env} {st : Store} : testsV [] env st = .ok true st := rfl
theorem /-ev-/ testsV_one {e : Sem} {env : Env} {st : Store} : testsV [e] env st = e.test env st := rfl
theorem turnV_eq {own : List Nat} {elt : Sem} {p : Pt} {ifs : List Sem} {env : Env} {x : D} {st : Store} : turnV own elt p ifs env x st = match setPt p x (wipe env own) with
  | none => .bad
  | some env => (testsV ifs env st).bind fun t st => if t = true then (elt.val env st).bind fun y st => .ok (some y) st else .ok none st := rfl
/-! ### environments -/
section
variable {s : Sl} {env : Env} {n : Nat} {d : D} {xs : List D}
theorem /-ev-/ get_v : Env.get (.v d :: env) 0 = some d := rfl
theorem /-ev-/ get_s : Env.get (s :: env) (n + 1) = Env.get env n := rfl
theorem /-ev-/ pk_v : Env.pk (.v d :: env) 0 = some d := rfl
theorem /-ev-/ pk_o : Env.pk (.own xs :: env) 0 = some (.lst xs) := rfl
theorem /-ev-/ pk_s : Env.pk (s :: env) (n + 1) = Env.pk env n := rfl
theorem /-ev-/ ix_z : (s :: env)[0]? = some s := rfl
theorem /-ev-/ ix_s : (s :: env)[n + 1]? = env[n]? := rfl
theorem /-ev-/ set_z {t : Sl} : List.set (s :: env) 0 t = t :: env := rfl
theorem /-ev-/ set_s {t : Sl} : List.set (s :: env) (n + 1) t = s :: env.set n t := rfl
theorem /-ev-/ wipe_nil : wipe env [] = env := rfl
theorem /-ev-/ wipe_cons {l : List Nat} : wipe env (n :: l) = (wipe env l).set n .em := rfl
theorem /-ev-/ setPt_nm : setPt (.nm n) d env = some (env.set n (.v d)) := rfl
theorem /-ev-/ setPt_tp {ps : List Pt} : setPt (.tp ps) (.tup xs) env = setPts ps xs env := rfl
theorem /-ev-/ setPt_tl {ps : List Pt} : setPt (.tp ps) (.lst xs) env = setPts ps xs env := rfl
theorem /-ev-/ setPts_nil : setPts [] [] env = some env := rfl
theorem /-ev-/ setPts_cons {p : Pt} {ps : List Pt} : setPts (p :: ps) (d :: xs) env = (setPt p d env).bind (setPts ps xs) := rfl
theorem /-ev-/ ob_some {α β : Type} {a : α} {f : α → Option β} : (some a).bind f = f a := rfl
theorem /-ev-/ om_some {α β : Type} {a : α} {f : α → β} : (some a).map f = some (f a) := rfl
theorem /-ev-/ dt_eq {p : Prop} [Decidable p] : (decide p = true) = p := by simp
theorem /-ev-/ df_eq {p : Prop} [Decidable p] : (decide p = false) = ¬ p := by simp
theorem /-ev-/ bn_eq {b : Bool} : ((!b) = true) = (b = false) := by cases b <;> simp
theorem /-ev-/ bf_eq {b : Bool} : ((!b) = false) = (b = true) := by cases b <;> simp
theorem /-ev-/ ne0 {i : Int} : ((i != 0) = true) = (i ≠ 0) := by simp
theorem /-ev-/ len_nil {α : Type} : ([] : List α).length = 0 := rfl
theorem /-ev-/ len_cons {α : Type} {a : α} {l : List α} : (a :: l).length = l.length + 1 := rfl
theorem /-ev-/ map_nil' {α β : Type} {f : α → β} : List.map f [] = [] := rfl
theorem /-ev-/ map_cons' {α β : Type} {f : α → β} {a : α} {l : List α} : List.map f (a :: l) = f a :: l.map f := rfl
theorem /-ev-/ rep_z {α : Type} {a : α} : List.replicate 0 a = [] := rfl
theorem /-ev-/ rep_s {α : Type} {a : α} {n : Nat} : List.replicate (n + 1) a = a :: List.replicate n a := rfl
theorem /-ev-/ app_nil {α : Type} {l : List α} : [] ++ l = l := rfl
theorem /-ev-/ app_cons {α : Type} {a : α} {l m : List α} : (a :: l) ++ m = a :: (l ++ m) := rfl
end
section
variable {p q : Prop} {α : Sort _} {x y : α}
theorem /-ev-/ ft_eq : (false = true) = False := by simp
theorem /-ev-/ tf_eq : (true = false) = False := by simp
theorem /-ev-/ t_imp : (True → p) = p := by simp
theorem /-ev-/ f_imp : (False → p) = True := by simp
theorem /-ev-/ n_t : (¬ True) = False := by simp
theorem /-ev-/ n_f : (¬ False) = True := by simp
theorem /-ev-/ a_t : (p ∧ True) = p := by simp
theorem /-ev-/ t_a : (True ∧ p) = p := by simp
theorem /-ev-/ a_f : (p ∧ False) = False := by simp
theorem /-ev-/ f_a : (False ∧ p) = False := by simp
theorem /-ev-/ i_t : (p → True) = True := by simp
theorem /-ev-/ e_s : (x = x) = True := by simp
theorem /-ev-/ it_t {x y : α} : (if True then x else y) = x := by simp
theorem /-ev-/ it_f {x y : α} : (if False then x else y) = y := by simp
theorem /-ev-/ nn {p : Prop} : (¬ ¬ p) = p := by simp
theorem /-ev-/ n_sub (n : Nat) : n - n = 0 := Nat.sub_self n
end
/-! ### defs -/
theorem OP_run {np ns : Nat} {s : StS} {ds : List D} {st : Store} {Q : D → Store → Prop} (h : ds.length = np)
    (r : @RP ⟨fun _ st => Q .non st, Q, fun _ _ => False, fun _ _ => False⟩ (s (ds.map Sl.v ++ List.replicate (ns - ds.length) .em) st)) : @OPi _ ⟨Q⟩ (runF np ns s ds st) := by
  unfold runF
  rw [if_pos h]
  revert r
  generalize s (ds.map Sl.v ++ List.replicate (ns - ds.length) .em) st = r
  cases r <;> exact fun h => h
/-! ### loops -/
theorem forL_inv {nx : Env → Store → Prop} {rt : D → Store → Prop} {bk ct : Env → Store → Prop} {body : StS} {p : Pt} {xs : List D} {env : Env} {st : Store} (I : List D → Env → Store → Prop) (h0 : I [] env st)
    (hs : ∀ (pre : List D) (x : D) (post : List D) (env : Env) (st : Store), xs = pre ++ x :: post → I pre env st → ∃ env1, setPt p x env = some env1 ∧ @RP ⟨I (pre ++ [x]), rt, nx, I (pre ++ [x])⟩ (body env1 st))
    (he : ∀ env st, I xs env st → nx env st) : @RP ⟨nx, rt, bk, ct⟩ (forL body p xs env st) := by
  have go : ∀ (post pre : List D) (env : Env) (st : Store), xs = pre ++ post → I pre env st → @RP ⟨nx, rt, bk, ct⟩ (forL body p post env st) := by
    intro post
    induction post with
    | nil =>
      intro pre env st e h
      rw [List.append_nil] at e
      subst e
      exact he env st h
    | cons x post ih =>
      intro pre env st e h
      obtain ⟨env1, e1, h1⟩ := hs pre x post env st e h
      unfold forL
      rw [e1]
      have ih2 := fun env st h => ih (pre ++ [x]) env st (by rw [e]; simp) h
      show @RP ⟨nx, rt, bk, ct⟩ (match body env1 st with
        | .nx env st => forL body p post env st
        | .ct env st => forL body p post env st
        | .bk env st => .nx env st
        | o => o)
      revert h1
      generalize body env1 st = r
      cases r with
      | nx e s => exact fun h => ih2 e s h
      | ct e s => exact fun h => ih2 e s h
      | bk e s => exact fun h => h
      | rt e s => exact fun h => h
      | _ => exact fun h => h.elim
  exact go xs [] env st rfl h0
theorem comp_inv {Q : List D → Store → Prop} {f : D → Store → O (Option D)} {xs : List D} {st : Store} (J : List D → List D → Store → Prop) (hl : xs.length ≤ LIM) (h0 : J [] [] st)
    (hs : ∀ (pre : List D) (x : D) (post acc : List D) (st : Store), xs = pre ++ x :: post → acc.length ≤ pre.length → J pre acc st → @OPi _ ⟨fun o st' => match o with
      | some y => J (pre ++ [x]) (acc ++ [y]) st'
      | none => J (pre ++ [x]) acc st'⟩ (f x st))
    (he : ∀ acc st', acc.length ≤ xs.length → J xs acc st' → Q acc st') : @OPi _ ⟨Q⟩ (compL f xs [] st) := by
  have go : ∀ (post pre acc : List D) (st : Store), xs = pre ++ post → acc.length ≤ pre.length → J pre acc st → @OPi _ ⟨Q⟩ (compL f post acc st) := by
    intro post
    induction post with
    | nil =>
      intro pre acc st e hl h
      rw [List.append_nil] at e
      subst e
      exact he acc st hl h
    | cons x post ih =>
      intro pre acc st e hl2 h
      have h1 := hs pre x post acc st e hl2 h
      have hlen : xs.length = pre.length + (post.length + 1) := by rw [e]; simp
      unfold compL
      revert h1
      generalize f x st = o
      cases o with
      | ok a s =>
        cases a with
        | none => exact fun h => ih (pre ++ [x]) acc s (by rw [e]; simp) (by simp; omega) h
        | some y =>
          intro h
          show @OPi _ ⟨Q⟩ (if acc.length < LIM then compL f post (acc ++ [y]) s else .bad)
          rw [if_pos (by omega)]
          exact ih (pre ++ [x]) (acc ++ [y]) s (by rw [e]; simp) (by simp; omega) h
      | _ => exact fun h => h.elim
  exact go xs [] [] st rfl (Nat.le_refl _) h0
/-- a comprehension that changes nothing -/
theorem comp_map {f : D → Store → O (Option D)} {g : D → D} {xs : List D} {st : Store} (hl : xs.length ≤ LIM) (h : ∀ x ∈ xs, f x st = .ok (some (g x)) st) : compL f xs [] st = .ok (xs.map g) st := by
  have go : ∀ (post acc : List D), (∀ x ∈ post, f x st = .ok (some (g x)) st) → acc.length + post.length ≤ LIM → compL f post acc st = .ok (acc ++ post.map g) st := by
    intro post
    induction post with
    | nil => intro acc _ _; simp [compL]
    | cons x post ih =>
      intro acc h hl
      simp only [List.length_cons] at hl
      unfold compL
      rw [h x (by simp)]
      show (if acc.length < LIM then compL f post (acc ++ [g x]) st else .bad) = _
      rw [if_pos (by omega), ih _ (fun y hy => h y (by simp [hy])) (by simp; omega)]
      simp
  have := go xs [] h (by simpa using hl)
  simpa using this
theorem comp_filter {f : D → Store → O (Option D)} {g : D → Option D} {xs : List D} {st : Store} (hl : xs.length ≤ LIM) (h : ∀ x ∈ xs, f x st = .ok (g x) st) : compL f xs [] st = .ok (xs.filterMap g) st := by
  have go : ∀ (post acc : List D), (∀ x ∈ post, f x st = .ok (g x) st) → acc.length + post.length ≤ LIM → compL f post acc st = .ok (acc ++ post.filterMap g) st := by
    intro post
    induction post with
    | nil => intro acc _ _; simp [compL]
    | cons x post ih =>
      intro acc h hl
      simp only [List.length_cons] at hl
      unfold compL
      rw [h x (by simp)]
      cases e : g x with
      | none =>
        show compL f post acc st = _
        rw [ih _ (fun y hy => h y (by simp [hy])) (by omega), List.filterMap_cons_none e]
      | some y =>
        show (if acc.length < LIM then compL f post (acc ++ [y]) st else .bad) = _
        rw [if_pos (by omega), ih _ (fun y hy => h y (by simp [hy])) (by simp; omega), List.filterMap_cons_some e]
        simp
  have := go xs [] h (by simpa using hl)
  simpa using this
theorem comp_mapL {α : Type} {f : D → Store → O (Option D)} {enc : α → D} {g : α → D} {st : Store} (l : List α) (hl : l.length ≤ LIM) (h : ∀ a ∈ l, f (enc a) st = .ok (some (g a)) st) : compL f (l.map enc) [] st = .ok (l.map g) st := by
  have go : ∀ (post : List α) (acc : List D), (∀ x ∈ post, f (enc x) st = .ok (some (g x)) st) → acc.length + post.length ≤ LIM → compL f (post.map enc) acc st = .ok (acc ++ post.map g) st := by
    intro post
    induction post with
    | nil => intro acc _ _; simp [compL]
    | cons x post ih =>
      intro acc h hl
      simp only [List.length_cons] at hl
      rw [List.map_cons]
      unfold compL
      rw [h x (by simp)]
      show (if acc.length < LIM then compL f (post.map enc) (acc ++ [g x]) st else .bad) = _
      rw [if_pos (by omega), ih _ (fun y hy => h y (by simp [hy])) (by simp; omega)]
      simp
  have := go l [] h (by simpa using hl)
  simpa using this
theorem OP_eq {α : Type} {o : O α} {r : α} {st : Store} (h : @OPi _ ⟨fun a s => a = r ∧ s = st⟩ o) : o = .ok r st := by
  cases o with
  | ok a s => obtain ⟨h1, h2⟩ := h; rw [h1, h2]
  | _ => exact h.elim
theorem bls_map {α : Type} (g : α → Bool) : ∀ l : List α, bls (l.map fun a => .bl (g a)) = some (l.map g)
  | [] => rfl
  | a :: l => by simp [bls, bls_map g l]
theorem ints_map {α : Type} (g : α → Int) : ∀ l : List α, dInts (l.map fun a => .int (g a)) = some (l.map g)
  | [] => rfl
  | a :: l => by simp [dInts, ints_map g l]
theorem strs_map {α : Type} (g : α → List Nat) : ∀ l : List α, dStrs (l.map fun a => .str (g a)) = some (l.map g)
  | [] => rfl
  | a :: l => by simp [dStrs, strs_map g l]
theorem lim_ge {k : Nat} (h : k ≤ 10000000) : k ≤ LIM := by
  unfold LIM; omega
theorem comp_filterL {α : Type} {f : D → Store → O (Option D)} {enc g : α → D} {P : α → Bool} {st : Store} (l : List α) (hl : l.length ≤ LIM) (h : ∀ a ∈ l, f (enc a) st = .ok (if P a = true then some (g a) else none) st) : compL f (l.map enc) [] st = .ok ((l.filter P).map g) st := by
  have go : ∀ (post : List α) (acc : List D), (∀ x ∈ post, f (enc x) st = .ok (if P x = true then some (g x) else none) st) → acc.length + post.length ≤ LIM → compL f (post.map enc) acc st = .ok (acc ++ (post.filter P).map g) st := by
    intro post
    induction post with
    | nil => intro acc _ _; simp [compL]
    | cons x post ih =>
      intro acc h hl
      simp only [List.length_cons] at hl
      rw [List.map_cons]
      unfold compL
      rw [h x (by simp)]
      by_cases hp : P x = true
      · rw [if_pos hp]
        show (if acc.length < LIM then compL f (post.map enc) (acc ++ [g x]) st else .bad) = _
        rw [if_pos (by omega), ih _ (fun y hy => h y (by simp [hy])) (by simp; omega)]
        simp [hp]
      · rw [if_neg hp]
        show compL f (post.map enc) acc st = _
        rw [ih _ (fun y hy => h y (by simp [hy])) (by omega)]
        simp [hp]
  have := go l [] h (by simpa using hl)
  simpa using this
theorem range0 (m : Int) : rangeD 0 m = (List.range m.toNat).map fun (k : Nat) => D.int (k : Int) := by
  unfold rangeD
  simp
theorem range_at {m : Nat} {pre post : List Nat} {x : Nat} (h : List.range m = pre ++ x :: post) : x = pre.length ∧ pre.length < m := by
  have h1 : (List.range m)[pre.length]? = some x := by rw [h]; simp
  rw [List.getElem?_eq_some_iff] at h1
  obtain ⟨h2, h3⟩ := h1
  simp at h2 h3
  exact ⟨h3.symm, h2⟩
theorem comp_invL {α : Type} {Q : List D → Store → Prop} {f : D → Store → O (Option D)} {enc : α → D} {l : List α} {st : Store} (J : List α → List D → Store → Prop) (hl : l.length ≤ LIM) (h0 : J [] [] st)
    (hs : ∀ (pre : List α) (x : α) (post : List α) (acc : List D) (st : Store), l = pre ++ x :: post → J pre acc st → @OPi _ ⟨fun o st' => match o with
      | some y => J (pre ++ [x]) (acc ++ [y]) st'
      | none => J (pre ++ [x]) acc st'⟩ (f (enc x) st))
    (he : ∀ acc st', J l acc st' → Q acc st') : @OPi _ ⟨Q⟩ (compL f (l.map enc) [] st) := by
  have go : ∀ (post pre : List α) (acc : List D) (st : Store), l = pre ++ post → acc.length ≤ pre.length → J pre acc st → @OPi _ ⟨Q⟩ (compL f (post.map enc) acc st) := by
    intro post
    induction post with
    | nil =>
      intro pre acc st e hl h
      rw [List.append_nil] at e
      subst e
      exact he acc st h
    | cons x post ih =>
      intro pre acc st e hl2 h
      have h1 := hs pre x post acc st e h
      have hlen : l.length = pre.length + (post.length + 1) := by rw [e]; simp
      rw [List.map_cons]
      unfold compL
      revert h1
      generalize f (enc x) st = o
      cases o with
      | ok a s =>
        cases a with
        | none => exact fun h => ih (pre ++ [x]) acc s (by rw [e]; simp) (by simp; omega) h
        | some y =>
          intro h
          show @OPi _ ⟨Q⟩ (if acc.length < LIM then compL f (post.map enc) (acc ++ [y]) s else .bad)
          rw [if_pos (by omega)]
          exact ih (pre ++ [x]) (acc ++ [y]) s (by rw [e]; simp) (by simp; omega) h
      | _ => exact fun h => h.elim
  exact go l [] [] st rfl (Nat.le_refl _) h0
theorem nodup_le {α : Type} [DecidableEq α] : ∀ {l m : List α}, l.Nodup → (∀ x ∈ l, x ∈ m) → l.length ≤ m.length
  | [], _, _, _ => Nat.zero_le _
  | a :: l, m, h, hs => by
    obtain ⟨h1, h2⟩ := List.nodup_cons.mp h
    have ih := nodup_le (l := l) (m := m.erase a) h2 fun x hx => (List.mem_erase_of_ne (fun e => h1 (by rw [← e]; exact hx))).mpr (hs x (by simp [hx]))
    have := List.length_erase_of_mem (hs a (by simp))
    have hp := List.length_pos_of_mem (hs a (by simp))
    simp only [List.length_cons]
    omega
end G
set_option hygiene false in
local macro_rules | `(tactic| simp! only [$ls,*]) => `(tactic| simp only [seval, G.OP_ok, G.OP_bad, G.OP_bind, G.O_of_some, G.O_of_none, G.OP_of_ite, G.OP_ite, G.RP_ite, ↓G.OP_ite_bad, ↓G.RP_ite_bad, G.RP_nx, G.RP_rt, G.RP_bk, G.RP_ct, G.RP_bad, G.RP_run, G.RP_seqR, G.RP_seq, G.RP_pass, G.RP_brk, G.RP_cont, G.RP_ret0, G.RP_badS, G.RP_ret, G.RP_ex, G.RP_nm, G.RP_own, G.ownR_lst, G.RP_if, G.RP_tg, G.RP_par, G.RP_asgn, G.RP_unp, G.RP_for, G.RP_app, G.RP_frz, G.RP_aug, G.aug_add, G.aug_sub, G.ofPut_some, G.putO_nil, G.putO_v, G.putO_o, G.setAll_nil, G.setAll_cons, G.nmT_eq, G.osubR_eq, G.RP_fld, G.val_k, G.val_v, G.val_pk, G.val_op, G.val_neg, G.val_no, G.val_ife, G.val_tup, G.val_lst, G.val_new, G.val_bi, G.val_call, G.val_callK, G.val_mk, G.val_mkK, G.val_mkc, G.get_c, G.val_cm, G.val_isi, G.val_at, G.val_has, G.val_lenO, G.val_strO, G.val_boolO, G.val_ls, G.lsV_lst, G.val_up, G.upD_str, G.val_d0, G.val_d1, G.d1_str, G.val_ch, G.val_split, G.val_join, G.val_fmt, G.val_joined, G.val_cons, G.val_bop, G.val_sl, G.val_lc, G.tst_k, G.tst_v, G.tst_op, G.tst_bi, G.tst_call, G.tst_isi, G.tst_ch, G.tst_has, G.tst_boolO, G.tst_at, G.tst_me, G.tst_no, G.tst_bop, G.tst_ife, G.bopV_one, G.bopV_cons, G.bopT_one, G.bopT_cons, G.args_nil, G.args_cons, G.joinedV_nil, G.joinedV_cons, G.optV_none, G.optV_one, G.optI_int, G.itm_v, G.itm_pk, G.itm_op, G.itm_call, G.itm_at, G.itm_sl, G.itm_lst, G.itm_tup, G.itm_lc, G.itm_rng, G.itm_enum, G.itm_zip, G.rng1, G.vw_int, G.vw_str, G.vw_tup, G.vw_lst, G.vw_bl, G.vw_non, G.add_int, G.add_str, G.add_tup, G.add_lst, G.sub_int, G.mul_int, G.fdiv_int, G.mod_int, G.lt_int, G.le_int, G.gt_int, G.ge_int, G.eq_int, G.ne_int, G.eq_str, G.ne_str, G.is_non, G.isnot_non, G.is_tup, G.isnot_tup, G.is_int, G.isnot_int, G.mem_chr, G.nmem_chr, G.idx_str, G.idx_tup, G.idx_lst, G.idx_fl, G.tr_bl, G.tr_int, G.tr_non, G.tr_str, G.tr_tup, G.tr_lst, G.neg_int, G.sf_tup, G.sf_lst, G.si_tup, G.si_lst, G.si_str, G.sv_tup, G.sv_lst, G.sv_fl, G.len_str, G.len_tup, G.len_lst, G.len_fl, G.int_int, G.int_bl, G.int_str, G.str_int, G.str_str, G.abs_int, G.bool_bl, G.min_int, G.max_int, G.divmod_int, G.tuple_lst, G.tuple_tup, G.list_lst, G.list_tup, G.sl_str, G.sl_tup, G.sl_lst, G.sl_fl, G.fmt_str, G.fmt_int, G.cons_lst, G.lv_lst, G.atI_zero, G.atI_one, G.atI_two, G.atI_three, G.not_f, G.not_t, G.testsV_nil, G.testsV_one, G.get_v, G.get_s, G.pk_v, G.pk_o, G.pk_s, G.ix_z, G.ix_s, G.set_z, G.set_s, G.wipe_nil, G.wipe_cons, G.setPt_nm, G.setPt_tp, G.setPt_tl, G.setPts_nil, G.setPts_cons, G.ob_some, G.om_some, G.dt_eq, G.df_eq, G.bn_eq, G.bf_eq, G.ne0, G.len_nil, G.len_cons, G.map_nil', G.map_cons', G.rep_z, G.rep_s, G.app_nil, G.app_cons, G.ft_eq, G.tf_eq, G.t_imp, G.f_imp, G.n_t, G.n_f, G.a_t, G.t_a, G.a_f, G.f_a, G.i_t, G.e_s, G.it_t, G.it_f, G.nn, G.n_sub, $ls,*])

/-! More rules of reckoning. -/
namespace G
def subV (x k d : D) (env : Env) (st : Store) : R := match x, k with
    | .loc l, .int k => (match st[l]? with
      | some (.lst xs) => match ixN xs.length k with
        | some j => if ltLoc l d then .nx env (st.set l (.lst (xs.set j d))) else .bad
        | none => .bad
      | _ => .bad)
    | _, _ => .bad
theorem /-ev-/ RP_sub {s1 s2 : Sem} {d : D} {env : Env} {st : Store} {nx : Env → Store → Prop} {rt : D → Store → Prop} {bk ct : Env → Store → Prop} : @RP ⟨nx, rt, bk, ct⟩ (subR s1 s2 d env st) = @OPi _ ⟨fun x st => @OPi _ ⟨fun k st => @RP ⟨nx, rt, bk, ct⟩ (subV x k d env st)⟩ (s2.val env st)⟩ (s1.val env st) := by
  unfold subR
  rw [RP_run]
  congr 2
  funext x st
  rw [RP_run]
  rfl
theorem /-ev-/ ixN30 : ixN 3 0 = some 0 := by decide
theorem /-ev-/ ixN31 : ixN 3 1 = some 1 := by decide
theorem /-ev-/ ixN32 : ixN 3 2 = some 2 := by decide
theorem /-ev-/ lt_int' {l : Nat} {i : Int} : ltLoc l (.int i) = true := rfl
theorem /-ev-/ setD_z {d e : D} {xs : List D} : List.set (d :: xs) 0 e = e :: xs := rfl
theorem /-ev-/ setD_s {d e : D} {xs : List D} {n : Nat} : List.set (d :: xs) (n + 1) e = d :: xs.set n e := rfl
theorem /-ev-/ isi_int_int {Γ : Ctx} {st : Store} {i : Int} : isiV Γ st (.int i) .int = some true := rfl
theorem /-ev-/ isi_int_bool {Γ : Ctx} {st : Store} {i : Int} : isiV Γ st (.int i) .bool = some false := rfl
theorem /-ev-/ isi_str_str {Γ : Ctx} {st : Store} {i : List Nat} : isiV Γ st (.str i) .str = some true := rfl
theorem /-ev-/ isi_tup_tup {Γ : Ctx} {st : Store} {i : List D} : isiV Γ st (.tup i) .tuple = some true := rfl
def fldV (Γ : Ctx) (f : Nm) (d x : D) (env : Env) (st : Store) : R := match x with
    | .loc l => (match st[l]? with
      | some (.ins c fs) => if ltLoc l d = true ∧ fs.length < 100 ∧ isFld Γ c f = true then .nx env (st.set l (.ins c (putF f d fs))) else .bad
      | _ => .bad)
    | _ => .bad
theorem /-ev-/ RP_fldV {Γ : Ctx} {f : Nm} {s1 : Sem} {d : D} {env : Env} {st : Store} {nx : Env → Store → Prop} {rt : D → Store → Prop} {bk ct : Env → Store → Prop} : @RP ⟨nx, rt, bk, ct⟩ (fldR Γ f s1 d env st) = @OPi _ ⟨fun x st => @RP ⟨nx, rt, bk, ct⟩ (fldV Γ f d x env st)⟩ (s1.val env st) := by
  rw [RP_fldR]; rfl
theorem pow_i {i j : Int} {st : Store} (h : 0 ≤ j) (h2 : j ≤ 1000) (h3 : i.natAbs < 1000) : op2 .pow st (.int i) (.int j) = some (.int (i ^ j.toNat)) := if_pos ⟨h, h2, h3⟩
theorem /-ev-/ pow6 {st : Store} : op2 .pow st (.int 10) (.int 6) = some (.int 1000000) := pow_i (by decide) (by decide) (by decide)
theorem /-ev-/ pow9 {st : Store} : op2 .pow st (.int 10) (.int 9) = some (.int 1000000000) := pow_i (by decide) (by decide) (by decide)
theorem /-ev-/ pow15 {st : Store} : op2 .pow st (.int 10) (.int 15) = some (.int 1000000000000000) := pow_i (by decide) (by decide) (by decide)
theorem /-ev-/ pow16 {st : Store} : op2 .pow st (.int 10) (.int 16) = some (.int 10000000000000000) := pow_i (by decide) (by decide) (by decide)
theorem /-ev-/ pow17 {st : Store} : op2 .pow st (.int 10) (.int 17) = some (.int 100000000000000000) := pow_i (by decide) (by decide) (by decide)
theorem /-ev-/ pow18 {st : Store} : op2 .pow st (.int 10) (.int 18) = some (.int 1000000000000000000) := pow_i (by decide) (by decide) (by decide)
theorem /-ev-/ pow30 {st : Store} : op2 .pow st (.int 10) (.int 30) = some (.int 1000000000000000000000000000000) := pow_i (by decide) (by decide) (by decide)
theorem /-ev-/ pow33 {st : Store} : op2 .pow st (.int 10) (.int 33) = some (.int 1000000000000000000000000000000000) := pow_i (by decide) (by decide) (by decide)
theorem /-ev-/ lt_ints {l : Nat} {d : D} {ds : List D} : ltLocs l (d :: ds) = (ltLoc l d && ltLocs l ds) := rfl
theorem /-ev-/ lt_nil {l : Nat} : ltLocs l [] = true := rfl
section
variable {env : Env} {st : Store} {x y : Sem} {es : List Sem} {xs : List D} {d : D} {i : Nat} {nx : Env → Store → Prop} {rt : D → Store → Prop} {bk ct : Env → Store → Prop}
theorem /-ev-/ val_sortK {kx : KX} : (sortKE kx x).val env st = (x.val env st).bind fun d st => .of (((listv st d).bind fun xs => sortK (fun x => kx.val env x) xs).map .lst) st := rfl
theorem /-ev-/ itm_sortK {kx : KX} : (sortKE kx x).items env st = ((sortKE kx x).val env st).bind fun x st => .of (seqI x) st := rfl
theorem /-ev-/ val_lrng : (lrngE es).val env st = (args es env st).bind fun ds st => (rngI ds st).bind fun xs st => .ok (.lst xs) st := rfl
theorem /-ev-/ val_eqO {Γ : Ctx} {n : Bool} : (eqOE Γ i n x y).val env st = (x.val env st).bind fun u st => (y.val env st).bind fun v st => eqOV Γ i n u v st := rfl
theorem /-ev-/ tst_eqO {Γ : Ctx} {n : Bool} : (eqOE Γ i n x y).test env st = ((eqOE Γ i n x y).val env st).bind fun x st => .of (truth st x) st := rfl
theorem /-ev-/ val_index : (indexE x y).val env st = (x.val env st).bind fun u st => if isLs u = true then (y.val env st).bind fun v st => .of (mt .index st u [v]) st else .bad := rfl
theorem /-ev-/ val_count : (countE x y).val env st = (x.val env st).bind fun u st => if isLs u = true then (y.val env st).bind fun v st => .of (mt .count st u [v]) st else .bad := rfl
theorem /-ev-/ isLs_lst : isLs (.lst xs) = true := rfl
theorem /-ev-/ RP_ins : @RP ⟨nx, rt, bk, ct⟩ (insS i x y env st) = @RP ⟨nx, rt, bk, ct⟩ (match env[i]? with
  | some (.own xs) => (x.val env st).run env fun k st => (y.val env st).run env fun d st => match k with
    | .int k => if 0 ≤ k ∧ k ≤ xs.length ∧ xs.length < LIM then .nx (env.set i (.own (xs.take k.toNat ++ d :: xs.drop k.toNat))) st else .bad
    | _ => .bad
  | _ => .bad) := rfl
end
end G
set_option hygiene false in
local macro_rules | `(tactic| simp! only [$ls,*]) => `(tactic| simp only [seval, G.OP_ok, G.OP_bad, G.OP_bind, G.O_of_some, G.O_of_none, G.OP_of_ite, G.OP_ite, G.RP_ite, ↓G.OP_ite_bad, ↓G.RP_ite_bad, G.RP_nx, G.RP_rt, G.RP_bk, G.RP_ct, G.RP_bad, G.RP_run, G.RP_seqR, G.RP_seq, G.RP_pass, G.RP_brk, G.RP_cont, G.RP_ret0, G.RP_badS, G.RP_ret, G.RP_ex, G.RP_nm, G.RP_own, G.ownR_lst, G.RP_if, G.RP_tg, G.RP_par, G.RP_asgn, G.RP_unp, G.RP_for, G.RP_app, G.RP_frz, G.RP_aug, G.aug_add, G.aug_sub, G.ofPut_some, G.putO_nil, G.putO_v, G.putO_o, G.setAll_nil, G.setAll_cons, G.nmT_eq, G.osubR_eq, G.RP_fld, G.val_k, G.val_v, G.val_pk, G.val_op, G.val_neg, G.val_no, G.val_ife, G.val_tup, G.val_lst, G.val_new, G.val_bi, G.val_call, G.val_callK, G.val_mk, G.val_mkK, G.val_mkc, G.get_c, G.val_cm, G.val_isi, G.val_at, G.val_has, G.val_lenO, G.val_strO, G.val_boolO, G.val_ls, G.lsV_lst, G.val_up, G.upD_str, G.val_d0, G.val_d1, G.d1_str, G.val_ch, G.val_split, G.val_join, G.val_fmt, G.val_joined, G.val_cons, G.val_bop, G.val_sl, G.val_lc, G.tst_k, G.tst_v, G.tst_op, G.tst_bi, G.tst_call, G.tst_isi, G.tst_ch, G.tst_has, G.tst_boolO, G.tst_at, G.tst_me, G.tst_no, G.tst_bop, G.tst_ife, G.bopV_one, G.bopV_cons, G.bopT_one, G.bopT_cons, G.args_nil, G.args_cons, G.joinedV_nil, G.joinedV_cons, G.optV_none, G.optV_one, G.optI_int, G.itm_v, G.itm_pk, G.itm_op, G.itm_call, G.itm_at, G.itm_sl, G.itm_lst, G.itm_tup, G.itm_lc, G.itm_rng, G.itm_enum, G.itm_zip, G.rng1, G.vw_int, G.vw_str, G.vw_tup, G.vw_lst, G.vw_bl, G.vw_non, G.add_int, G.add_str, G.add_tup, G.add_lst, G.sub_int, G.mul_int, G.fdiv_int, G.mod_int, G.lt_int, G.le_int, G.gt_int, G.ge_int, G.eq_int, G.ne_int, G.eq_str, G.ne_str, G.is_non, G.isnot_non, G.is_tup, G.isnot_tup, G.is_int, G.isnot_int, G.mem_chr, G.nmem_chr, G.idx_str, G.idx_tup, G.idx_lst, G.idx_fl, G.tr_bl, G.tr_int, G.tr_non, G.tr_str, G.tr_tup, G.tr_lst, G.neg_int, G.sf_tup, G.sf_lst, G.si_tup, G.si_lst, G.si_str, G.sv_tup, G.sv_lst, G.sv_fl, G.len_str, G.len_tup, G.len_lst, G.len_fl, G.int_int, G.int_bl, G.int_str, G.str_int, G.str_str, G.abs_int, G.bool_bl, G.min_int, G.max_int, G.divmod_int, G.tuple_lst, G.tuple_tup, G.list_lst, G.list_tup, G.sl_str, G.sl_tup, G.sl_lst, G.sl_fl, G.fmt_str, G.fmt_int, G.cons_lst, G.lv_lst, G.atI_zero, G.atI_one, G.atI_two, G.atI_three, G.not_f, G.not_t, G.testsV_nil, G.testsV_one, G.get_v, G.get_s, G.pk_v, G.pk_o, G.pk_s, G.ix_z, G.ix_s, G.set_z, G.set_s, G.wipe_nil, G.wipe_cons, G.setPt_nm, G.setPt_tp, G.setPt_tl, G.setPts_nil, G.setPts_cons, G.ob_some, G.om_some, G.dt_eq, G.df_eq, G.bn_eq, G.bf_eq, G.ne0, G.len_nil, G.len_cons, G.map_nil', G.map_cons', G.rep_z, G.rep_s, G.app_nil, G.app_cons, G.ft_eq, G.tf_eq, G.t_imp, G.f_imp, G.n_t, G.n_f, G.a_t, G.t_a, G.a_f, G.f_a, G.i_t, G.e_s, G.it_t, G.it_f, G.nn, G.n_sub, G.RP_sub, G.ixN30, G.ixN31, G.ixN32, G.lt_int', G.setD_z, G.setD_s, G.isi_int_int, G.isi_int_bool, G.isi_str_str, G.isi_tup_tup, G.RP_fldV, G.pow6, G.pow9, G.pow15, G.pow16, G.pow17, G.pow18, G.pow30, G.pow33, G.lt_ints, G.lt_nil, G.val_sortK, G.itm_sortK, G.val_lrng, G.val_eqO, G.tst_eqO, G.val_index, G.val_count, G.isLs_lst, G.RP_ins, $ls,*])

namespace G
/-- other places of the store that are kept -/
class FrC where
  fr : List (Nat × Obj)
instance frc0 : FrC := ⟨[]⟩
/-- a well of draws at l, at most n draws mixed so far -/
def Wl [FrC] (l n : Nat) (st : Store) : Prop := ∃ a b c : Int, st[l]? = some (.lst [.int a, .int b, .int c]) ∧ (0 ≤ a ∧ a < 4294967296) ∧ 0 ≤ b ∧ (0 ≤ c ∧ c ≤ n) ∧ ∀ q ∈ FrC.fr, q.1 ≠ l ∧ st[q.1]? = some q.2
section
variable [FrC]
theorem fr_set {l : Nat} {st : Store} {o : Obj} (h : ∀ q ∈ FrC.fr, q.1 ≠ l ∧ st[q.1]? = some q.2) : ∀ q ∈ FrC.fr, q.1 ≠ l ∧ (st.set l o)[q.1]? = some q.2 := fun q hq => ⟨(h q hq).1, by rw [List.getElem?_set_ne (Ne.symm (h q hq).1)]; exact (h q hq).2⟩
theorem Wl.up {l m n : Nat} {st : Store} (h : Wl l m st) (hm : m ≤ n) : Wl l n st := by
  obtain ⟨a, b, c, h1, h2, h3, h4, h5⟩ := h
  exact ⟨a, b, c, h1, h2, h3, by omega, h5⟩
theorem big_lt {i : Int} (h : -(10 ^ 50) ≤ i) (h2 : i ≤ 10 ^ 50) : i.natAbs < BIG := by
  unfold BIG
  have : (10 : Int) ^ 50 < 2 ^ 4000 := by decide +kernel
  omega
theorem okMul_of {i j : Int} (h : -(10 ^ 50) ≤ i) (h2 : i ≤ 10 ^ 50) (h3 : -(10 ^ 50) ≤ j) (h4 : j ≤ 10 ^ 50) : okMul i j = true := by
  unfold okMul
  simp [big_lt h h2, big_lt h3 h4]
theorem okDiv_of {j : Int} (h : 0 < j) (h2 : j ≤ 10 ^ 50) : okDiv j = true := by
  unfold okDiv DIV
  have : (10 : Int) ^ 50 < 2 ^ 4000 := by decide +kernel
  have h3 : j.natAbs < 2 ^ 4000 := by omega
  simp [h, h3]
def SpDip (f : Fd) : Prop := ∀ (l n : Nat) (m : Int) (st : Store), Wl l n st → n ≤ 1000000000 → 1 ≤ m → m ≤ 10 ^ 50 → OP (fun r st' => ∃ k : Int, r = .int k ∧ 0 ≤ k ∧ k < m ∧ Wl l (n + 1) st') (f [.loc l, .int m] st)
theorem sv_loc {l : Nat} {st : Store} {xs : List D} (h : st[l]? = some (.lst xs)) : seqv st (.loc l) = some xs := by
  show (match st[l]? with | some (.lst xs) => some xs | _ => none) = _
  rw [h]
theorem idx_loc {l : Nat} {st : Store} {xs : List D} {i : Int} (h : st[l]? = some (.lst xs)) : op2 .idx st (.loc l) (.int i) = atI xs i := by
  show (seqv st (.loc l)).bind _ = _
  rw [sv_loc h]; rfl
theorem subV_loc {l : Nat} {st : Store} {xs : List D} {k : Int} {d : D} {env : Env} (h : st[l]? = some (.lst xs)) : subV (.loc l) (.int k) d env st = match ixN xs.length k with
    | some j => if ltLoc l d then .nx env (st.set l (.lst (xs.set j d))) else .bad
    | none => .bad := by
  show (match st[l]? with
    | some (.lst xs) => match ixN xs.length k with
      | some j => if ltLoc l d then R.nx env (st.set l (.lst (xs.set j d))) else .bad
      | none => .bad
    | _ => .bad) = _
  rw [h]
theorem set_at {l : Nat} {st : Store} {o o' : Obj} (h : st[l]? = some o) : (st.set l o')[l]? = some o' := by
  rw [List.getElem?_set_self (List.getElem?_eq_some_iff.mp h).1]
theorem idx_set {l : Nat} {st : Store} {xs : List D} {i : Int} (h : l < st.length) : op2 .idx (st.set l (.lst xs)) (.loc l) (.int i) = atI xs i :=
  idx_loc (by rw [List.getElem?_set_self h])
theorem subV_set {l : Nat} {st : Store} {xs : List D} {k : Int} {d : D} {env : Env} (h : l < st.length) : subV (.loc l) (.int k) d env (st.set l (.lst xs)) = match ixN xs.length k with
    | some j => if ltLoc l d then .nx env (st.set l (.lst (xs.set j d))) else .bad
    | none => .bad := by
  rw [subV_loc (by rw [List.getElem?_set_self h])]
  simp only [List.set_set]
theorem sp_dip (Γ : Ctx) : SpDip (runF 2 3 (m_dip Γ)) := by
  intro l n m st ⟨a, b, c, h1, ha, hb, hc, hf⟩ hn hm hm2
  have hl := (List.getElem?_eq_some_iff.mp h1).1
  refine OP_run rfl ?_
  delta m_dip
  simp! only [idx_loc h1]
  refine ⟨fun hb0 => ?_, fun hb0 => ?_⟩
  · refine ⟨okDiv_of (by omega) hm2, ?_⟩
    simp! only [subV_loc h1]
    refine ⟨_, rfl, Int.emod_nonneg _ (by omega), Int.emod_lt_of_pos _ (by omega), a, b / m, c, by rw [List.getElem?_set_self hl], ha, Int.ediv_nonneg hb (by omega), ⟨hc.1, by omega⟩, fr_set hf⟩
  · simp! only [subV_loc h1, idx_set hl, subV_set hl]
    refine ⟨okMul_of (by omega) (by omega) (by omega) (by omega), okMul_of (by omega) (by omega) (by omega) (by omega), okMul_of (by omega) (by omega) (by omega) (by omega), okDiv_of (by omega) (by omega), okDiv_of (by omega) (by omega), okDiv_of (by omega) hm2, ?_⟩
    refine ⟨_, rfl, Int.emod_nonneg _ (by omega), Int.emod_lt_of_pos _ (by omega), _, b, c + 1, by rw [List.getElem?_set_self hl], ⟨Int.emod_nonneg _ (by omega), Int.lt_of_lt_of_le (Int.emod_lt_of_pos _ (by omega)) (by omega)⟩, hb, ⟨by omega, by omega⟩, fr_set hf⟩
end
end G
namespace G
/-! integers, names, numbers -/
def letS : List Nat := [97, 98, 99, 100, 101, 102, 103, 104, 105, 106, 107, 108, 109, 110, 111, 112, 113, 114, 115, 116, 117, 118, 119, 120, 121, 122]
def digS : List Nat := [48, 49, 50, 51, 52, 53, 54, 55, 56, 57]
def isSign (c : Nat) : Bool := letS.contains c || digS.contains c
def isNameS (s : List Nat) : Bool := decide (1 ≤ s.length ∧ s.length ≤ 8) && (letS.contains (s.getD 0 0) && s.all isSign)
def SpInt (f : Fd) : Prop := ∀ i st, f [.int i] st = .ok (.bl true) st
theorem sp_integer (Γ : Ctx) : SpInt (runF 1 1 (m_is_integer Γ)) := by
  intro i st
  apply OP_eq
  refine OP_run rfl ?_
  delta m_is_integer
  simp! only []
def SpWithin (f : Fd) : Prop := ∀ i a b st, f [.int i, .int a, .int b] st = .ok (.bl (decide (a ≤ i ∧ i ≤ b))) st
theorem sp_within (Γ : Ctx) {f : Fd} (h : SpInt f) : SpWithin (runF 3 3 (m_is_within Γ f)) := by
  intro i a b st
  apply OP_eq
  refine OP_run rfl ?_
  delta m_is_within
  simp! only [h i]
  by_cases h1 : a ≤ i
  · simp! only [h1, decide_true]
  · simp! only [h1, decide_false]
def SpName (f : Fd) : Prop := ∀ s st, f [.str s] st = .ok (.bl (isNameS s)) st
theorem atI_getD {α : Type} {l : List α} {d : α} {k : Nat} (h : k < l.length) : atI l (k : Int) = some (l.getD k d) := by
  rw [atI_nat, List.getD_eq_getElem?_getD, List.getElem?_eq_getElem h]; rfl
theorem sp_name (Γ : Ctx) : SpName (runF 1 2 (m_is_name Γ)) := by
  intro s st
  apply OP_eq
  refine OP_run rfl ?_
  delta m_is_name
  simp! only []
  have e1 : ((1 : Int) ≤ s.length) = (1 ≤ s.length) := by apply propext; omega
  have e2 : ((s.length : Int) ≤ 8) = (s.length ≤ 8) := by apply propext; omega
  simp only [e1, e2]
  have no : ¬ (1 ≤ s.length ∧ s.length ≤ 8) → isNameS s = false := fun h => by unfold isNameS; rw [decide_eq_false h]; rfl
  refine ⟨fun h1 => ⟨fun h2 => by rw [no (by omega)], fun h2 => ?_⟩, fun h1 => by rw [no (by omega)]⟩
  have h2 : s.length ≤ 8 := by simpa using h2
  have e0 : atI s 0 = some (s.getD 0 0) := atI_getD (k := 0) (by omega)
  have e3 : isNameS s = (letS.contains (s.getD 0 0) && s.all isSign) := by
    unfold isNameS
    rw [decide_eq_true ⟨h1, h2⟩]; rfl
  simp! only [e0, e3]
  refine ⟨fun hc => ?_, fun hc => ?_⟩
  · have hc : letS.contains (s.getD 0 0) = true := hc
    rw [comp_mapL (g := fun c => .bl (isSign c)) s (lim_ge (by omega)) fun a ha => ?_]
    · simp! only [bi, lv_lst, bls_map, List.all_map, hc, Bool.true_and]
      rw [e3, hc, Bool.true_and]; rfl
    · apply OP_eq
      simp! only [turnV_eq]
      refine ⟨fun h => ?_, fun h => ?_⟩
      · have h : letS.contains a = false := h
        unfold isSign
        rw [h]
        exact rfl
      · have h : ¬ letS.contains a = false := h
        unfold isSign
        have h : letS.contains a = true := eq_true_of_ne_false h
        rw [h]
        exact congrArg (fun b => some (D.bl b)) h
  · have hc : ¬ letS.contains (s.getD 0 0) = true := hc
    have hc : letS.contains (s.getD 0 0) = false := eq_false_of_ne_true hc
    rw [hc]
    exact congrArg D.bl hc
end G
namespace G
/-! ### digits -/
theorem digS_dig {c : Nat} (h : isDig c = true) : digS.contains c = true := by
  unfold isDig at h
  simp only [Bool.and_eq_true, decide_eq_true_eq] at h
  have : c = 48 ∨ c = 49 ∨ c = 50 ∨ c = 51 ∨ c = 52 ∨ c = 53 ∨ c = 54 ∨ c = 55 ∨ c = 56 ∨ c = 57 := by omega
  rcases this with rfl | rfl | rfl | rfl | rfl | rfl | rfl | rfl | rfl | rfl <;> rfl
theorem dch (k : Nat) (h : k < 10) : (Nat.digitChar k).toNat = 48 + k := by
  have : k = 0 ∨ k = 1 ∨ k = 2 ∨ k = 3 ∨ k = 4 ∨ k = 5 ∨ k = 6 ∨ k = 7 ∨ k = 8 ∨ k = 9 := by omega
  rcases this with rfl | rfl | rfl | rfl | rfl | rfl | rfl | rfl | rfl | rfl <;> rfl
theorem toDigits_rec (n : Nat) : Nat.toDigits 10 n = if n < 10 then [Nat.digitChar n] else Nat.toDigits 10 (n / 10) ++ [Nat.digitChar (n % 10)] := by
  rw [Nat.toDigits_eq_if (by decide)]
theorem natStr_rec (n : Nat) : natStr n = if n < 10 then [48 + n] else natStr (n / 10) ++ [48 + n % 10] := by
  unfold natStr
  rw [toDigits_rec]
  split
  · rename_i h
    simp [dch n h]
  · simp [dch (n % 10) (Nat.mod_lt _ (by decide))]
theorem natStr_dig : ∀ n : Nat, ∀ c ∈ natStr n, isDig c = true := by
  intro n
  induction n using Nat.strongRecOn with
  | _ n ih =>
    intro c hc
    rw [natStr_rec] at hc
    split at hc
    · simp at hc; subst hc; unfold isDig; simp; omega
    · rename_i h
      rcases List.mem_append.mp hc with hc | hc
      · exact ih (n / 10) (by omega) c hc
      · simp at hc; subst hc; unfold isDig; simp; omega
theorem natStr_ne (n : Nat) : natStr n ≠ [] := by
  rw [natStr_rec]; split <;> simp
theorem digVal_app (a : List Nat) (c : Nat) : digVal (a ++ [c]) = 10 * digVal a + (c - 48) := by
  unfold digVal; rw [List.foldl_append]; rfl
theorem natStr_val : ∀ n : Nat, digVal (natStr n) = n := by
  intro n
  induction n using Nat.strongRecOn with
  | _ n ih =>
    rw [natStr_rec]
    split
    · show 10 * 0 + (48 + n - 48) = n; omega
    · rename_i h
      rw [digVal_app, ih (n / 10) (by omega)]
      omega
theorem natStr_len' : ∀ (k n : Nat), n < 10 ^ (k + 1) → (natStr n).length ≤ k + 1 := by
  intro k
  induction k with
  | zero => intro n h; rw [natStr_rec, if_pos (by simpa using h)]; simp
  | succ k ih =>
    intro n h
    rw [natStr_rec]
    split
    · simp
    · rw [List.length_append]
      have := ih (n / 10) (by rw [Nat.pow_succ] at h; omega)
      simpa using this
theorem intStr_nat (n : Nat) : intStr (n : Int) = natStr n := rfl
theorem intStr_pos {i : Int} (h : 0 ≤ i) : intStr i = natStr i.toNat := by
  obtain ⟨n, rfl⟩ := Int.eq_ofNat_of_zero_le h
  rfl
theorem intStr_dig {i : Int} (h : 0 ≤ i) : ∀ c ∈ intStr i, isDig c = true := by rw [intStr_pos h]; exact natStr_dig _
theorem intStr_len40 {i : Int} (h : 0 ≤ i) (h2 : i ≤ 10 ^ 39) : (intStr i).length ≤ 40 := by
  rw [intStr_pos h]
  refine natStr_len' 39 _ ?_
  have : i.toNat ≤ 10 ^ 39 := by omega
  exact Nat.lt_of_le_of_lt this (by decide)
theorem small_str {i : Int} (h : -(10 ^ 50) ≤ i) (h2 : i ≤ 10 ^ 50) : i.natAbs < 2 ^ 1900 := by
  have : (10 : Int) ^ 50 < 2 ^ 1900 := by decide +kernel
  omega
/-! ### the number of a word -/
def SpNum (f : Fd) : Prop := ∀ (n a b : Int) (st : Store), 0 ≤ n → n ≤ 10 ^ 39 → a ≤ n → n ≤ b → f [.str (intStr n), .int a, .int b] st = .ok (.int n) st
theorem comp_signs {own : List Nat} {p : Pt} {env : Env} {st : Store} {w : List Nat} {elt : Sem} (hw : w.length ≤ 10000000) (g : Nat → D) (h : ∀ c ∈ w, turnV own elt p [] env (.str [c]) st = .ok (some (g c)) st) :
    compL (turnV own elt p [] env) (w.map fun c => .str [c]) [] st = .ok (w.map g) st := comp_mapL w (lim_ge hw) h
theorem sp_num (Γ : Ctx) : SpNum (runF 3 5 (m_read_number Γ)) := by
  intro n a b st h0 h1 ha hb
  have hl := intStr_len40 h0 h1
  have hne : intStr n ≠ [] := by rw [intStr_pos h0]; exact natStr_ne _
  have hd := intStr_dig h0
  apply OP_eq
  refine OP_run rfl ?_
  delta m_read_number
  simp! only [hne]
  have e1 : ¬ ((40 : Int) < (intStr n).length) := by omega
  simp! only [e1]
  rw [comp_signs (by omega) (fun c => .bl true) fun c hc => ?_]
  · have e2 : bls (List.map (fun c => D.bl true) (intStr n)) = some ((intStr n).map fun _ => true) := bls_map (fun _ => true) _
    have e3 : (intStr n).all isDig = true := List.all_eq_true.mpr hd
    have e4 : (digVal (intStr n) : Int) = n := by rw [intStr_pos h0, natStr_val]; omega
    have e5 : ((intStr n).map fun _ => true).all id = true := by simp
    simp! only [bi, lv_lst, e2, e5, hne, e3, hl, e4, ha, hb, decide_true, small_str (i := n) (by omega) (by omega)]
    exact hne
  · apply OP_eq
    simp! only [turnV_eq]
    have := digS_dig (hd c hc)
    exact congrArg (fun b => some (D.bl b)) this
/-! ### words, lines -/
theorem split_no {c : Nat} : ∀ {s : List Nat}, c ∉ s → splitOn c s = [s]
  | [], _ => rfl
  | x :: r, h => by
    have h1 : x ≠ c := fun e => h (by simp [e])
    unfold splitOn
    rw [if_neg h1, split_no (s := r) fun hm => h (by simp [hm])]
theorem split_cons {c : Nat} {b : List Nat} : ∀ {a : List Nat}, c ∉ a → splitOn c (a ++ c :: b) = a :: splitOn c b
  | [], _ => by show splitOn c (c :: b) = _; rw [splitOn, if_pos rfl]
  | x :: r, h => by
    have h1 : x ≠ c := fun e => h (by simp [e])
    show splitOn c (x :: (r ++ c :: b)) = _
    rw [splitOn, if_neg h1, split_cons (a := r) fun hm => h (by simp [hm])]
theorem split_join {c : Nat} : ∀ {ls : List (List Nat)}, ls ≠ [] → (∀ l ∈ ls, c ∉ l) → splitOn c (joinS [c] ls) = ls
  | [], h, _ => absurd rfl h
  | [x], _, h => split_no (h x (by simp))
  | x :: y :: r, _, h => by
    show splitOn c ((x ++ [c]) ++ joinS [c] (y :: r)) = _
    rw [List.append_assoc]
    show splitOn c (x ++ c :: joinS [c] (y :: r)) = _
    rw [split_cons (h x (by simp)), split_join (by simp) fun l hl => h l (by simp [hl])]
/-! ### rows -/
structure Row where
  nm : List Nat
  num : Int
  sc : Int
def encR (r : Row) : D := .tup [.str r.nm, .int r.num, .int r.sc]
structure RowOk (r : Row) : Prop where
  nm : isNameS r.nm = true
  n1 : 1 ≤ r.num
  n2 : r.num ≤ 10 ^ 30
  s1 : 0 ≤ r.sc
  s2 : r.sc ≤ 10 ^ 33
structure RowsOk (rs : List Row) : Prop where
  l1 : 1 ≤ rs.length
  l6 : rs.length ≤ 6
  ok : ∀ r ∈ rs, RowOk r
  nd : (rs.map (·.nm)).Nodup
def rowText (r : Row) : List Nat := r.nm ++ 32 :: (intStr r.num ++ 32 :: intStr r.sc)
def headText (p : Int) : List Nat := [112, 111, 105, 110, 116, 115, 32] ++ intStr p
def listText (p : Int) (rs : List Row) : List Nat := joinS [10] (headText p :: rs.map rowText)
theorem name_len {s : List Nat} (h : isNameS s = true) : 1 ≤ s.length ∧ s.length ≤ 8 := by
  unfold isNameS at h
  simp only [Bool.and_eq_true, decide_eq_true_eq] at h
  exact h.1
theorem sign_rng {c : Nat} (h : isSign c = true) : 48 ≤ c ∧ c ≤ 122 := by
  unfold isSign at h
  rcases Bool.or_eq_true_iff.mp h with h | h
  · have : c ∈ letS := by simpa using h
    simp [letS] at this; omega
  · have : c ∈ digS := by simpa using h
    simp [digS] at this; omega
theorem name_sign {s : List Nat} (h : isNameS s = true) : ∀ c ∈ s, 48 ≤ c ∧ c ≤ 122 := by
  unfold isNameS at h
  simp only [Bool.and_eq_true, List.all_eq_true] at h
  exact fun c hc => sign_rng (h.2.2 c hc)
theorem name_no {s : List Nat} {c : Nat} (h : isNameS s = true) (hc : c < 48) : c ∉ s := fun hm => by
  have := name_sign h c hm; omega
theorem dig_rng {i : Int} (h : 0 ≤ i) : ∀ c ∈ intStr i, 48 ≤ c ∧ c ≤ 57 := fun c hc => by
  have := intStr_dig h c hc
  unfold isDig at this
  simpa using this
theorem dig_no {i : Int} {c : Nat} (h : 0 ≤ i) (hc : c < 48) : c ∉ intStr i := fun hm => by
  have := dig_rng h c hm; omega
section
variable {st : Store}
theorem okEqs_strs {α : Type} {n : Nat} (g : α → List Nat) : ∀ l : List α, okEqs n (l.map fun a => .str (g a)) = true
  | [] => by cases n <;> rfl
  | a :: l => by
    have ih := okEqs_strs (n := n) g l
    cases n <;> simp [okEqs, okEq, ih]
theorem mem_strs {α : Type} {g : α → List Nat} {l : List α} {u : List Nat} : op2 .mem st (.str u) (.lst (l.map fun a => .str (g a))) = some (.bl (l.any fun a => g a == u)) := by
  show (if (okEq 64 (.str u) && okEqs 64 (l.map fun a => D.str (g a))) = true then some (D.bl ((l.map fun a => D.str (g a)).any fun z => pyEq z (.str u))) else none) = _
  rw [okEqs_strs g l]
  simp [okEq, List.any_map, Function.comp_def, pyEq]
theorem mem_strsT {α : Type} {g : α → List Nat} {l : List α} {u : List Nat} : op2 .mem st (.str u) (.tup (l.map fun a => .str (g a))) = some (.bl (l.any fun a => g a == u)) := by
  show (if (okEq 64 (.str u) && okEqs 64 (l.map fun a => D.str (g a))) = true then some (D.bl ((l.map fun a => D.str (g a)).any fun z => pyEq z (.str u))) else none) = _
  rw [okEqs_strs g l]
  simp [okEq, List.any_map, Function.comp_def, pyEq]
theorem nmem_strs {α : Type} {g : α → List Nat} {l : List α} {u : List Nat} : op2 .nmem st (.str u) (.lst (l.map fun a => .str (g a))) = some (.bl (!l.any fun a => g a == u)) := by
  show (if (okEq 64 (.str u) && okEqs 64 (l.map fun a => D.str (g a))) = true then some (D.bl (!(l.map fun a => D.str (g a)).any fun z => pyEq z (.str u))) else none) = _
  rw [okEqs_strs g l]
  simp [okEq, List.any_map, Function.comp_def, pyEq]
end
/-! ### loops over typed lists -/
theorem forL_invL {α : Type} {nx : Env → Store → Prop} {rt : D → Store → Prop} {bk ct : Env → Store → Prop} {body : StS} {p : Pt} {enc : α → D} {l : List α} {env : Env} {st : Store} (I : List α → Env → Store → Prop) (h0 : I [] env st)
    (hs : ∀ (pre : List α) (x : α) (post : List α) (env : Env) (st : Store), l = pre ++ x :: post → I pre env st → ∃ env1, setPt p (enc x) env = some env1 ∧ @RP ⟨I (pre ++ [x]), rt, nx, I (pre ++ [x])⟩ (body env1 st))
    (he : ∀ env st, I l env st → nx env st) : @RP ⟨nx, rt, bk, ct⟩ (forL body p (l.map enc) env st) := by
  refine forL_inv (fun pre env st => ∃ pr, pre = pr.map enc ∧ (∃ po, l = pr ++ po) ∧ I pr env st) ⟨[], rfl, ⟨l, rfl⟩, h0⟩ ?_ ?_
  · intro pre x post env st e ⟨pr, e1, ⟨po, e2⟩, hI⟩
    subst e1
    rw [e2, List.map_append] at e
    have e3 := List.append_cancel_left e
    cases po with
    | nil => simp at e3
    | cons a po =>
      simp only [List.map_cons, List.cons.injEq] at e3
      obtain ⟨rfl, e4⟩ := e3
      obtain ⟨env1, h1, h2⟩ := hs pr a po env st e2 hI
      have up : ∀ e s, I (pr ++ [a]) e s → ∃ p2, pr.map enc ++ [enc a] = p2.map enc ∧ (∃ po, l = p2 ++ po) ∧ I p2 e s := fun e s h => ⟨pr ++ [a], by simp, ⟨po, by rw [e2]; simp⟩, h⟩
      exact ⟨env1, h1, h2.mono up (fun _ _ h => h) (fun _ _ h => h) up⟩
  · intro env st ⟨pr, e1, ⟨po, e2⟩, hI⟩
    have : po = [] := by
      have hl := congrArg List.length e1
      rw [e2] at hl
      simp at hl
      exact List.length_eq_zero_iff.mp (by simpa using hl)
    subst this
    rw [List.append_nil] at e2
    subst e2
    exact he env st hI
theorem enum_map {α : Type} (enc : α → D) (l : List α) : enumD (l.map enc) = (l.zipIdx).map fun p => .tup [.int p.2, enc p.1] := by
  unfold enumD
  rw [List.zipIdx_map, List.map_map]
  rfl
theorem forL_enum {α : Type} {nx : Env → Store → Prop} {rt : D → Store → Prop} {bk ct : Env → Store → Prop} {body : StS} {p : Pt} {enc : α → D} {l : List α} {env : Env} {st : Store} (I : List α → Env → Store → Prop) (h0 : I [] env st)
    (hs : ∀ (pre : List α) (x : α) (post : List α) (env : Env) (st : Store), l = pre ++ x :: post → I pre env st → ∃ env1, setPt p (.tup [.int (pre.length : Int), enc x]) env = some env1 ∧ @RP ⟨I (pre ++ [x]), rt, nx, I (pre ++ [x])⟩ (body env1 st))
    (he : ∀ env st, I l env st → nx env st) : @RP ⟨nx, rt, bk, ct⟩ (forL body p (enumD (l.map enc)) env st) := by
  rw [enum_map]
  refine forL_invL (fun pre env st => pre = (pre.map (·.1)).zipIdx ∧ I (pre.map (·.1)) env st) ⟨rfl, h0⟩ ?_ ?_
  · intro pre x post env st e ⟨e1, hI⟩
    have hl : l = pre.map (·.1) ++ x.1 :: post.map (·.1) := by
      have := congrArg (List.map (·.1)) e
      rw [List.map_append, List.map_cons] at this
      rw [← this]
      simp
    have hx : x.2 = pre.length := by
      have h2 : (l.zipIdx)[pre.length]? = some x := by rw [e]; simp
      rw [List.getElem?_zipIdx] at h2
      cases hq : l[pre.length]? with
      | none => rw [hq] at h2; cases h2
      | some q => rw [hq] at h2; simp at h2; rw [← h2]
    obtain ⟨env1, h1, h2⟩ := hs (pre.map (·.1)) x.1 (post.map (·.1)) env st hl hI
    rw [List.length_map] at h1
    have up : ∀ e s, I (pre.map (·.1) ++ [x.1]) e s → (pre ++ [x] = ((pre ++ [x]).map (·.1)).zipIdx ∧ I ((pre ++ [x]).map (·.1)) e s) := fun e s h => by
      refine ⟨?_, by simpa using h⟩
      rw [List.map_append, List.zipIdx_append, ← e1]
      simp [← hx]
    refine ⟨env1, by rw [hx]; exact h1, h2.mono up (fun _ _ h => h) (fun _ _ h => h) up⟩
  · intro env st ⟨e1, hI⟩
    refine he env st ?_
    have : (l.zipIdx).map (·.1) = l := by simp
    rw [this] at hI
    exact hI
end G
namespace G
/-! ### rows of a list -/
def SpRow (f : Fd) : Prop := ∀ r st, RowOk r → f [encR r] st = .ok (.bl true) st
theorem sp_row (Γ : Ctx) {f g : Fd} (hf : SpName f) (hg : SpWithin g) : SpRow (runF 1 1 (m_is_row Γ f g)) := by
  intro r st h
  obtain ⟨n, a, b⟩ := r
  obtain ⟨h1, h2, h3, h4, h5⟩ := h
  apply OP_eq
  refine OP_run rfl ?_
  delta m_is_row encR
  have e1 : isNameS n = true := h1
  have e2 : decide ((1 : Int) ≤ a ∧ a ≤ 1000000000000000000000000000000) = true := decide_eq_true ⟨h2, h3⟩
  have e3 : decide ((0 : Int) ≤ b ∧ b ≤ 1000000000000000000000000000000000) = true := decide_eq_true ⟨h4, h5⟩
  simp! only [hf n, hg a, hg b, e1, e2, e3]
def SpWrong (f : Fd) : Prop := ∀ rs st, RowsOk rs → f [.tup (rs.map encR)] st = .ok .non st ∧ f [.lst (rs.map encR)] st = .ok .non st
theorem sp_wrong (Γ : Ctx) {f : Fd} (hf : SpRow f) : SpWrong (runF 1 4 (m_wrong_row Γ f)) := by
  intro rs st h
  have main : ∀ d : D, seqF d = some (rs.map encR) → runF 1 4 (m_wrong_row Γ f) [d] st = .ok .non st := by
    intro d hd
    apply OP_eq
    refine OP_run rfl ?_
    delta m_wrong_row
    simp! only [hd]
    refine forL_enum (enc := encR) (fun pre env st' => ∃ a b, env = [.v d, .own (pre.map fun r => .str r.nm), a, b] ∧ st' = st) ⟨_, _, rfl, rfl⟩ ?_ ?_
    · rintro pre r post env st' e ⟨a, b, rfl, rfl⟩
      have hr : r ∈ rs := by rw [e]; simp
      have hl : pre.length < 6 := by
        have := congrArg List.length e
        simp at this
        have := h.l6
        omega
      have hnd : (pre.any fun a => a.nm == r.nm) = false := by
        have := h.nd
        rw [e, List.map_append, List.map_cons] at this
        rw [List.any_eq_false]
        intro x hx hxx
        have hxx : x.nm = r.nm := by simpa using hxx
        have := (List.nodup_append.mp this).2.2 x.nm (List.mem_map_of_mem hx) r.nm (by simp)
        exact this hxx
      have e6 : ¬ ((6 : Int) ≤ pre.length) := by omega
      refine ⟨_, by simp! only []; rfl, ?_⟩
      have ei : op2 .idx st' (encR r) (.int 0) = some (.str r.nm) := rfl
      simp! only [hf r _ (h.ok r hr), ei, mem_strs, hnd, e6]
      have e7 : (pre.map fun r => D.str r.nm).length < LIM := by
        rw [List.length_map]; exact Nat.lt_of_lt_of_le hl (lim_ge (by omega))
      simp! only [e7, List.map_append]
      first | exact ⟨_, _, rfl, rfl⟩ | exact ⟨_, _, rfl⟩
    · rintro env st' ⟨a, b, rfl, rfl⟩
      simp! only []
  exact ⟨main _ rfl, main _ rfl⟩
def SpChkRows (f : Fd) : Prop := ∀ rs st, RowsOk rs → f [.tup (rs.map encR)] st = .ok .non st
theorem sp_chkrows (Γ : Ctx) {x : Nat} {f : Fd} (hf : SpWrong f) : SpChkRows (runF 1 2 (m_check_rows Γ x f)) := by
  intro rs st h
  apply OP_eq
  refine OP_run rfl ?_
  delta m_check_rows
  have e1 : ¬ ((rs.length : Int) = 0) := by have := h.l1; omega
  simp! only [List.length_map, e1, (hf rs _ h).1]
def SpChkPts (f : Fd) : Prop := ∀ p st, 1 ≤ p → p ≤ 9 → f [.int p] st = .ok .non st
theorem sp_chkpts (Γ : Ctx) {x : Nat} {f : Fd} (hf : SpWithin f) : SpChkPts (runF 1 1 (m_check_points Γ f x)) := by
  intro p st h1 h2
  apply OP_eq
  refine OP_run rfl ?_
  delta m_check_points
  have e1 : decide ((1 : Int) ≤ p ∧ p ≤ 9) = true := decide_eq_true ⟨h1, h2⟩
  simp! only [hf p, e1]
/-! ### reading -/
def SpRdRow (f : Fd) : Prop := ∀ r st, RowOk r → f [.str (rowText r)] st = .ok (encR r) st
theorem rowText_len {r : Row} (h : RowOk r) : (rowText r).length ≤ 90 := by
  have h1 := (name_len h.nm).2
  have h2 := intStr_len40 (i := r.num) (by have := h.n1; omega) (by have := h.n2; omega)
  have h3 := intStr_len40 (i := r.sc) h.s1 (by have := h.s2; omega)
  unfold rowText
  simp only [List.length_append, List.length_cons]
  omega
theorem sp_rdrow (Γ : Ctx) {f g : Fd} (hf : SpName f) (hg : SpNum g) : SpRdRow (runF 1 4 (m_read_row Γ f g)) := by
  intro r st h
  have hn := h.n1
  have hn2 := h.n2
  have hs := h.s1
  have hs2 := h.s2
  have hz : (rowText r).length + 2 ≤ LIM := lim_ge (by have := rowText_len h; omega)
  have sp : splitOn 32 (rowText r) = [r.nm, intStr r.num, intStr r.sc] := by
    unfold rowText
    rw [split_cons (name_no h.nm (by omega)), split_cons (dig_no (by omega) (by omega)), split_no (dig_no hs (by omega))]
  have em : mt .split st (.str (rowText r)) [.str [32]] = some (.lst [.str r.nm, .str (intStr r.num), .str (intStr r.sc)]) := by
    show (if (rowText r).length + 2 ≤ LIM then some (D.lst ((splitOn 32 (rowText r)).map .str)) else none) = _
    rw [if_pos hz, sp]; rfl
  apply OP_eq
  refine OP_run rfl ?_
  delta m_read_row
  simp! only [em, hf r.nm, h.nm, hg r.num 1 1000000000000000000000000000000 _ (by omega) (by omega) hn hn2, hg r.sc 0 1000000000000000000000000000000000 _ hs (by omega) hs hs2]
  rfl
theorem okEqs_rows {n : Nat} : ∀ rs : List Row, okEqs (n + 1) (rs.map encR) = true
  | [] => rfl
  | r :: rs => by
    rw [List.map_cons]
    show (okEq (n + 1) (encR r) && okEqs (n + 1) (rs.map encR)) = true
    rw [okEqs_rows rs]
    cases n <;> rfl
theorem eq_rows0 {st : Store} {rs : List Row} (h : rs ≠ []) : op2 .eq st (.lst (rs.map encR)) (.lst []) = some (.bl false) := by
  cases rs with
  | nil => exact absurd rfl h
  | cons r rs =>
    show (if (okEqs 63 ((r :: rs).map encR) && okEqs 63 []) = true then some (D.bl (pyEqs ((r :: rs).map encR) [])) else none) = _
    rw [okEqs_rows]
    rfl
theorem non_rows {st : Store} {rs : List Row} : op2 .mem st .non (.lst (rs.map encR)) = some (.bl false) := by
  show (if (okEq 64 .non && okEqs 64 (rs.map encR)) = true then some (D.bl ((rs.map encR).any fun z => pyEq z .non)) else none) = _
  rw [okEqs_rows]
  have : ((rs.map encR).any fun z => pyEq z .non) = false := by
    rw [List.any_eq_false]
    intro x hx
    obtain ⟨r, _, rfl⟩ := List.mem_map.mp hx
    simp [encR, pyEq]
  rw [this]; rfl
def SpRdList (f : Fd) : Prop := ∀ p rs st, 1 ≤ p → p ≤ 9 → RowsOk rs → f [.str (listText p rs)] st = .ok (.tup [.int p, .tup (rs.map encR)]) st
theorem head_len {p : Int} (h1 : 1 ≤ p) (h2 : p ≤ 9) : (headText p).length ≤ 47 := by
  unfold headText
  have := intStr_len40 (i := p) (by omega) (by omega)
  simp only [List.length_append, List.length_cons, List.length_nil]
  omega
theorem rowText_no {r : Row} (h : RowOk r) : (10 : Nat) ∉ rowText r := by
  have hn := h.n1
  unfold rowText
  intro hm
  rcases List.mem_append.mp hm with hm | hm
  · exact name_no h.nm (by omega) hm
  rcases List.mem_cons.mp hm with hm | hm
  · exact absurd hm (by decide)
  rcases List.mem_append.mp hm with hm | hm
  · exact dig_no (by omega) (by omega) hm
  rcases List.mem_cons.mp hm with hm | hm
  · exact absurd hm (by decide)
  · exact dig_no h.s1 (by omega) hm
theorem head_no {p : Int} (h : 0 ≤ p) : (10 : Nat) ∉ headText p := by
  unfold headText
  intro hm
  rcases List.mem_append.mp hm with hm | hm
  · simp at hm
  · exact dig_no h (by omega) hm
theorem join_len {c : Nat} {b : Nat} : ∀ {ls : List (List Nat)}, (∀ l ∈ ls, l.length ≤ b) → (joinS [c] ls).length ≤ ls.length * (b + 1)
  | [], _ => by simp [joinS]
  | [x], h => by have := h x (by simp); simp [joinS]; omega
  | x :: y :: r, h => by
    have ih := join_len (c := c) (ls := y :: r) fun l hl => h l (by simp [hl])
    have hx := h x (by simp)
    show ((x ++ [c]) ++ joinS [c] (y :: r)).length ≤ _
    simp only [List.length_append, List.length_cons, List.length_nil] at ih ⊢
    have : (r.length + 1 + 1) * (b + 1) = (r.length + 1) * (b + 1) + (b + 1) := by rw [Nat.add_mul]; omega
    omega
theorem list_len {p : Int} {rs : List Row} (h1 : 1 ≤ p) (h2 : p ≤ 9) (h : RowsOk rs) : (listText p rs).length ≤ 700 := by
  have := join_len (c := 10) (b := 90) (ls := headText p :: rs.map rowText) fun l hl => by
    rcases List.mem_cons.mp hl with rfl | hl
    · have := head_len h1 h2; omega
    · obtain ⟨r, hr, rfl⟩ := List.mem_map.mp hl
      exact rowText_len (h.ok r hr)
  unfold listText
  have h6 := h.l6
  simp only [List.length_cons, List.length_map] at this
  omega
theorem sp_rdlist (Γ : Ctx) {f g w : Fd} (hf : SpNum f) (hg : SpRdRow g) (hw : SpWrong w) : SpRdList (runF 1 6 (m_read_list Γ f g w)) := by
  intro p rs st h1 h2 h
  have hz : (listText p rs).length + 2 ≤ LIM := lim_ge (by have := list_len h1 h2 h; omega)
  have hz2 : (headText p).length + 2 ≤ LIM := lim_ge (by have := head_len h1 h2; omega)
  have hl6 := h.l6
  have hl1 := h.l1
  have sp : splitOn 10 (listText p rs) = headText p :: rs.map rowText := split_join (by simp) fun l hl => by
    rcases List.mem_cons.mp hl with rfl | hl
    · exact head_no (by omega)
    · obtain ⟨r, hr, rfl⟩ := List.mem_map.mp hl
      exact rowText_no (h.ok r hr)
  have em : mt .split st (.str (listText p rs)) [.str [10]] = some (.lst (.str (headText p) :: rs.map fun r => .str (rowText r))) := by
    show (if (listText p rs).length + 2 ≤ LIM then some (D.lst ((splitOn 10 (listText p rs)).map .str)) else none) = _
    rw [if_pos hz, sp, List.map_cons, List.map_map]; rfl
  have sp2 : splitOn 32 (headText p) = [[112, 111, 105, 110, 116, 115], intStr p] := by
    show splitOn 32 ([112, 111, 105, 110, 116, 115] ++ 32 :: intStr p) = _
    rw [split_cons (by decide), split_no (dig_no (by omega) (by omega))]
  have em2 : mt .split st (.str (headText p)) [.str [32]] = some (.lst [.str [112, 111, 105, 110, 116, 115], .str (intStr p)]) := by
    show (if (headText p).length + 2 ≤ LIM then some (D.lst ((splitOn 32 (headText p)).map .str)) else none) = _
    rw [if_pos hz2, sp2]; rfl
  have ec : cut (D.str (headText p) :: rs.map fun r => D.str (rowText r)) (some 1) none = rs.map fun r => D.str (rowText r) := by
    have hm : min (1 : Int) ((rs.length : Int) + 1) = 1 := by omega
    unfold cut clip
    simp [hm]
    exact List.take_of_length_le (by simp)
  have ne0 : rs ≠ [] := by intro z; rw [z] at hl1; simp at hl1
  apply OP_eq
  refine OP_run rfl ?_
  delta m_read_list
  simp! only [em, em2, decide_true, hf p 1 9 _ (by omega) (by omega) h1 h2, ec]
  rw [comp_mapL rs (lim_ge (by omega)) (g := encR) fun r hr => ?_]
  · simp! only []
    simp! only [eq_rows0 ne0, non_rows, (hw rs _ h).2]
  · apply OP_eq
    simp! only [turnV_eq, hg r _ (h.ok r hr)]
/-! ### the class List -/
structure LC (Γ : Ctx) (c : Nat) (K : Cl) : Prop where
  at_ : Γ.cls c = some K
  flds : K.fields = [6, 7]
  frz : K.frozen = true
def encL (rs : List Row) : D := .tup (rs.map encR)
def objL (c : Nat) (p : Int) (rs : List Row) : D := .obj c [.int p, encL rs]
theorem lt_rows {l : Nat} : ∀ rs : List Row, ltLocs l (rs.map encR) = true
  | [] => rfl
  | r :: rs => by
    rw [List.map_cons]
    show (ltLoc l (encR r) && ltLocs l (rs.map encR)) = true
    rw [lt_rows rs]; rfl
section
variable {Γ : Ctx} {c : Nat} {K : Cl}
theorem LC.fld6 (L : LC Γ c K) : isFld Γ c 6 = true := by unfold isFld; rw [L.at_]; show K.fields.contains 6 = true; rw [L.flds]; rfl
theorem LC.fld7 (L : LC Γ c K) : isFld Γ c 7 = true := by unfold isFld; rw [L.at_]; show K.fields.contains 7 = true; rw [L.flds]; rfl
theorem fldV_loc {f : Nm} {d : D} {l : Nat} {env : Env} {st : Store} {fs : List (Nm × D)} (h : st[l]? = some (.ins c fs)) (h1 : ltLoc l d = true) (h2 : fs.length < 100) (h3 : isFld Γ c f = true) : fldV Γ f d (.loc l) env st = .nx env (st.set l (.ins c (putF f d fs))) := by
  show (match st[l]? with
      | some (.ins c fs) => if ltLoc l d = true ∧ fs.length < 100 ∧ isFld Γ c f = true then R.nx env (st.set l (.ins c (putF f d fs))) else .bad
      | _ => .bad) = _
  rw [h]
  exact if_pos ⟨h1, h2, h3⟩
def SpInit (c : Nat) (f : Fd) : Prop := ∀ p rs l st, 1 ≤ p → p ≤ 9 → RowsOk rs → st[l]? = some (.ins c []) → f [.loc l, .int p, encL rs] st = .ok .non (st.set l (.ins c [(6, .int p), (7, encL rs)]))
theorem sp_init {f g : Fd} (L : LC Γ c K) (hf : SpChkPts f) (hg : SpChkRows g) : SpInit c (runF 3 3 (m_List_init Γ f g)) := by
  intro p rs l st h1 h2 h hl
  have hlt := (List.getElem?_eq_some_iff.mp hl).1
  apply OP_eq
  refine OP_run rfl ?_
  delta m_List_init encL
  simp! only [hf p _ h1 h2, hg rs _ h]
  simp! only [fldV_loc hl (rfl : ltLoc l (.int p) = true) (by decide) L.fld6]
  simp! only [fldV_loc (set_at hl) (show ltLoc l (.tup (rs.map encR)) = true from lt_rows rs) (show (putF 6 (D.int p) []).length < 100 by simp [putF]) L.fld7, List.set_set]
  rfl
theorem mk_list (L : LC Γ c K) (hi : SpInit c (Γ.call K.init)) {p : Int} {rs : List Row} {st : Store} (h1 : 1 ≤ p) (h2 : p ≤ 9) (h : RowsOk rs) : mkObj Γ c [.int p, encL rs] st = .ok (objL c p rs) st := by
  unfold mkObj
  rw [L.at_]
  have e := hi p rs st.length (st ++ [.ins c []]) h1 h2 h (by simp)
  simp only
  rw [e]
  have e2 : (st ++ [Obj.ins c []]).set st.length (Obj.ins c [(6, .int p), (7, encL rs)]) = st ++ [Obj.ins c [(6, .int p), (7, encL rs)]] := by simp
  rw [e2, L.frz]
  simp [L.flds, objL]
theorem at_fld {f : Nm} {x d : D} {st : Store} (h : fldv Γ st f x = some d) : atV Γ f x st = .ok d st := by
  unfold atV; rw [h]
theorem LC.stake (L : LC Γ c K) {p : Int} {rs : List Row} {st : Store} : atV Γ 6 (objL c p rs) st = .ok (.int p) st := at_fld (by
  show (Γ.cls c).bind (fun k => (k.fields.zip [.int p, encL rs]).lookup 6) = _
  rw [L.at_]
  show (K.fields.zip _).lookup 6 = _
  rw [L.flds]; rfl)
theorem LC.lines (L : LC Γ c K) {p : Int} {rs : List Row} {st : Store} : atV Γ 7 (objL c p rs) st = .ok (encL rs) st := at_fld (by
  show (Γ.cls c).bind (fun k => (k.fields.zip [.int p, encL rs]).lookup 7) = _
  rw [L.at_]
  show (K.fields.zip _).lookup 7 = _
  rw [L.flds]; rfl)
theorem hush_ok {α : Type} {a : α} {st : Store} : (O.ok a st).hush = .ok a st := rfl
theorem LC.prop (L : LC Γ c K) {f : Nm} {g : Nat} {p : Int} {rs : List Row} {st : Store} {d : D} (hf : f ≠ 6 ∧ f ≠ 7) (hp : K.props.lookup f = some g) (hg : Γ.call g [objL c p rs] st = .ok d st) : atV Γ f (objL c p rs) st = .ok d st := by
  unfold atV
  have e : fldv Γ st f (objL c p rs) = none := by
    show (Γ.cls c).bind (fun k => (k.fields.zip [.int p, encL rs]).lookup f) = _
    rw [L.at_]
    show (K.fields.zip _).lookup f = _
    rw [L.flds]
    have e1 : (f == 6) = false := by simpa using hf.1
    have e2 : (f == 7) = false := by simpa using hf.2
    simp [List.lookup, e1, e2]
  rw [e]
  show (match (some (c, [D.int p, encL rs])).bind fun q => (Γ.cls q.1).bind fun k => k.props.lookup f with
    | some g => (Γ.call g [objL c p rs] st).hush
    | none => .bad) = _
  have e2 : ((some (c, [D.int p, encL rs])).bind fun q => (Γ.cls q.1).bind fun k => k.props.lookup f) = some g := by
    show (Γ.cls c).bind _ = _
    rw [L.at_]; exact hp
  rw [e2]
  show (Γ.call g [objL c p rs] st).hush = _
  rw [hg]; rfl
theorem LC.dun (L : LC Γ c K) {m : Nm} {g : Nat} {p : Int} {rs : List Row} {st : Store} {d : D} (hm : K.meths.lookup m = some g) (hg : Γ.call g [objL c p rs] st = .ok d st)
    (ok : (∃ i, d = .int i ∧ m = n_len ∧ 0 ≤ i ∧ i ≤ 1000) ∨ (∃ s, d = .str s ∧ m = n_str) ∨ ∃ b, d = .bl b ∧ m = n_bool) : dunV Γ c m (objL c p rs) st = .ok d st := by
  unfold dunV
  show (if c = c then (match (Γ.cls c).bind fun k => k.meths.lookup m with
    | some f => (Γ.call f [objL c p rs] st).hush.bind fun r st => _
    | none => .bad) else .bad) = _
  rw [if_pos rfl]
  have e2 : ((Γ.cls c).bind fun k => k.meths.lookup m) = some g := by rw [L.at_]; exact hm
  rw [e2]
  simp only
  rw [hg]
  rcases ok with ⟨i, rfl, rfl, h1, h2⟩ | ⟨s, rfl, rfl⟩ | ⟨b, rfl, rfl⟩
  · show (if n_len = n_len ∧ 0 ≤ i ∧ i ≤ 1000 then O.ok (D.int i) st else .bad) = _
    rw [if_pos ⟨rfl, h1, h2⟩]
  · rfl
  · rfl
end
end G
namespace G
/-! ### what a list shows -/
section
variable {Γ : Ctx} {c : Nat} {K : Cl} {p : Int} {rs : List Row} {st : Store}
def kindsD (rs : List Row) : D := .tup (rs.map fun r => .str r.nm)
def playersI (rs : List Row) : Int := (rs.map (·.num)).sum
theorem idx_row0 {r : Row} : op2 .idx st (encR r) (.int 0) = some (.str r.nm) := rfl
theorem idx_row1 {r : Row} : op2 .idx st (encR r) (.int 1) = some (.int r.num) := rfl
theorem idx_row2 {r : Row} : op2 .idx st (encR r) (.int 2) = some (.int r.sc) := rfl
theorem sp_points (L : LC Γ c K) : runF 1 1 (m_List_points Γ) [objL c p rs] st = .ok (.int p) st := by
  apply OP_eq
  refine OP_run rfl ?_
  delta m_List_points
  simp! only [L.stake]
theorem sp_rows (L : LC Γ c K) : runF 1 1 (m_List_rows Γ) [objL c p rs] st = .ok (encL rs) st := by
  apply OP_eq
  refine OP_run rfl ?_
  delta m_List_rows
  simp! only [L.lines]
theorem si_encL : seqI (encL rs) = some (rs.map encR) := rfl
theorem sp_kinds (L : LC Γ c K) (h : rs.length ≤ 6) : runF 1 2 (m_List_kinds Γ) [objL c p rs] st = .ok (kindsD rs) st := by
  apply OP_eq
  refine OP_run rfl ?_
  delta m_List_kinds
  simp! only [L.lines, si_encL]
  rw [comp_mapL (g := fun r => .str r.nm) rs (lim_ge (by omega)) fun r hr => ?_]
  · simp! only []; rfl
  · apply OP_eq
    simp! only [turnV_eq, idx_row0]
theorem sp_players (L : LC Γ c K) (h : rs.length ≤ 6) : runF 1 2 (m_List_players Γ) [objL c p rs] st = .ok (.int (playersI rs)) st := by
  apply OP_eq
  refine OP_run rfl ?_
  delta m_List_players
  simp! only [L.lines, si_encL]
  rw [comp_mapL (g := fun r => .int r.num) rs (lim_ge (by omega)) fun r hr => ?_]
  · simp! only [bi, lv_lst, ints_map]; rfl
  · apply OP_eq
    simp! only [turnV_eq, idx_row1]
theorem len_encL : bi .len st [encL rs] = some (.int rs.length) := by
  show some (D.int ((rs.map encR).length : Int)) = _
  rw [List.length_map]
theorem sp_len (L : LC Γ c K) : runF 1 1 (m_List_len Γ) [objL c p rs] st = .ok (.int rs.length) st := by
  apply OP_eq
  refine OP_run rfl ?_
  delta m_List_len
  simp! only [L.lines, len_encL]
theorem sp_bool : runF 1 1 (m_List_bool Γ) [objL c p rs] st = .ok (.bl true) st := by
  apply OP_eq
  refine OP_run rfl ?_
  delta m_List_bool
  simp! only []
theorem lenSum_le {b : Nat} : ∀ {ls : List (List Nat)}, (∀ l ∈ ls, l.length ≤ b) → lenSum ls ≤ ls.length * b
  | [], _ => by simp [lenSum]
  | x :: r, h => by
    have ih := lenSum_le (ls := r) fun l hl => h l (by simp [hl])
    have hx := h x (by simp)
    show x.length + lenSum r ≤ (r.length + 1) * b
    rw [Nat.add_mul]; omega
theorem join_list (h1 : 1 ≤ p) (h2 : p ≤ 9) (h : RowsOk rs) : mt .join st (.str [10]) [.lst (.str (headText p) :: rs.map fun r => .str (rowText r))] = some (.str (listText p rs)) := by
  have hs : dStrs (D.str (headText p) :: rs.map fun r => .str (rowText r)) = some (headText p :: rs.map rowText) := by
    show (dStrs (rs.map fun r => D.str (rowText r))).map (headText p :: ·) = _
    rw [strs_map]; rfl
  have hl := lenSum_le (b := 90) (ls := headText p :: rs.map rowText) fun l hl => by
    rcases List.mem_cons.mp hl with rfl | hl
    · have := head_len h1 h2; omega
    · obtain ⟨r, hr, rfl⟩ := List.mem_map.mp hl
      exact rowText_len (h.ok r hr)
  have h6 := h.l6
  simp only [List.length_cons, List.length_map] at hl
  show ((dStrs (D.str (headText p) :: rs.map fun r => .str (rowText r))).bind fun ss => if lenSum ss + 1 * ss.length ≤ LIM then some (D.str (joinS [10] ss)) else none) = _
  rw [hs]
  show (if lenSum (headText p :: rs.map rowText) + 1 * (headText p :: rs.map rowText).length ≤ LIM then some (D.str (joinS [10] (headText p :: rs.map rowText))) else none) = _
  rw [if_pos (lim_ge (by simp only [List.length_cons, List.length_map]; omega))]
  rfl
theorem sp_str (L : LC Γ c K) (h1 : 1 ≤ p) (h2 : p ≤ 9) (h : RowsOk rs) : runF 1 5 (m_List_str Γ) [objL c p rs] st = .ok (.str (listText p rs)) st := by
  have h6 := h.l6
  have hh := head_len h1 h2
  apply OP_eq
  refine OP_run rfl ?_
  delta m_List_str
  simp! only [L.lines, si_encL]
  rw [comp_mapL (g := fun r => .str (rowText r)) rs (lim_ge (by omega)) fun r hr => ?_]
  · have e1 : 0 + 7 ≤ LIM := lim_ge (by omega)
    have e2 : 7 + (intStr p).length ≤ LIM := lim_ge (by unfold headText at hh; simp at hh; omega)
    have e3 : p.natAbs < 2 ^ 1900 := small_str (by omega) (by omega)
    have e4 : (rs.map fun r => D.str (rowText r)).length < LIM := by rw [List.length_map]; exact Nat.lt_of_lt_of_le (show rs.length < 7 by omega) (lim_ge (by omega))
    have this : ∀ st, mt .join st (.str [10]) [.lst (D.str (112 :: 111 :: 105 :: 110 :: 116 :: 115 :: 32 :: intStr p) :: rs.map fun r => .str (rowText r))] = some (.str (listText p rs)) := fun st => join_list h1 h2 h
    simp! only [L.stake, e1, e2, e3, e4, this]
  · have hk := h.ok r hr
    have hn := hk.n1
    have hn2 := hk.n2
    have hs := hk.s1
    have hs2 := hk.s2
    have hl := rowText_len hk
    unfold rowText at hl
    simp only [List.length_append, List.length_cons] at hl
    apply OP_eq
    simp! only [turnV_eq, encR]
    have e1 : r.num.natAbs < 2 ^ 1900 := small_str (by omega) (by omega)
    have e2 : r.sc.natAbs < 2 ^ 1900 := small_str (by omega) (by omega)
    simp only [List.length_append, List.length_cons, List.length_nil]
    refine ⟨lim_ge (by omega), lim_ge (by omega), e1, lim_ge (by omega), lim_ge (by omega), e2, lim_ge (by omega), ?_⟩
    simp [rowText]
/-- the law's own text -/
def SpText (f : Fd) : Prop := ∀ p rs st, 1 ≤ p → p ≤ 9 → RowsOk rs → f [.int p, encL rs] st = .ok (.str (listText p rs)) st
theorem sp_text : SpText (runF 2 6 (m_text Γ)) := by
  intro p rs st h1 h2 h
  have h6 := h.l6
  have hh := head_len h1 h2
  have e3 : p.natAbs < 2 ^ 1900 := small_str (by omega) (by omega)
  have hi := intStr_len40 (i := p) (by omega) (by omega)
  apply OP_eq
  refine OP_run rfl ?_
  delta m_text
  simp! only [e3, si_encL]
  refine ⟨lim_ge (by omega), ?_⟩
  refine forL_invL (enc := encR) (fun pre env st' => ∃ a b c, env = [.v (.int p), .v (encL rs), .own (.str (headText p) :: pre.map fun r => .str (rowText r)), a, b, c] ∧ st' = st) ⟨_, _, _, rfl, rfl⟩ ?_ ?_
  · rintro pre r post env st' e ⟨a, b, c, rfl, rfl⟩
    have hr : r ∈ rs := by rw [e]; simp
    have hk := h.ok r hr
    have hn := hk.n1
    have hn2 := hk.n2
    have hs := hk.s1
    have hs2 := hk.s2
    have hl := rowText_len hk
    unfold rowText at hl
    simp only [List.length_append, List.length_cons] at hl
    have hp : pre.length < 6 := by
      have := congrArg List.length e
      simp at this
      omega
    have e1 : r.num.natAbs < 2 ^ 1900 := small_str (by omega) (by omega)
    have e2 : r.sc.natAbs < 2 ^ 1900 := small_str (by omega) (by omega)
    refine ⟨_, by simp! only [encR]; rfl, ?_⟩
    simp! only [e1, e2]
    simp only [List.length_append, List.length_cons, List.length_nil, List.length_map]
    refine ⟨lim_ge (by omega), lim_ge (by omega), lim_ge (by omega), lim_ge (by omega), Nat.lt_of_lt_of_le (show pre.length + 1 < 8 by omega) (lim_ge (by omega)), _, _, _, by simp only [rowText, List.map_append, List.map_cons, List.map_nil, List.append_assoc, List.cons_append, List.nil_append]; exact rfl⟩
  · rintro env st' ⟨a, b, c, rfl, rfl⟩
    have := join_list (st := st') h1 h2 h
    simp! only [this]
end
end G
namespace G
/-! ### drawn numbers, names, rows -/
section
variable [FrC] {Γ : Ctx} {f : Fd}
def SpRange (f : Fd) (cost : Nat) (lo hi : Int) : Prop := ∀ (l n : Nat) (st : Store), Wl l n st → n + cost ≤ 1000000000 → OP (fun r st' => ∃ k : Int, r = .int k ∧ lo ≤ k ∧ k ≤ hi ∧ Wl l (n + cost) st') (f [.loc l] st)
theorem sp_number (hd : SpDip f) : SpRange (runF 1 2 (m_number Γ f)) 3 1 (10 ^ 30) := by
  intro l n st hw hn
  refine OP_run rfl ?_
  delta m_number
  simp! only []
  refine (hd l n 4 st hw (by omega) (by omega) (by omega)).mono ?_
  rintro _ st1 ⟨k, rfl, hk0, hk1, hw1⟩
  simp! only []
  refine ⟨fun h0 => ?_, fun h0 => ⟨fun h1 => ?_, fun h1 => ⟨fun h2 => ?_, fun h2 => ?_⟩⟩⟩
  · refine (hd l _ 4 st1 hw1 (by omega) (by omega) (by omega)).mono ?_
    rintro _ st2 ⟨k2, rfl, h2, h3, hw2⟩
    simp! only []
    exact ⟨_, rfl, by omega, by omega, hw2.up (by omega)⟩
  · refine (hd l _ 1000000 st1 hw1 (by omega) (by omega) (by omega)).mono ?_
    rintro _ st2 ⟨k2, rfl, h2, h3, hw2⟩
    simp! only []
    exact ⟨_, rfl, by omega, by omega, hw2.up (by omega)⟩
  · refine (hd l _ 3 st1 hw1 (by omega) (by omega) (by omega)).mono ?_
    rintro _ st2 ⟨k2, rfl, h2, h3, hw2⟩
    simp! only []
    exact ⟨_, rfl, by omega, by omega, hw2.up (by omega)⟩
  · refine (hd l _ 1000000000000000 st1 hw1 (by omega) (by omega) (by omega)).mono ?_
    rintro _ st2 ⟨k2, rfl, h2, h3, hw2⟩
    simp! only []
    refine ⟨okMul_of (by omega) (by omega) (by omega) (by omega), ?_⟩
    refine (hd l _ 1000000000000000 st2 hw2 (by omega) (by omega) (by omega)).mono ?_
    rintro _ st3 ⟨k3, rfl, h4, h5, hw3⟩
    simp! only []
    exact ⟨_, rfl, by omega, by omega, hw3.up (by omega)⟩
theorem sp_end (hd : SpDip f) : SpRange (runF 1 2 (m_end Γ f)) 3 0 (10 ^ 33) := by
  intro l n st hw hn
  refine OP_run rfl ?_
  delta m_end
  simp! only []
  refine (hd l n 4 st hw (by omega) (by omega) (by omega)).mono ?_
  rintro _ st1 ⟨k, rfl, hk0, hk1, hw1⟩
  simp! only []
  refine ⟨fun h0 => ?_, fun h0 => ⟨fun h1 => ?_, fun h1 => ⟨fun h2 => ?_, fun h2 => ?_⟩⟩⟩
  · refine (hd l _ 5 st1 hw1 (by omega) (by omega) (by omega)).mono ?_
    rintro _ st2 ⟨k2, rfl, h2, h3, hw2⟩
    exact ⟨_, rfl, by omega, by omega, hw2.up (by omega)⟩
  · refine (hd l _ 1000000000 st1 hw1 (by omega) (by omega) (by omega)).mono ?_
    rintro _ st2 ⟨k2, rfl, h2, h3, hw2⟩
    exact ⟨_, rfl, by omega, by omega, hw2.up (by omega)⟩
  · refine (hd l _ 3 st1 hw1 (by omega) (by omega) (by omega)).mono ?_
    rintro _ st2 ⟨k2, rfl, h2, h3, hw2⟩
    simp! only []
    exact ⟨_, rfl, by omega, by omega, hw2.up (by omega)⟩
  · refine (hd l _ 100000000000000000 st1 hw1 (by omega) (by omega) (by omega)).mono ?_
    rintro _ st2 ⟨k2, rfl, h2, h3, hw2⟩
    simp! only []
    refine ⟨okMul_of (by omega) (by omega) (by omega) (by omega), ?_⟩
    refine (hd l _ 10000000000000000 st2 hw2 (by omega) (by omega) (by omega)).mono ?_
    rintro _ st3 ⟨k3, rfl, h4, h5, hw3⟩
    simp! only []
    exact ⟨_, rfl, by omega, by omega, hw3.up (by omega)⟩
/-- so many different names -/
def SpNames (f : Fd) : Prop := ∀ (l n : Nat) (m : Int) (st : Store), Wl l n st → n + 200 ≤ 1000000000 → 1 ≤ m → m ≤ 8 → OP (fun r st' => ∃ ns : List (List Nat), r = .lst (ns.map .str) ∧ (ns.length : Int) = m ∧ (∀ s ∈ ns, isNameS s = true) ∧ ns.Nodup ∧ Wl l (n + 200) st') (f [.loc l, .int m] st)
def sg36 : List Nat := [97, 98, 99, 100, 101, 102, 103, 104, 105, 106, 107, 108, 109, 110, 111, 112, 113, 114, 115, 116, 117, 118, 119, 120, 121, 122, 48, 49, 50, 51, 52, 53, 54, 55, 56, 57]
def wordsS : List (List Nat) := [[112, 111, 105, 110, 116, 115], [116, 97, 107, 101, 115], [110, 101, 118, 101, 114], [97, 98, 111, 118, 101], [97, 108, 108], [97], [98], [110, 111, 110, 101]]
theorem sg_let : ∀ k, k < 26 → letS.contains (sg36.getD k 0) = true := by decide
theorem sg_sign : ∀ k, k < 36 → isSign (sg36.getD k 0) = true := by decide
theorem words_ok : ∀ w ∈ wordsS, isNameS w = true := by decide
theorem sg_at {k : Int} (h : 0 ≤ k) (h2 : k < 36) : atI sg36 k = some (sg36.getD k.toNat 0) := by
  obtain ⟨n, rfl⟩ := Int.eq_ofNat_of_zero_le h
  exact atI_getD (by show n < 36; omega)
theorem let_sign {c : Nat} (h : letS.contains c = true) : isSign c = true := by unfold isSign; rw [h]; rfl
theorem mk_name {c : Nat} {r : List Nat} (h : letS.contains c = true) (h2 : r.all isSign = true) (h3 : r.length ≤ 7) : isNameS (c :: r) = true := by
  unfold isNameS
  have : decide (1 ≤ (c :: r).length ∧ (c :: r).length ≤ 8) = true := decide_eq_true ⟨by simp, by simp; omega⟩
  rw [this]
  simp [List.all_cons, h2, let_sign h]
  simpa using h
theorem z_name {k : Nat} (h : k < 10) : isNameS (122 :: natStr k) = true := by
  rw [natStr_rec, if_pos h]
  have : k = 0 ∨ k = 1 ∨ k = 2 ∨ k = 3 ∨ k = 4 ∨ k = 5 ∨ k = 6 ∨ k = 7 ∨ k = 8 ∨ k = 9 := by omega
  rcases this with rfl | rfl | rfl | rfl | rfl | rfl | rfl | rfl | rfl | rfl <;> decide
theorem joins_nil : ∀ cs : List Nat, joinS [] (cs.map fun c => [c]) = cs
  | [] => rfl
  | [c] => rfl
  | c :: d :: r => by
    show (([c] ++ []) ++ joinS [] ((d :: r).map fun c => [c])) = _
    rw [joins_nil (d :: r)]; rfl
theorem lenSum_one : ∀ cs : List Nat, lenSum (cs.map fun c => [c]) = cs.length
  | [] => rfl
  | c :: r => by show 1 + lenSum (r.map fun c => [c]) = _; rw [lenSum_one r, List.length_cons]; omega
theorem join_signs {st : Store} {cs : List Nat} (h : cs.length ≤ 1000) : mt .join st (.str []) [.lst (cs.map fun c => .str [c])] = some (.str cs) := by
  show ((dStrs (cs.map fun c => D.str [c])).bind fun ss => if lenSum ss + 0 * ss.length ≤ LIM then some (D.str (joinS [] ss)) else none) = _
  rw [strs_map (fun c => [c]) cs]
  show (if lenSum (cs.map fun c => [c]) + 0 * _ ≤ LIM then some (D.str (joinS [] (cs.map fun c => [c]))) else none) = _
  rw [lenSum_one, joins_nil, if_pos (lim_ge (by omega))]
def zsL (m : Nat) : List (List Nat) := (List.range m).map fun k => 122 :: natStr k
theorem zcomp {st : Store} {m : Nat} {a0 a1 a2 a3 a4 a5 a6 a7 a8 a9 a10 : Sl} (h : m ≤ 8) : compL (turnV [9] (opE .add (kE (.str [122])) (biE .str [vE 9])) (.nm 9) [] [a0, a1, a2, a3, a4, a5, a6, a7, a8, a9, a10]) ((List.range m).map fun (k : Nat) => D.int (k : Int)) [] st = .ok ((zsL m).map D.str) st := by
  rw [comp_mapL (g := fun k => D.str (122 :: natStr k)) (List.range m) (lim_ge (by rw [List.length_range]; omega)) fun k hk => ?_]
  · unfold zsL; rw [List.map_map]; rfl
  · have hk : k < m := by simpa using hk
    have e1 : (k : Int).natAbs < 2 ^ 1900 := small_str (by omega) (by omega)
    apply OP_eq
    simp! only [turnV_eq, e1, intStr_nat]
    have := natStr_len' 39 k (by omega)
    exact lim_ge (by omega)
theorem fcomp {st : Store} {ns l : List (List Nat)} {a0 a1 a2 a3 a4 a6 a7 a8 a9 a10 : Sl} (h : l.length ≤ 1000) : compL (turnV [10] (vE 10) (.nm 10) [opE .nmem (vE 10) (pkE 5)] [a0, a1, a2, a3, a4, .own (ns.map D.str), a6, a7, a8, a9, a10]) (l.map D.str) [] st = .ok ((l.filter fun w => !ns.contains w).map D.str) st := by
  refine comp_filterL l (lim_ge (by omega)) fun w hw => ?_
  have e : op2 .nmem st (.str w) (.lst (ns.map D.str)) = some (.bl (!ns.contains w)) := by
    have := nmem_strs (st := st) (g := fun x => x) (l := ns) (u := w)
    rw [this, List.any_beq']
  apply OP_eq
  simp! only [turnV_eq, e]
  by_cases hc : ns.contains w = true
  · simp! only [hc]
  · have hc : ns.contains w = false := by simpa using hc
    simp! only [hc]
theorem natStr_inj {a b : Nat} (h : natStr a = natStr b) : a = b := by
  have := congrArg digVal h
  rwa [natStr_val, natStr_val] at this
theorem zs_nodup (m : Nat) : (zsL m).Nodup := by
  unfold zsL
  refine List.Pairwise.map _ (fun a b hab => ?_) List.nodup_range
  intro e
  exact hab (natStr_inj (by simpa using e))
theorem fresh_pick {ns : List (List Nat)} {w : List Nat} {m : Nat} (hw : isNameS w = true) (hl : ns.length < m) (hm : m ≤ 8) :
    ∃ x, atI (((w :: zsL m).filter fun v => !ns.contains v).map D.str) 0 = some (.str x) ∧ isNameS x = true ∧ x ∉ ns := by
  have hex : ∃ z ∈ zsL m, z ∉ ns := by
    apply Classical.byContradiction
    intro hn
    have := nodup_le (zs_nodup m) (m := ns) fun x hx => by
      apply Classical.byContradiction
      intro hx2
      exact hn ⟨x, hx, hx2⟩
    unfold zsL at this
    simp at this
    omega
  obtain ⟨z, hz, hz2⟩ := hex
  have hin : z ∈ (w :: zsL m).filter fun v => !ns.contains v := by
    rw [List.mem_filter]
    exact ⟨by simp [hz], by simpa using hz2⟩
  cases e : (w :: zsL m).filter fun v => !ns.contains v with
  | nil => rw [e] at hin; cases hin
  | cons x r =>
    have hx : x ∈ (w :: zsL m).filter fun v => !ns.contains v := by rw [e]; simp
    rw [List.mem_filter] at hx
    refine ⟨x, by rw [List.map_cons, atI_zero], ?_, by simpa using hx.2⟩
    rcases List.mem_cons.mp hx.1 with rfl | hx1
    · exact hw
    · unfold zsL at hx1
      obtain ⟨k, hk, rfl⟩ := List.mem_map.mp hx1
      have : k < m := by simpa using hk
      exact z_name (by omega)
theorem sp_names (hd : SpDip f) : SpNames (runF 2 11 (m_names Γ f)) := by
  intro l n m st hw hn h1 h2
  refine OP_run rfl ?_
  delta m_names
  simp! only []
  refine ⟨⟨by unfold LIM; omega, by unfold LIM; omega⟩, ?_⟩
  rw [range0]
  refine forL_invL (fun (pre : List Nat) env st' => ∃ (ns : List (List Nat)) (s3 s6 s7 s8 s9 s10 : Sl), env = [.v (.loc l), .v (.int m), .v (.lst (wordsS.map .str)), s3, .v (.str sg36), .own (ns.map .str), s6, s7, s8, s9, s10] ∧ ns.length = pre.length ∧ (∀ s ∈ ns, isNameS s = true) ∧ ns.Nodup ∧ Wl l (n + 20 * pre.length) st') ⟨[], _, _, _, _, _, _, rfl, rfl, by simp, List.nodup_nil, hw⟩ ?_ ?_
  · rintro pre x post env st1 e ⟨ns, s3, s6, s7, s8, s9, s10, rfl, hl, hok, hnd, hw1⟩
    obtain ⟨rfl, hx⟩ := range_at e
    have hp : pre.length < 8 := by omega
    refine ⟨_, by simp! only []; rfl, ?_⟩
    simp! only []
    refine (hd l _ 4 st1 hw1 (by omega) (by omega) (by omega)).mono ?_
    rintro _ st2 ⟨k, rfl, hk0, hk1, hw2⟩
    simp! only []
    -- the size
    have size : ∀ (Q : D → Store → Prop), (∀ (z : Int) (st3 : Store), 0 ≤ z → z < 8 → Wl l (n + 20 * pre.length + 2) st3 → Q (.int z) st3) → (k = 0 → OP Q (f [.loc l, .int 8] st2)) ∧ (¬ k = 0 → OP Q (f [.loc l, .int 2] st2)) := by
      intro Q h
      refine ⟨fun _ => ?_, fun _ => ?_⟩
      · refine (hd l _ 8 st2 hw2 (by omega) (by omega) (by omega)).mono ?_
        rintro _ st3 ⟨z, rfl, hz0, hz1, hw3⟩
        exact h z st3 hz0 (by omega) (hw3.up (by omega))
      · refine (hd l _ 2 st2 hw2 (by omega) (by omega) (by omega)).mono ?_
        rintro _ st3 ⟨z, rfl, hz0, hz1, hw3⟩
        exact h z st3 hz0 (by omega) (hw3.up (by omega))
    refine size _ fun z st3 hz0 hz1 hw3 => ?_
    simp! only []
    refine (hd l _ 26 st3 hw3 (by omega) (by omega) (by omega)).mono ?_
    rintro _ st4 ⟨c, rfl, hc0, hc1, hw4⟩
    have hsg := sg_at hc0 (by omega : c < 36)
    have hlet := sg_let c.toNat (by omega)
    simp! only [hsg, range0]
    refine ⟨⟨by unfold LIM; omega, by unfold LIM; omega⟩, ?_⟩
    refine comp_invL (fun (pr : List Nat) acc st' => ∃ cs : List Nat, acc = cs.map (fun c => D.str [c]) ∧ cs.length = pr.length ∧ cs.all isSign = true ∧ Wl l (n + 20 * pre.length + 3 + pr.length) st') (lim_ge (by rw [List.length_range]; omega)) ⟨[], rfl, rfl, rfl, hw4⟩ ?_ ?_
    · rintro pr y po acc st5 e5 ⟨cs, rfl, hcl, hcs, hw5⟩
      obtain ⟨rfl, hy⟩ := range_at e5
      simp! only [turnV_eq]
      refine (hd l _ 36 st5 hw5 (by omega) (by omega) (by omega)).mono ?_
      rintro _ st6 ⟨c2, rfl, hc20, hc21, hw6⟩
      simp! only [sg_at hc20 hc21]
      have hsn := sg_sign c2.toNat (by omega)
      exact ⟨cs ++ [sg36.getD c2.toNat 0], by simp, by simp [hcl], by rw [List.all_append, hcs, List.all_cons, hsn]; rfl, hw6.up (by simp; omega)⟩
    rintro acc st5 ⟨cs, rfl, hcl, hcs, hw5⟩
    rw [List.length_range] at hcl hw5
    have hname : isNameS (sg36.getD c.toNat 0 :: cs) = true := mk_name hlet hcs (by omega)
    simp! only [join_signs (show cs.length ≤ 1000 by omega)]
    refine ⟨lim_ge (by omega), ?_⟩
    refine (hd l _ 5 st5 hw5 (by omega) (by omega) (by omega)).mono ?_
    rintro _ st6 ⟨k5, rfl, hk50, hk51, hw6⟩
    have hm8 : m.toNat ≤ 8 := by omega
    have hz : (zsL m.toNat).length = m.toNat := by unfold zsL; simp
    have hnl : ns.length < LIM := Nat.lt_of_lt_of_le (show ns.length < 9 by omega) (lim_ge (by omega))
    have rng : -(LIM : Int) ≤ m ∧ m ≤ LIM := ⟨by unfold LIM; omega, by unfold LIM; omega⟩
    have join : ∀ w : List Nat, D.str w :: (zsL m.toNat).map D.str = (w :: zsL m.toNat).map D.str := fun w => rfl
    simp! only []
    refine ⟨fun _ => ?_, fun _ => ?_⟩
    · refine (hd l _ 8 st6 hw6 (by omega) (by omega) (by omega)).mono ?_
      rintro _ st7 ⟨k8, rfl, hk80, hk81, hw7⟩
      have hww : atI (wordsS.map D.str) k8 = some (.str (wordsS.getD k8.toNat [])) := by
        obtain ⟨q, rfl⟩ := Int.eq_ofNat_of_zero_le hk80
        rw [atI_nat, List.getElem?_map]
        have : q < wordsS.length := by show q < 8; omega
        simp [List.getElem?_eq_getElem this]
      have hwn : isNameS (wordsS.getD k8.toNat []) = true := by
        refine words_ok _ ?_
        have : k8.toNat < wordsS.length := by show k8.toNat < 8; omega
        rw [List.getD_eq_getElem?_getD, List.getElem?_eq_getElem this]
        simp
      obtain ⟨x, hx1, hx2, hx3⟩ := fresh_pick (ns := ns) hwn (show ns.length < m.toNat by omega) hm8
      simp! only [idx_lst, hww, rng, range0, zcomp hm8, List.length_map, hz]
      refine ⟨lim_ge (by omega), ?_⟩
      rw [join, fcomp (by simp [hz]; omega)]
      simp! only [hx1, hnl]
      exact ⟨ns ++ [x], _, _, _, _, _, _, by simp; exact ⟨rfl, rfl, rfl, rfl, rfl, rfl⟩, by simp [hl], fun s hs => by
        rcases List.mem_append.mp hs with hs | hs
        · exact hok s hs
        · simp at hs; rw [hs]; exact hx2, List.nodup_append.mpr ⟨hnd, by simp, fun a ha b hb => by simp at hb; rw [hb]; exact fun e => hx3 (by rw [← e]; exact ha)⟩, hw7.up (by simp; omega)⟩
    · obtain ⟨x, hx1, hx2, hx3⟩ := fresh_pick (ns := ns) hname (show ns.length < m.toNat by omega) hm8
      simp! only [rng, range0, zcomp hm8, List.length_map, hz]
      refine ⟨lim_ge (by omega), ?_⟩
      rw [join, fcomp (by simp [hz]; omega)]
      simp! only [hx1, hnl]
      exact ⟨ns ++ [x], _, _, _, _, _, _, by simp; exact ⟨rfl, rfl, rfl, rfl, rfl, rfl⟩, by simp [hl], fun s hs => by
        rcases List.mem_append.mp hs with hs | hs
        · exact hok s hs
        · simp at hs; rw [hs]; exact hx2, List.nodup_append.mpr ⟨hnd, by simp, fun a ha b hb => by simp at hb; rw [hb]; exact fun e => hx3 (by rw [← e]; exact ha)⟩, hw6.up (by simp; omega)⟩
  · rintro env st1 ⟨ns, s3, s6, s7, s8, s9, s10, rfl, hl, hok, hnd, hw1⟩
    simp! only []
    exact ⟨ns, rfl, by rw [hl, List.length_range]; omega, hok, hnd, hw1.up (by rw [List.length_range]; omega)⟩
end
end G
namespace G
/-! ### repr of plain data: no longer than so much -/
structure RG (b : Nat) (s : PySem.Str) : Prop where
  len : s.cps.toList.length ≤ b
  ok : s.cps.toList.all okCode = true
theorem RG.mono {a b : Nat} {s : PySem.Str} (h : RG a s) (hab : a ≤ b) : RG b s := ⟨Nat.le_trans h.len hab, h.ok⟩
theorem RG.app {a b : Nat} {s t : PySem.Str} (h : RG a s) (k : RG b t) : RG (a + b) (s ++ t) := by
  have e : (s ++ t).cps.toList = s.cps.toList ++ t.cps.toList := by
    show (s.cps ++ t.cps).toList = _
    simp
  refine ⟨by rw [e, List.length_append]; have := h.len; have := k.len; omega, by rw [e, List.all_append, h.ok, k.ok]; rfl⟩
def rgB (b : Nat) (s : PySem.Str) : Bool := decide (s.cps.toList.length ≤ b) && s.cps.toList.all okCode
theorem RG.of {b : Nat} {s : PySem.Str} (h : rgB b s = true) : RG b s := by
  unfold rgB at h
  simp only [Bool.and_eq_true, decide_eq_true_eq] at h
  exact ⟨h.1, h.2⟩
theorem char_ok (c : Char) : okCode c.toNat = true := by
  unfold okCode
  simp only [decide_eq_true_eq]
  rcases c.valid with h | h
  · show c.val.toNat < _
    omega
  · exact h.2
theorem reprChar_ok {q c : Nat} (hc : okCode c = true) : (PySem.Builtin.Str.reprChar q c).all okCode = true := by
  have hx : ∀ (w : Nat), ((List.replicate (w - ((Nat.toDigits 16 c).map Char.toNat).length) 48 ++ (Nat.toDigits 16 c).map Char.toNat)).all okCode = true := fun w => by
    rw [List.all_append, List.all_eq_true.mpr (fun x hx => by rw [List.eq_of_mem_replicate hx]; rfl), List.all_map]
    rw [Bool.true_and, List.all_eq_true]
    exact fun x _ => char_ok x
  unfold PySem.Builtin.Str.reprChar
  simp only
  split
  · simp [hc, okCode]
    simpa [okCode] using hc
  split
  · rfl
  split
  · rfl
  split
  · rfl
  split
  · simp [hc]
  split
  · rw [List.all_append, hx]; rfl
  split
  · rw [List.all_append, hx]; rfl
  · rw [List.all_append, hx]; rfl
theorem okCode_lt {c : Nat} (h : okCode c = true) : c < 16 ^ 8 := by
  unfold okCode at h
  have : c < 1114112 := by simpa using h
  omega
theorem rg_text {x : List Nat} (hx : x.all okCode = true) : RG (10 * x.length + 2) (PySem.reprText ⟨x.toArray⟩) := by
  have hq : ∀ q : Nat, okCode q = true → ∀ (l : List Nat) (acc : Array Nat), l.all okCode = true → acc.toList.all okCode = true →
      (l.foldl (fun out c => out ++ (PySem.Builtin.Str.reprChar q c).toArray) acc).toList.length ≤ acc.size + 10 * l.length ∧ (l.foldl (fun out c => out ++ (PySem.Builtin.Str.reprChar q c).toArray) acc).toList.all okCode = true := by
    intro q hqo l
    induction l with
    | nil => intro acc _ h; exact ⟨by simp, h⟩
    | cons c r ih =>
      intro acc hl ha
      rw [List.all_cons, Bool.and_eq_true] at hl
      have h1 := PySem.StrLaws.reprChar_len q c (okCode_lt hl.1)
      obtain ⟨i1, i2⟩ := ih (acc ++ (PySem.Builtin.Str.reprChar q c).toArray) hl.2 (by
        rw [Array.toList_append, List.all_append, ha]
        simpa using reprChar_ok hl.1)
      rw [List.foldl_cons]
      refine ⟨?_, i2⟩
      simp only [Array.size_append, List.size_toArray] at i1
      rw [List.length_cons]
      omega
  have hqq : okCode (PySem.reprQuote ⟨x.toArray⟩) = true := by
    unfold PySem.reprQuote
    split <;> rfl
  obtain ⟨h1, h2⟩ := hq _ hqq x #[PySem.reprQuote ⟨x.toArray⟩] hx (by simp [hqq])
  unfold PySem.reprText
  rw [← Array.foldl_toList] at *
  refine ⟨?_, ?_⟩
  · show (Array.push _ _).toList.length ≤ _
    rw [Array.toList_push, List.length_append]
    simp only [List.size_toArray, List.length_cons, List.length_nil] at h1 ⊢
    omega
  · show (Array.push _ _).toList.all okCode = true
    rw [Array.toList_push, List.all_append, h2]
    simp [hqq]
/-- the pieces, one behind another -/
def rgSum : List PySem.Str → Nat → Prop
  | [], b => True
  | s :: r, b => RG b s ∧ rgSum r b
theorem rg_from {b : Nat} : ∀ (ts : List PySem.Str) (k : Nat) (acc : PySem.Str) (a : Nat), RG a acc → (∀ t ∈ ts, RG b t) → RG (a + ts.length * (b + 2)) (PySem.textFrom k acc ts)
  | [], k, acc, a, h, _ => by
    show RG (a + 0 * (b + 2)) acc
    exact h.mono (by omega)
  | t :: r, k, acc, a, h, ht => by
    have h2 : RG 2 (if k > 0 then ", " else "" : String) := by
      split
      · exact RG.of (by decide +kernel)
      · exact RG.of (by decide +kernel)
    have := rg_from r (k + 1) _ _ ((h.app h2).app (ht t (by simp))) fun t ht' => ht t (by simp [ht'])
    refine this.mono ?_
    rw [List.length_cons, Nat.add_mul]
    omega
theorem rg_list {b : Nat} {ts : List PySem.Str} (h : ∀ t ∈ ts, RG b t) : RG (2 + ts.length * (b + 2)) (PySem.listText ts) := by
  have h1 : RG 1 ("[" : PySem.Str) := RG.of (by decide +kernel)
  have h2 : RG 1 ("]" : PySem.Str) := RG.of (by decide +kernel)
  exact ((rg_from ts 0 _ 1 h1 h).app h2).mono (by omega)
theorem rg_join {b : Nat} : ∀ {ts : List PySem.Str}, (∀ t ∈ ts, RG b t) → RG (ts.length * (b + 2)) (PySem.Str.join ", " ts)
  | [], _ => ⟨by show 0 ≤ _; omega, rfl⟩
  | [x], h => (h x (by simp)).mono (by simp)
  | x :: y :: r, h => by
    have ih := rg_join (ts := y :: r) fun t ht => h t (by simp [ht])
    have h2 : RG 2 (", " : PySem.Str) := RG.of (by decide +kernel)
    refine (((h x (by simp)).app h2).app ih).mono ?_
    simp only [List.length_cons]
    rw [Nat.add_mul (r.length + 1) 1]
    omega
theorem rg_tup {b : Nat} {ts : List PySem.Str} (h : ∀ t ∈ ts, RG b t) : RG (3 + ts.length * (b + 2)) (PySem.tupleText ts) := by
  have h1 : RG 1 ("(" : PySem.Str) := RG.of (by decide +kernel)
  have h2 : RG 2 (if ts.length == 1 then ",)" else ")" : String) := by
    split
    · exact RG.of (by decide +kernel)
    · exact RG.of (by decide +kernel)
  exact ((h1.app (rg_join h)).app h2).mono (by omega)
theorem intStr_eq2 (i : Int) : (PySem.Str.ofString (toString i)) = ⟨(intStr i).toArray⟩ := by
  rw [PySem.Str.ofString_eq_toList]
  congr 2
  cases i with
  | ofNat n => show (Nat.repr n).toList.map Char.toNat = _; simp [Nat.repr, intStr, natStr]
  | negSucc n => show ("-" ++ Nat.repr (n + 1)).toList.map Char.toNat = _; simp [Nat.repr, intStr, natStr]
theorem dig_ok {c : Nat} (h : isDig c = true) : okCode c = true := by
  unfold isDig at h
  unfold okCode
  simp only [Bool.and_eq_true, decide_eq_true_eq] at h ⊢
  omega
theorem rg_int {i : Int} (h : -(10 ^ 50) ≤ i) (h2 : i ≤ 10 ^ 50) : RG 60 (PySem.Str.ofString (toString i)) := by
  rw [intStr_eq2]
  have hn : ∀ n : Nat, n ≤ 10 ^ 50 → (natStr n).length ≤ 55 ∧ (natStr n).all okCode = true := fun n hn => by
    refine ⟨?_, List.all_eq_true.mpr fun c hc => dig_ok (natStr_dig n c hc)⟩
    have := natStr_len' 54 n (Nat.lt_of_le_of_lt hn (by decide))
    omega
  cases i with
  | ofNat n =>
    obtain ⟨h3, h4⟩ := hn n (by simp at h2; omega)
    exact ⟨by show (natStr n).length ≤ 60; omega, h4⟩
  | negSucc n =>
    obtain ⟨h3, h4⟩ := hn (n + 1) (by omega)
    refine ⟨by show (45 :: natStr (n + 1)).length ≤ 60; rw [List.length_cons]; omega, ?_⟩
    show (okCode 45 && (natStr (n + 1)).all okCode) = true
    rw [h4]; rfl
theorem rg_big {i : Int} (h : i.natAbs ≤ 10 ^ 120) : RG 200 (PySem.Str.ofString (toString i)) := by
  rw [intStr_eq2]
  have hn : ∀ n : Nat, n ≤ 10 ^ 120 → (natStr n).length ≤ 125 ∧ (natStr n).all okCode = true := fun n hn => by
    refine ⟨?_, List.all_eq_true.mpr fun c hc => dig_ok (natStr_dig n c hc)⟩
    have := natStr_len' 124 n (Nat.lt_of_le_of_lt hn (by decide +kernel))
    omega
  cases i with
  | ofNat n =>
    obtain ⟨h3, h4⟩ := hn n (by simpa using h)
    exact ⟨by show (natStr n).length ≤ 200; omega, h4⟩
  | negSucc n =>
    obtain ⟨h3, h4⟩ := hn (n + 1) (by simpa using h)
    refine ⟨by show (45 :: natStr (n + 1)).length ≤ 200; rw [List.length_cons]; omega, ?_⟩
    show (okCode 45 && (natStr (n + 1)).all okCode) = true
    rw [h4]; rfl
theorem big_log {i : Int} (h : i.natAbs ≤ 10 ^ 120) : i.natAbs.log2 < 1920 := by
  by_cases h0 : i.natAbs = 0
  · rw [h0]; decide
  · rw [Nat.log2_lt h0]
    exact Nat.lt_of_le_of_lt h (by decide +kernel)
mutual
/-- data that is shown in at most so many signs -/
inductive Sh : Nat → D → Prop
  | non : Sh 60 .non
  | bl (b : Bool) : Sh 60 (.bl b)
  | int {i : Int} (h : -(10 ^ 50) ≤ i) (h2 : i ≤ 10 ^ 50) : Sh 60 (.int i)
  | big {i : Int} (h : i.natAbs ≤ 10 ^ 120) : Sh 200 (.int i)
  | str {s : List Nat} {b : Nat} (h : s.all okCode = true) (h2 : 10 * s.length + 2 ≤ b) : Sh b (.str s)
  | tup {xs : List D} {b c : Nat} (h : Shs b xs) (hc : 3 + xs.length * (b + 2) ≤ c) : Sh c (.tup xs)
  | lst {xs : List D} {b c : Nat} (h : Shs b xs) (hc : 3 + xs.length * (b + 2) ≤ c) : Sh c (.lst xs)
inductive Shs : Nat → List D → Prop
  | nil {b : Nat} : Shs b []
  | cons {b : Nat} {x : D} {xs : List D} {a : Nat} (h : Sh a x) (hab : a ≤ b) (hs : Shs b xs) : Shs b (x :: xs)
end
theorem small_log {i : Int} (h : -(10 ^ 50) ≤ i) (h2 : i ≤ 10 ^ 50) : i.natAbs.log2 < 1920 := by
  by_cases h0 : i.natAbs = 0
  · rw [h0]; decide
  · rw [Nat.log2_lt h0]
    have : (10 : Int) ^ 50 < 2 ^ 1920 := by decide +kernel
    omega
mutual
theorem Sh.rg : ∀ {d : D} {b : Nat}, Sh b d → RG b (toPy d).shown ∧ (toPy d).showable = true
  | _, _, .non => ⟨RG.of (by decide +kernel), rfl⟩
  | _, _, .bl b => ⟨RG.of (by cases b <;> decide +kernel), rfl⟩
  | _, _, .int h h2 => ⟨rg_int h h2, by simp only [toPy, PySem.PyData.showable, decide_eq_true_eq]; exact small_log h h2⟩
  | _, _, .big h => ⟨rg_big h, by simp only [toPy, PySem.PyData.showable, decide_eq_true_eq]; exact big_log h⟩
  | _, _, .str h h2 => ⟨(rg_text h).mono h2, rfl⟩
  | _, _, .tup (xs := xs) h hc => by
    obtain ⟨h1, h2, h3⟩ := Shs.rg h
    refine ⟨(rg_tup h1).mono (by rw [h3]; exact hc), h2⟩
  | _, _, .lst (xs := xs) h hc => by
    obtain ⟨h1, h2, h3⟩ := Shs.rg h
    refine ⟨(rg_list h1).mono (by rw [h3]; omega), h2⟩
theorem Shs.rg : ∀ {ds : List D} {b : Nat}, Shs b ds → (∀ t ∈ PySem.PyData.shownAll (toPys ds), RG b t) ∧ PySem.PyData.showableAll (toPys ds) = true ∧ (PySem.PyData.shownAll (toPys ds)).length = ds.length
  | _, _, .nil => ⟨fun t h => by simp [toPys, PySem.PyData.shownAll] at h, rfl, rfl⟩
  | _, _, .cons h hab hs => by
    obtain ⟨h1, h2⟩ := h.rg
    obtain ⟨h3, h4, h5⟩ := hs.rg
    refine ⟨fun t ht => ?_, ?_, ?_⟩
    · simp only [toPys, PySem.PyData.shownAll, List.mem_cons] at ht
      rcases ht with rfl | ht
      · exact h1.mono hab
      · exact h3 t ht
    · simp [toPys, PySem.PyData.showableAll, h2, h4]
    · simp [toPys, PySem.PyData.shownAll, h5]
end
theorem okRep_of {d : D} {b n : Nat} (h : Sh b d) (hb : b ≤ 10000000) (he : okEq n d = true) : okRep n d = true := by
  obtain ⟨h1, h2⟩ := h.rg
  unfold okRep reprD
  rw [he, h2, h1.ok]
  simp only [Bool.true_and, Bool.and_true, decide_eq_true_eq]
  exact Nat.le_trans h1.len (lim_ge hb)
theorem repr_eq {d : D} {b : Nat} {st : Store} (hv : view st d = d) (h : Sh b d) (hb : b ≤ 10000000) (he : okEq 32 d = true) : bi .repr st [d] = some (.str (reprD d)) := by
  show (if okRep 32 (view st d) = true then some (D.str (reprD (view st d))) else none) = _
  rw [hv, if_pos (okRep_of h hb he)]
end G
namespace G
section
variable {Γ : Ctx} {fn fd fm fe : Fd}
def SpRows (f : Fd) : Prop := ∀ (l n : Nat) (m : Int) (st : Store), Wl l n st → n + 300 ≤ 1000000000 → 1 ≤ m → m ≤ 6 → OP (fun r st' => ∃ rs : List Row, r = .lst (rs.map encR) ∧ RowsOk rs ∧ (rs.length : Int) ≤ m ∧ Wl l (n + 300) st') (f [.loc l, .int m] st)
theorem sp_rows' (hn : SpNames fn) (hd : SpDip fd) (hm : SpRange fm 3 1 (10 ^ 30)) (he : SpRange fe 3 0 (10 ^ 33)) : SpRows (runF 2 4 (m_rows Γ fn fd fm fe)) := by
  intro l n m st hw hn0 h1 h6
  refine OP_run rfl ?_
  delta m_rows
  simp! only []
  refine (hd l n m st hw (by omega) (by omega) (by omega)).mono ?_
  rintro _ st1 ⟨k, rfl, hk0, hk1, hw1⟩
  simp! only []
  refine (hn l _ (1 + k) st1 hw1 (by omega) (by omega) (by omega)).mono ?_
  rintro _ st2 ⟨ns, rfl, hl, hok, hnd, hw2⟩
  simp! only []
  refine comp_invL (fun (pr : List (List Nat)) acc st' => ∃ rs : List Row, acc = rs.map encR ∧ rs.map (·.nm) = pr ∧ (∀ r ∈ rs, RowOk r) ∧ Wl l (n + 201 + 6 * pr.length) st') (lim_ge (by omega)) ⟨[], rfl, rfl, by simp, hw2.up (by show _ ≤ n + 201 + 6 * 0; omega)⟩ ?_ ?_
  · rintro pr s po acc st3 e ⟨rs, rfl, hp, hrs, hw3⟩
    have hpl : pr.length < 6 := by
      have := congrArg List.length e
      simp at this
      omega
    have hs : isNameS s = true := hok s (by rw [e]; simp)
    simp! only [turnV_eq]
    refine (hm l _ st3 hw3 (by omega)).mono ?_
    rintro _ st4 ⟨a, rfl, ha0, ha1, hw4⟩
    try simp! only []
    refine (he l _ st4 hw4 (by omega)).mono ?_
    rintro _ st5 ⟨b, rfl, hb0, hb1, hw5⟩
    try simp! only []
    exact ⟨rs ++ [⟨s, a, b⟩], by simp [encR], by simp [hp], fun r hr => by
      rcases List.mem_append.mp hr with hr | hr
      · exact hrs r hr
      · simp at hr; rw [hr]; exact ⟨hs, ha0, ha1, hb0, hb1⟩, hw5.up (by simp; omega)⟩
  · rintro acc st3 ⟨rs, rfl, hp, hrs, hw3⟩
    have hlen : rs.length = ns.length := by rw [← hp, List.length_map]
    exact ⟨rs, rfl, ⟨by omega, by omega, hrs, by rw [hp]; exact hnd⟩, by omega, hw3.up (by omega)⟩
/-! ### a well is made -/
def SpWell (f : Fd) : Prop := ∀ (ns : List Int) (k : Nat) (st : Store), ns.length ≤ 63 → k ≤ 10 → OP (fun r st' => ∃ l, r = .loc l ∧ Wl l 0 st') (f [.fl (ns.map .int), .int k] st)
theorem cut_map {α β : Type} (g : α → β) (l : List α) (lo hi : Option Int) : cut (l.map g) lo hi = (cut l lo hi).map g := by
  unfold cut
  simp [List.map_take, List.map_drop]
theorem new_eq {ds : List D} {st : Store} {Q : D → Store → Prop} : @OPi _ ⟨Q⟩ (newV ds st) = ((ltLocs st.length ds = true ∧ ds.length ≤ LIM) ∧ Q (.loc st.length) (st ++ [.lst ds])) := by
  unfold newV
  rw [OP_ite_bad]; rfl
theorem sp_well : SpWell (runF 2 5 (m_well Γ)) := by
  intro ns k st hl hk
  refine OP_run rfl ?_
  delta m_well
  obtain ⟨z, hz⟩ : ∃ z, (Sem.ife (opE .lt (vE 1) (biE .len [vE 0])) (opE .idx (vE 0) (vE 1)) (kE (.int 0))).val [.v (.fl (ns.map .int)), .v (.int k), .em, .em, .em] st = .ok (.int z) st := by
    by_cases h : k < ns.length
    · refine ⟨ns.getD k 0, OP_eq ?_⟩
      have e1 : ((k : Int) < (ns.map D.int).length) = True := by simp; exact h
      have e2 : atI (ns.map D.int) (k : Int) = some (.int (ns.getD k 0)) := by
        rw [atI_nat, List.getElem?_map, List.getD_eq_getElem?_getD, List.getElem?_eq_getElem h]; rfl
      simp! only [e1, e2]
    · refine ⟨0, OP_eq ?_⟩
      have e1 : ((k : Int) < (ns.map D.int).length) = False := by simp; omega
      simp! only [e1]
  simp only [List.map_cons, List.map_nil, List.length_cons, List.length_nil, Nat.reduceAdd, Nat.reduceSub, List.replicate, List.cons_append, List.nil_append, RP_seq, RP_nm, hz]
  simp! only []
  refine ⟨okMul_of (by omega) (by omega) (by omega) (by omega), ?_⟩
  rw [cut_map]
  refine forL_invL (enc := D.int) (fun pre env st' => ∃ (a : Int) (s4 : Sl), env = [.v (.fl (ns.map .int)), .v (.int k), .v (.int z), .v (.int a), s4] ∧ (0 ≤ a ∧ a < 2147483629 * 10) ∧ st' = st) ⟨_, _, rfl, by omega, rfl⟩ ?_ ?_
  · rintro pre x post env st' e ⟨a, s4, rfl, ha, rfl⟩
    have h1 := Int.emod_nonneg x (show (2147483587 : Int) ≠ 0 by decide)
    have h2 := Int.emod_lt_of_pos x (show (0 : Int) < 2147483587 by decide)
    refine ⟨_, by simp! only []; rfl, ?_⟩
    simp! only []
    refine ⟨okMul_of (by omega) (by omega) (by omega) (by omega), okDiv_of (by omega) (by omega), okDiv_of (by omega) (by omega), ?_⟩
    refine ⟨_, _, rfl, Int.emod_nonneg _ (by decide), Int.lt_of_lt_of_le (Int.emod_lt_of_pos _ (by decide)) (by decide)⟩
  · rintro env st' ⟨a, s4, rfl, ha, rfl⟩
    have h1 := Int.emod_nonneg z (show (2147483579 : Int) ≠ 0 by decide)
    have h2 := Int.emod_lt_of_pos z (show (0 : Int) < 2147483579 by decide)
    simp! only [new_eq]
    refine ⟨okMul_of (by omega) (by omega) (by omega) (by omega), okDiv_of (by omega) (by omega), okDiv_of (by omega) (by omega), ?_⟩
    have w0 : ∀ b : Int, 0 ≤ b → Wl st'.length 0 (st' ++ [Obj.lst [D.int ((a * 69621 + z % 2147483579 + 5) % 2147483629), D.int b, D.int 0]]) := fun b hb =>
      ⟨(a * 69621 + z % 2147483579 + 5) % 2147483629, b, 0, by simp, ⟨Int.emod_nonneg _ (by decide), Int.lt_of_lt_of_le (Int.emod_lt_of_pos _ (by decide)) (by decide)⟩, hb, ⟨by omega, by omega⟩, fun q hq => absurd (show q ∈ ([] : List (Nat × Obj)) from hq) List.not_mem_nil⟩
    exact ⟨fun _ => ⟨⟨rfl, lim_ge (by omega)⟩, _, rfl, w0 _ (by omega)⟩, fun _ => ⟨⟨rfl, lim_ge (by omega)⟩, _, rfl, w0 _ (by omega)⟩⟩
/-! ### k02 -/
variable {c : Nat} {K : Cl} {ft fr fmade fshow fwell fright frows : Fd}
/-- what the class List keeps -/
structure LS (Γ : Ctx) (c : Nat) : Prop where
  made : ∀ (p : Int) (rs : List Row) (st : Store), 1 ≤ p → p ≤ 9 → RowsOk rs → mkObj Γ c [.int p, encL rs] st = .ok (objL c p rs) st
  points : ∀ (p : Int) (rs : List Row) (st : Store), atV Γ 16 (objL c p rs) st = .ok (.int p) st
  rows : ∀ (p : Int) (rs : List Row) (st : Store), atV Γ 17 (objL c p rs) st = .ok (encL rs) st
  kinds : ∀ (p : Int) (rs : List Row) (st : Store), rs.length ≤ 6 → atV Γ 18 (objL c p rs) st = .ok (kindsD rs) st
  players : ∀ (p : Int) (rs : List Row) (st : Store), rs.length ≤ 6 → atV Γ 19 (objL c p rs) st = .ok (.int (playersI rs)) st
  len : ∀ (p : Int) (rs : List Row) (st : Store), rs.length ≤ 6 → dunV Γ c n_len (objL c p rs) st = .ok (.int rs.length) st
  isi : ∀ (p : Int) (rs : List Row) (st : Store), isiV Γ st (objL c p rs) (.own c) = some true
structure LS2 (Γ : Ctx) (c : Nat) : Prop extends LS Γ c where
  str : ∀ (p : Int) (rs : List Row) (st : Store), 1 ≤ p → p ≤ 9 → RowsOk rs → dunV Γ c n_str (objL c p rs) st = .ok (.str (listText p rs)) st
  bool : ∀ (p : Int) (rs : List Row) (st : Store), dunV Γ c n_bool (objL c p rs) st = .ok (.bl true) st
def SpMade (c : Nat) (f : Fd) : Prop := ∀ (i p : Int) (rs : List Row) (st : Store), 1 ≤ p → p ≤ 9 → RowsOk rs → f [.int i, .int p, encL rs] st = .ok (objL c p rs) st
def SpRead (c : Nat) (f : Fd) : Prop := ∀ (p : Int) (rs : List Row) (st : Store), 1 ≤ p → p ≤ 9 → RowsOk rs → f [.cls c, .str (listText p rs)] st = .ok (objL c p rs) st
theorem sp_read {x : Nat} (L : LS Γ c) (h : SpRdList fr) : SpRead c (runF 2 3 (m_List_read Γ fr x c)) := by
  intro p rs st h1 h2 hr
  apply OP_eq
  refine OP_run rfl ?_
  delta m_List_read
  have e : ∀ st, mkObj Γ c [.int p, .tup (rs.map encR)] st = .ok (objL c p rs) st := fun st => L.made p rs st h1 h2 hr
  simp! only [h p rs _ h1 h2 hr, e]
theorem i_i {p q : Prop} : ((p → True) ∧ (q → True)) = True := by simp
theorem sp_made (L : LS Γ c) (ht : SpText ft) (hr : SpRead c fr) : SpMade c (runF 3 3 (m_made Γ c ft fr)) := by
  intro i p rs st h1 h2 h
  apply OP_eq
  refine OP_run rfl ?_
  delta m_made
  have pk1 : pick D.non [0, 1] [.int p, encL rs] = [.int p, encL rs] := rfl
  have pk2 : pick D.non [1, 0] [encL rs, .int p] = [.int p, encL rs] := rfl
  simp! only [pk1, pk2, L.made p rs _ h1 h2 h, ht p rs _ h1 h2 h, hr p rs _ h1 h2 h]
end
end G
namespace G
/-! ### any values, asked for in lists -/
/-- what may be asked: texts, dicts, plain data -/
def VOk (v : D) : Prop := (∃ s, v = .str s) ∨ (∃ ks vs, v = .dct ks vs) ∨ (okEq 64 v = true ∧ isStr v = false)
/-- the name of one of these -/
def inN (v : D) (ss : List (List Nat)) : Bool := match v with
  | .str s => ss.any fun z => z == s
  | _ => false
theorem view_ok {st : Store} {v : D} {n : Nat} (h : okEq n v = true) : view st v = v := by
  cases v <;> first | rfl | (simp [okEq] at h; done)
theorem eq_noStr {v : D} (h : isStr v = false) (z : List Nat) : pyEq (.str z) v = false := by
  cases v <;> first | rfl | (cases h; done)
theorem isi_val {Γ : Ctx} {st : Store} {v : D} (h : VOk v) : isiV Γ st v .str = some (isStr v) := by
  rcases h with ⟨s, rfl⟩ | ⟨ks, vs, rfl⟩ | ⟨h1, h2⟩
  · rfl
  · rfl
  · cases v <;> first | rfl | (simp [okEq] at h1; done) | (cases h2; done)
theorem strs_isStr : ∀ ss : List (List Nat), (ss.map D.str).all isStr = true
  | [] => rfl
  | s :: ss => by rw [List.map_cons, List.all_cons, strs_isStr ss]; rfl
theorem okEqs_strs1 (n : Nat) (ss : List (List Nat)) : okEqs n (ss.map D.str) = true := okEqs_strs (fun x => x) ss
theorem any_noStr {v : D} (h : isStr v = false) (ss : List (List Nat)) : ((ss.map D.str).any fun z => pyEq z v) = false := by
  induction ss with
  | nil => rfl
  | cons s ss ih => rw [List.map_cons, List.any_cons, ih, eq_noStr h s]; rfl
theorem any_str (u : List Nat) (ss : List (List Nat)) : ((ss.map D.str).any fun z => pyEq z (.str u)) = ss.any fun z => z == u := by
  induction ss with
  | nil => rfl
  | cons s ss ih => rw [List.map_cons, List.any_cons, ih, List.any_cons]; rfl
theorem mem_val {st : Store} {v : D} (h : VOk v) (ss : List (List Nat)) (tup : Bool) : op2 .mem st v (if tup then .tup (ss.map .str) else .lst (ss.map .str)) = some (.bl (inN v ss)) := by
  have key : ∀ y : D, (∀ b, y ≠ .str b) → seqv st y = some (ss.map .str) → (∀ u, v ≠ .str u) → op2 .mem st v y = some (.bl (inN v ss)) := by
    intro y h1 h2 h3
    rcases h with ⟨s, rfl⟩ | ⟨ks, vs, rfl⟩ | ⟨h4, h5⟩
    · exact absurd rfl (h3 s)
    · show (match seqv st y with
        | some ys => if ys.all isStr then some (D.bl false) else none
        | none => none) = _
      rw [h2]
      show (if (ss.map D.str).all isStr = true then some (D.bl false) else none) = _
      rw [strs_isStr, if_pos rfl]
      rfl
    · have e : op2 .mem st v y = (match seqv st y with
        | some ys => let x := view st v; if okEq 64 x && okEqs 64 ys then some (.bl (ys.any fun z => pyEq z x)) else none
        | none => none) := by
        cases v <;> first | rfl | (simp [okEq] at h4; done) | (cases h5; done)
      rw [e, h2]
      show (if (okEq 64 (view st v) && okEqs 64 (ss.map D.str)) = true then some (D.bl ((ss.map D.str).any fun z => pyEq z (view st v))) else none) = _
      rw [view_ok h4, h4, okEqs_strs1, any_noStr h5]
      have : inN v ss = false := by cases v <;> first | rfl | (cases h5; done)
      rw [this]; rfl
  by_cases hs : ∃ u, v = .str u
  · obtain ⟨u, rfl⟩ := hs
    cases tup with
    | true => exact mem_strsT (g := fun x => x)
    | false => exact mem_strs (g := fun x => x)
  · cases tup with
    | true => exact key _ (fun b e => by cases e) rfl fun u e => hs ⟨u, e⟩
    | false => exact key _ (fun b e => by cases e) rfl fun u e => hs ⟨u, e⟩
end G
namespace G
theorem name_ok {s : List Nat} (h : isNameS s = true) : s.all okCode = true := List.all_eq_true.mpr fun c hc => by
  have := name_sign h c hc
  unfold okCode
  simp only [decide_eq_true_eq]
  omega
theorem sh_row {r : Row} (h : RowOk r) : Sh 400 (encR r) := by
  have h1 := name_len h.nm
  have := h.n1; have := h.n2; have := h.s1; have := h.s2
  exact .tup (b := 100) (.cons (.str (b := 100) (name_ok h.nm) (by omega)) (by omega) (.cons (.int (by omega) (by omega)) (by omega) (.cons (.int (by omega) (by omega)) (by omega) .nil))) (by simp)
theorem shs_rows : ∀ {rs : List Row}, (∀ r ∈ rs, RowOk r) → Shs 400 (rs.map encR)
  | [], _ => .nil
  | r :: rs, h => .cons (sh_row (h r (by simp))) (Nat.le_refl _) (shs_rows fun x hx => h x (by simp [hx]))
theorem shs_names : ∀ {rs : List Row}, (∀ r ∈ rs, RowOk r) → Shs 100 (rs.map fun r => .str r.nm)
  | [], _ => .nil
  | r :: rs, h => .cons (.str (b := 100) (name_ok (h r (by simp)).nm) (by have := (name_len (h r (by simp)).nm).2; omega)) (Nat.le_refl _) (shs_names fun x hx => h x (by simp [hx]))
theorem sh_encL {rs : List Row} (h : RowsOk rs) : Sh 4000 (encL rs) := .tup (shs_rows h.ok) (by rw [List.length_map]; have := h.l6; omega)
theorem sh_kinds {rs : List Row} (h : RowsOk rs) : Sh 1000 (kindsD rs) := .tup (shs_names h.ok) (by rw [List.length_map]; have := h.l6; omega)
theorem players_rng : ∀ {rs : List Row}, (∀ r ∈ rs, RowOk r) → 0 ≤ playersI rs ∧ playersI rs ≤ rs.length * 10 ^ 30
  | [], _ => by simp [playersI]
  | r :: rs, h => by
    have ih := players_rng (rs := rs) fun x hx => h x (by simp [hx])
    have h1 := h r (by simp)
    have := h1.n1; have := h1.n2
    unfold playersI at ih ⊢
    rw [List.map_cons, List.sum_cons, List.length_cons]
    have e : (((rs.length + 1 : Nat) : Int)) * 10 ^ 30 = rs.length * 10 ^ 30 + 10 ^ 30 := by rw [Int.natCast_add, Int.add_mul]; omega
    rw [e]
    omega
def dueD (p : Int) (rs : List Row) : D := .lst [.int p, encL rs, kindsD rs, .int (playersI rs), .int rs.length]
theorem due_repr {p : Int} {rs : List Row} {st : Store} (h1 : 1 ≤ p) (h2 : p ≤ 9) (h : RowsOk rs) : bi .repr st [dueD p rs] = some (.str (reprD (dueD p rs))) := by
  have hp := players_rng h.ok
  have h6 := h.l6
  have e6 : (rs.length : Int) * 10 ^ 30 ≤ 6 * 10 ^ 30 := Int.mul_le_mul_of_nonneg_right (by omega) (by decide)
  refine repr_eq (b := 100000) rfl ?_ (by omega) ?_
  · exact .lst (b := 4000) (.cons (.int (by omega) (by omega)) (by omega) (.cons (sh_encL h) (by omega) (.cons (sh_kinds h) (by omega) (.cons (.int (by omega) (by omega)) (by omega) (.cons (.int (by omega) (by omega)) (by omega) .nil))))) (by simp)
  · show (okEq 31 (.int p) && (okEqs 30 (rs.map encR) && (okEqs 30 (rs.map fun r => D.str r.nm) && (okEq 31 (.int (playersI rs)) && (okEq 31 (.int rs.length) && okEqs 31 []))))) = true
    rw [okEqs_rows, okEqs_strs]; rfl
section
variable {Γ : Ctx} {c : Nat} {ft fr fmade fshow fwell fright frows fdip : Fd}
def SpShows (c : Nat) (f : Fd) : Prop := ∀ (p : Int) (rs : List Row) (st : Store), 1 ≤ p → p ≤ 9 → RowsOk rs → f [objL c p rs, .int p, encL rs] st = .ok (.bl true) st
theorem sp_shows (L : LS2 Γ c) (ht : SpText ft) : SpShows c (runF 3 5 (m_shows Γ c ft)) := by
  intro p rs st h1 h2 h
  have h6 := h.l6
  apply OP_eq
  refine OP_run rfl ?_
  delta m_shows
  simp! only [L.isi, si_encL]
  rw [comp_mapL (g := fun r => .str r.nm) rs (lim_ge (by omega)) fun r hr => by
    apply OP_eq
    simp! only [turnV_eq, idx_row0]]
  simp! only [si_encL]
  rw [comp_mapL (g := fun r => .int r.num) rs (lim_ge (by omega)) fun r hr => by
    apply OP_eq
    simp! only [turnV_eq, idx_row1]]
  have es : ∀ st, bi .sum st [.lst (rs.map fun r => D.int r.num)] = some (.int (playersI rs)) := fun st => by
    simp only [bi, lv_lst, ob_some, ints_map, om_some]; rfl
  have ed : ∀ st, bi .repr st [.lst [.int p, encL rs, .tup (rs.map fun r => .str r.nm), .int (playersI rs), .int rs.length]] = some (.str (reprD (dueD p rs))) := fun st => due_repr h1 h2 h
  have ed2 : ∀ st, bi .repr st [.lst [.int p, encL rs, kindsD rs, .int (playersI rs), .int rs.length]] = some (.str (reprD (dueD p rs))) := fun st => due_repr h1 h2 h
  simp! only [es, len_encL, ed, ed2, L.points, L.rows, L.kinds p rs _ h6, L.players p rs _ h6, L.len p rs _ h6, L.str p rs _ h1 h2 h, ht p rs _ h1 h2 h, L.bool, decide_true]
def SpRight (f : Fd) : Prop := ∀ (l : Nat) (st : Store), Wl l 0 st → OP (fun r _ => r = .bl true) (f [.loc l] st)
theorem sp_right (hd : SpDip fdip) (hr : SpRows frows) (hm : SpMade c fmade) (hs : SpShows c fshow) : SpRight (runF 1 8 (m_right Γ fdip frows fmade fshow)) := by
  intro l st hw
  refine OP_run rfl ?_
  delta m_right
  simp! only []
  refine (hd l _ 4 st hw (by omega) (by omega) (by omega)).mono ?_
  rintro _ st1 ⟨i, rfl, hi0, hi1, hw1⟩
  try simp! only []
  refine (hd l _ 9 st1 hw1 (by omega) (by omega) (by omega)).mono ?_
  rintro _ st2 ⟨p, rfl, hp0, hp1, hw2⟩
  try simp! only []
  refine (hr l _ 6 st2 hw2 (by omega) (by omega) (by omega)).mono ?_
  rintro _ st3 ⟨rs, rfl, hrs, hl, hw3⟩
  have e1 : ∀ st, bi .tuple st [.lst (rs.map encR)] = some (encL rs) := fun _ => rfl
  simp! only [e1, hm i (1 + p) rs _ (by omega) (by omega) hrs, hs (1 + p) rs _ (by omega) (by omega) hrs]
  refine (hd l _ 9 st3 hw3 (by omega) (by omega) (by omega)).mono ?_
  rintro _ st4 ⟨p2, rfl, hp20, hp21, hw4⟩
  simp! only []
  refine (hr l _ 6 st4 hw4 (by omega) (by omega) (by omega)).mono ?_
  rintro _ st5 ⟨rs2, rfl, hrs2, hl2, hw5⟩
  have e2 : ∀ st, bi .tuple st [.lst (rs2.map encR)] = some (encL rs2) := fun _ => rfl
  simp! only [e2]
  refine (hd l _ 4 st5 hw5 (by omega) (by omega) (by omega)).mono ?_
  rintro _ st6 ⟨i2, rfl, hi20, hi21, hw6⟩
  simp! only [hm i2 (1 + p2) rs2 _ (by omega) (by omega) hrs2, hs (1 + p2) rs2 _ (by omega) (by omega) hrs2, hs (1 + p) rs _ (by omega) (by omega) hrs]
def SpLaw (f : Fd) : Prop := ∀ (ns : List Int) (st : Store), ns.length ≤ 63 → OP (fun r _ => r = .bl true) (f [.fl (ns.map .int)] st)
theorem sp_law (hr : SpRight fright) (hw : SpWell fwell) : SpLaw (runF 1 2 (m_law Γ fright fwell)) := by
  intro ns st hl
  refine OP_run rfl ?_
  delta m_law
  simp! only [List.length_map]
  generalize ht : (if (if (6 : Int) < ns.length then (6 : Int) else ns.length) > 2 then (if (6 : Int) < ns.length then (6 : Int) else ns.length) else (2 : Int)) = t
  have ht2 : 0 ≤ t ∧ t ≤ 6 := by subst ht; split <;> split <;> omega
  refine ⟨⟨by unfold LIM; omega, by unfold LIM; omega⟩, ?_⟩
  rw [range0]
  refine forL_invL (fun (pre : List Nat) env st' => ∃ s1, env = [.v (.fl (ns.map .int)), s1]) ⟨_, rfl⟩ ?_ ?_
  · rintro pre k post env st' e ⟨s1, rfl⟩
    obtain ⟨rfl, hk⟩ := range_at e
    refine ⟨_, by simp! only []; rfl, ?_⟩
    simp! only []
    refine (hw ns pre.length st' hl (by omega)).mono ?_
    rintro _ st1 ⟨l, rfl, hw1⟩
    refine (hr l st1 hw1).mono ?_
    rintro _ st2 rfl
    simp! only []
    exact ⟨_, rfl⟩
  · rintro env st' ⟨s1, rfl⟩
    simp! only []
end
end G
namespace G
section
variable {Γ : Ctx} {c : Nat} {fd fr fv fright fwell : Fd}
theorem at_val {α : Type} {P : α → Prop} {xs : List α} {k : Int} (h0 : 0 ≤ k) (h1 : k < xs.length) (h : ∀ v ∈ xs, P v) : ∃ v, atI xs k = some v ∧ P v := by
  obtain ⟨q, rfl⟩ := Int.eq_ofNat_of_zero_le h0
  have hq : q < xs.length := by omega
  refine ⟨xs[q], ?_, h _ (List.getElem_mem hq)⟩
  rw [atI_nat, List.getElem?_eq_getElem hq]
theorem cut_le (x : List Nat) (lo hi : Option Int) : (cut x lo hi).length ≤ x.length := by
  unfold cut
  rw [List.length_take, List.length_drop]
  omega
theorem str_ok (s : List Nat) : VOk (.str s) := .inl ⟨s, rfl⟩
theorem plain_ok {v : D} (h : okEq 64 v = true) (h2 : isStr v = false) : VOk v := .inr (.inr ⟨h, h2⟩)
theorem name_low {s : List Nat} (h : isNameS s = true) : s.length ≤ 1000000 ∧ s.all (fun c => decide (c < 128)) = true := by
  refine ⟨by have := (name_len h).2; omega, List.all_eq_true.mpr fun c hc => ?_⟩
  have := name_sign h c hc
  simp only [decide_eq_true_eq]
  omega
def SpValues (f : Fd) : Prop := ∀ (l n : Nat) (rs1 rs2 : List Row) (st : Store), Wl l n st → n + 100 ≤ 1000000000 → (∀ r ∈ rs1 ++ rs2, RowOk r) → 1 ≤ rs1.length → (rs1 ++ rs2).length ≤ 12 →
  OP (fun r st' => ∃ vs, r = .lst vs ∧ (∀ v ∈ vs, VOk v) ∧ vs.length ≤ 12 ∧ Wl l (n + 100) st') (f [.loc l, .lst (rs1.map encR), .lst (rs2.map encR)] st)
theorem sp_values (hd : SpDip fd) : SpValues (runF 3 11 (m_values Γ fd)) := by
  intro l n rs1 rs2 st hw hn hok h1 h12
  refine OP_run rfl ?_
  delta m_values
  have hl12 : rs1.length + rs2.length ≤ 12 := by simpa using h12
  obtain ⟨r0, hr0, e0⟩ : ∃ r0, RowOk r0 ∧ atI (rs1.map encR) 0 = some (encR r0) := by
    cases rs1 with
    | nil => simp at h1
    | cons a b => exact ⟨a, hok a (by simp), by rw [List.map_cons, atI_zero]⟩
  simp! only [List.length_map]
  refine ⟨lim_ge (by omega), ?_⟩
  rw [← List.map_append, comp_mapL (g := fun r => .str r.nm) (rs1 ++ rs2) (lim_ge (by rw [List.length_append]; omega)) fun r hr => by
    apply OP_eq
    simp! only [turnV_eq, idx_row0]]
  generalize hns : (rs1 ++ rs2).map (fun r => D.str r.nm) = ns
  have hnl : ns.length = rs1.length + rs2.length := by rw [← hns]; simp
  have hnP : ∀ v ∈ ns, ∃ s, v = D.str s ∧ isNameS s = true := fun v hv => by
    rw [← hns] at hv
    obtain ⟨r, hr, rfl⟩ := List.mem_map.mp hv
    exact ⟨_, rfl, (hok r hr).nm⟩
  simp! only []
  refine ⟨⟨by unfold LIM; omega, by unfold LIM; omega⟩, ?_⟩
  rw [range0]
  refine forL_invL (fun (pre : List Nat) env st' => ∃ (fo : List D) (s3 s4 s7 s8 s9 s10 : Sl), env = [.v (.loc l), .v (.lst (rs1.map encR)), .v (.lst (rs2.map encR)), s3, s4, .v (.lst ns), .own fo, s7, s8, s9, s10] ∧ fo.length = pre.length ∧ (∀ v ∈ fo, VOk v) ∧ Wl l (n + 4 * pre.length) st') ⟨[], _, _, _, _, _, _, rfl, rfl, by simp, hw⟩ ?_ ?_
  · rintro pre x post env st1 e ⟨fo, s3, s4, s7, s8, s9, s10, rfl, hfl, hfo, hw1⟩
    obtain ⟨rfl, hx⟩ := range_at e
    have hx : pre.length < 8 := hx
    refine ⟨_, by simp! only []; rfl, ?_⟩
    simp! only []
    refine (hd l _ ns.length st1 hw1 (by omega) (by omega) (by omega)).mono ?_
    rintro _ st2 ⟨k, rfl, hk0, hk1, hw2⟩
    obtain ⟨_, hk, s, rfl, hs⟩ := at_val hk0 hk1 hnP
    have hlow := name_low hs
    have hlen := name_len hs
    have hfoL : fo.length < LIM := Nat.lt_of_lt_of_le (show fo.length < 9 by omega) (lim_ge (by omega))
    have done : ∀ (v : D) (st' : Store) (s3 s4 s7 s8 s9 s10 : Sl), VOk v → Wl l (n + 4 * pre.length + 4) st' → ∃ (fo' : List D) (t3 t4 t7 t8 t9 t10 : Sl), [Sl.v (.loc l), .v (.lst (rs1.map encR)), .v (.lst (rs2.map encR)), s3, s4, .v (.lst ns), .own (fo ++ [v]), s7, s8, s9, s10] = [.v (.loc l), .v (.lst (rs1.map encR)), .v (.lst (rs2.map encR)), t3, t4, .v (.lst ns), .own fo', t7, t8, t9, t10] ∧ fo'.length = (pre ++ [pre.length]).length ∧ (∀ v ∈ fo', VOk v) ∧ Wl l (n + 4 * (pre ++ [pre.length]).length) st' := fun v st' t3 t4 t7 t8 t9 t10 hv hw' =>
      ⟨_, _, _, _, _, _, _, rfl, by simp [hfl], fun u hu => by
        rcases List.mem_append.mp hu with hu | hu
        · exact hfo u hu
        · simp at hu; rw [hu]; exact hv, hw'.up (by simp; omega)⟩
    simp! only [idx_lst, hk]
    refine (hd l _ 6 st2 hw2 (by omega) (by omega) (by omega)).mono ?_
    rintro _ st3 ⟨fm, rfl, hf0, hf1, hw3⟩
    simp! only [hfoL]
    refine ⟨fun _ => done _ _ _ _ _ _ _ _ (str_ok s) (hw3.up (by omega)), fun _ => ⟨fun _ => ?_, fun _ => ⟨fun _ => ?_, fun _ => ?_⟩⟩⟩
    · refine (hd l _ 7 st3 hw3 (by omega) (by omega) (by omega)).mono ?_
      rintro _ st4 ⟨k7, rfl, hk70, hk71, hw4⟩
      obtain ⟨c7, hc7, _⟩ := at_val (P := fun _ => True) (xs := [97, 98, 99, 48, 49, 57, 122]) hk70 (by simpa using hk71) (fun _ _ => trivial)
      simp! only [hc7, hfoL]
      refine ⟨lim_ge (by omega), ?_⟩
      exact done _ _ _ _ _ _ _ _ (str_ok _) (hw4.up (by omega))
    · refine (hd l _ s.length st3 hw3 (by omega) (by omega) (by omega)).mono ?_
      rintro _ st4 ⟨at4, rfl, hk70, hk71, hw4⟩
      have c1 := cut_le s none (some at4)
      have c2 := cut_le s (some (at4 + 1)) none
      simp! only [hfoL]
      refine ⟨lim_ge (by omega), ?_⟩
      exact done _ _ _ _ _ _ _ _ (str_ok _) (hw4.up (by omega))
    · have hz : s.length + 1 ≤ LIM := lim_ge (by omega)
      simp! only [hlow, e0, hz]
      refine (hd l _ 6 st3 hw3 (by omega) (by omega) (by omega)).mono ?_
      rintro _ st4 ⟨k7, rfl, hk70, hk71, hw4⟩
      obtain ⟨v, hv, hvo⟩ := at_val (P := VOk) (xs := [.str (s.map upC), .tup [.str s], .lst [.str s], .dct [.str s] [.int 1], .str (s ++ [32]), encR r0]) hk70 (by simpa using hk71) (fun v hv => by
        simp only [List.mem_cons, List.not_mem_nil, or_false] at hv
        rcases hv with rfl | rfl | rfl | rfl | rfl | rfl
        · exact str_ok _
        · exact plain_ok rfl rfl
        · exact plain_ok rfl rfl
        · exact .inr (.inl ⟨_, _, rfl⟩)
        · exact str_ok _
        · exact plain_ok rfl rfl)
      simp! only [hv, hfoL]
      exact done _ _ _ _ _ _ _ _ hvo (hw4.up (by omega))
  · rintro env st1 ⟨fo, s3, s4, s7, s8, s9, s10, rfl, hfl, hfo, hw1⟩
    have hfl : fo.length = 8 := hfl
    have hw1 : Wl l (n + 32) st1 := hw1
    simp! only [e0, idx_row1, idx_row2, List.length_map]
    refine ⟨⟨by unfold LIM; omega, by unfold LIM; omega⟩, ?_⟩
    rw [range0]
    refine comp_invL (fun (pr : List Nat) acc st' => acc.length = pr.length ∧ (∀ v ∈ acc, VOk v) ∧ Wl l (n + 32 + pr.length) st') (lim_ge (by rw [List.length_range]; decide)) ⟨rfl, by simp, hw1⟩ ?_ ?_
    · rintro pr y po acc st5 e5 ⟨hal, hav, hw5⟩
      obtain ⟨rfl, hy⟩ := range_at e5
      have hy : pr.length < 4 := hy
      simp! only [turnV_eq]
      refine (hd l _ 14 st5 hw5 (by omega) (by omega) (by omega)).mono ?_
      rintro _ st6 ⟨k, rfl, hk0, hk1, hw6⟩
      have hns64 : okEq 64 (.tup ns) = true := by
        have e : ns = (rs1 ++ rs2).map fun r => D.str r.nm := hns.symm
        rw [e]
        show okEqs 63 _ = true
        exact okEqs_strs _ _
      obtain ⟨v, hv, hvo⟩ := at_val (P := VOk) (xs := [D.non, D.int 0, D.int 1, D.bl true, D.str [], D.tup [], D.lst [], D.dct [] [], D.int r0.num, D.int r0.sc, D.int ↑rs1.length, D.tup ns, D.int 1000000000000000000000000000000, D.int (-1)]) hk0 (by simpa using hk1) (fun v hv => by
        simp only [List.mem_cons, List.not_mem_nil, or_false] at hv
        rcases hv with rfl | rfl | rfl | rfl | rfl | rfl | rfl | rfl | rfl | rfl | rfl | rfl | rfl | rfl
        · exact plain_ok rfl rfl
        · exact plain_ok rfl rfl
        · exact plain_ok rfl rfl
        · exact plain_ok rfl rfl
        · exact str_ok _
        · exact plain_ok rfl rfl
        · exact plain_ok rfl rfl
        · exact .inr (.inl ⟨_, _, rfl⟩)
        · exact plain_ok rfl rfl
        · exact plain_ok rfl rfl
        · exact plain_ok rfl rfl
        · exact plain_ok hns64 rfl
        · exact plain_ok rfl rfl
        · exact plain_ok rfl rfl)
      simp! only [idx_lst, hv]
      refine ⟨by simp [hal], fun u hu => ?_, hw6.up (by simp; omega)⟩
      rcases List.mem_append.mp hu with hu | hu
      · exact hav u hu
      · simp at hu; rw [hu]; exact hvo
    · rintro acc st5 ⟨hal, hav, hw5⟩
      rw [List.length_range] at hal hw5
      have hal : acc.length = 4 := hal
      have hw5 : Wl l (n + 32 + 4) st5 := hw5
      simp! only []
      refine ⟨lim_ge (by omega), _, rfl, fun u hu => ?_, by rw [List.length_append]; omega, hw5.up (by omega)⟩
      rcases List.mem_append.mp hu with hu | hu
      · exact hfo u hu
      · exact hav u hu
/-- List.__contains__ -/
theorem sp_has {K : Cl} (L : LC Γ c K) (hk : ∀ (p : Int) (rs : List Row) (st : Store), rs.length ≤ 6 → atV Γ 18 (objL c p rs) st = .ok (kindsD rs) st) {p : Int} {rs : List Row} {v : D} {st : Store} (h : VOk v) (h6 : rs.length ≤ 6) :
    runF 2 2 (m_List_contains Γ) [objL c p rs, v] st = .ok (.bl (inN v (rs.map (·.nm)))) st := by
  apply OP_eq
  refine OP_run rfl ?_
  delta m_List_contains
  have e : ∀ st, op2 .mem st v (kindsD rs) = some (.bl (inN v (rs.map (·.nm)))) := fun st => by
    have := mem_val (st := st) h (rs.map (·.nm)) true
    rw [List.map_map] at this
    exact this
  simp! only [hk p rs _ h6, e]
theorem LC.has {K : Cl} (L : LC Γ c K) {g : Nat} {v : D} {p : Int} {rs : List Row} {neg b : Bool} {st : Store} (hm : K.meths.lookup n_contains = some g) (hg : Γ.call g [objL c p rs, v] st = .ok (.bl b) st) : hasV Γ c neg v (objL c p rs) st = .ok (.bl (b != neg)) st := by
  unfold hasV
  show (if c = c then (match (Γ.cls c).bind fun k => k.meths.lookup n_contains with
    | some f => (Γ.call f [objL c p rs, v] st).hush.bind fun r st => _
    | none => .bad) else .bad) = _
  rw [if_pos rfl]
  have e2 : ((Γ.cls c).bind fun k => k.meths.lookup n_contains) = some g := by rw [L.at_]; exact hm
  rw [e2]
  show (Γ.call g [objL c p rs, v] st).hush.bind _ = _
  rw [hg]
  rfl
/-- a value is in a list -/
structure LS3 (Γ : Ctx) (c : Nat) : Prop extends LS Γ c where
  has : ∀ (v : D) (p : Int) (rs : List Row) (st : Store), VOk v → rs.length ≤ 6 → hasV Γ c false v (objL c p rs) st = .ok (.bl (inN v (rs.map (·.nm)))) st
  hasn : ∀ (v : D) (p : Int) (rs : List Row) (st : Store), VOk v → rs.length ≤ 6 → hasV Γ c true v (objL c p rs) st = .ok (.bl (!inN v (rs.map (·.nm)))) st
theorem repr_bls {st : Store} (bs : List Bool) (h : bs.length ≤ 10) : bi .repr st [.lst (bs.map .bl)] = some (.str (reprD (.lst (bs.map .bl)))) := by
  have e1 : ∀ bs : List Bool, Shs 60 (bs.map D.bl) := fun bs => by
    induction bs with
    | nil => exact .nil
    | cons b bs ih => exact .cons (.bl b) (Nat.le_refl _) ih
  have e2 : ∀ (n : Nat) (bs : List Bool), okEqs n (bs.map D.bl) = true := fun n bs => by
    induction bs with
    | nil => rfl
    | cons b bs ih => rw [List.map_cons]; show (okEq n (.bl b) && _) = true; rw [ih]; cases n <;> rfl
  exact repr_eq (b := 10000) rfl (.lst (e1 bs) (by rw [List.length_map]; omega)) (by omega) (e2 31 bs)
theorem sp_right6 (hd : SpDip fd) (hr : SpRows fr) (hv : SpValues fv) (L : LS3 Γ c) : SpRight (runF 1 14 (m_right_k06 Γ fr fd c fv)) := by
  intro l st hw
  refine OP_run rfl ?_
  delta m_right_k06
  simp! only []
  refine (hr l _ 6 st hw (by omega) (by omega) (by omega)).mono ?_
  rintro _ st1 ⟨rs, rfl, hrs, hl, hw1⟩
  try simp! only []
  refine (hr l _ 3 st1 hw1 (by omega) (by omega) (by omega)).mono ?_
  rintro _ st2 ⟨rs2, rfl, hrs2, hl2, hw2⟩
  simp! only []
  rw [comp_mapL (g := fun r => .str r.nm) rs2 (lim_ge (by omega)) fun r hr => by
    apply OP_eq
    simp! only [turnV_eq, idx_row0]]
  simp! only []
  refine forL_invL (fun (pre : List Row) env st' => ∃ (ls : List Row) (s2 s5 s6 s7 s8 s9 s10 s11 s12 s13 : Sl), env = [.v (.loc l), .v (.lst (rs2.map fun r => .str r.nm)), s2, .v (.lst (rs.map encR)), .own (ls.map encR), s5, s6, s7, s8, s9, s10, s11, s12, s13] ∧ RowsOk ls ∧ (∀ r ∈ ls, r.nm ∈ rs2.map (·.nm) ∨ r.nm ∈ pre.map (·.nm)) ∧ Wl l (600 + pre.length) st') ⟨rs2, _, _, _, _, _, _, _, _, _, _, rfl, hrs2, fun r hr => .inl (List.mem_map_of_mem hr), hw2.up (by omega)⟩ ?_ ?_
  · rintro pre x post env st3 e ⟨ls, s2, s5, s6, s7, s8, s9, s10, s11, s12, s13, rfl, hls, hin, hw3⟩
    have hpl : pre.length < 6 := by
      have := congrArg List.length e
      simp at this
      have := hrs.l6
      omega
    refine ⟨_, by simp! only [encR]; rfl, ?_⟩
    simp! only []
    refine (hd l _ 4 st3 hw3 (by omega) (by omega) (by omega)).mono ?_
    rintro _ st4 ⟨k, rfl, hk0, hk1, hw4⟩
    have em : ∀ st, op2 .nmem st (.str x.nm) (.lst (rs2.map fun r => D.str r.nm)) = some (.bl (!rs2.any fun r => r.nm == x.nm)) := fun st => nmem_strs
    simp! only [em, List.length_map]
    have keep : ∀ (st' : Store) (s2 s5 s6 s7 s8 s9 s10 s11 s12 s13 : Sl), Wl l (600 + (pre ++ [x]).length) st' → ∃ (ls' : List Row) (t2 t5 t6 t7 t8 t9 t10 t11 t12 t13 : Sl), [Sl.v (.loc l), .v (.lst (rs2.map fun r => .str r.nm)), s2, .v (.lst (rs.map encR)), .own (ls.map encR), s5, s6, s7, s8, s9, s10, s11, s12, s13] = [.v (.loc l), .v (.lst (rs2.map fun r => .str r.nm)), t2, .v (.lst (rs.map encR)), .own (ls'.map encR), t5, t6, t7, t8, t9, t10, t11, t12, t13] ∧ RowsOk ls' ∧ (∀ r ∈ ls', r.nm ∈ rs2.map (·.nm) ∨ r.nm ∈ (pre ++ [x]).map (·.nm)) ∧ Wl l (600 + (pre ++ [x]).length) st' :=
      fun st' s2 s5 s6 s7 s8 s9 s10 s11 s12 s13 h => ⟨ls, _, _, _, _, _, _, _, _, _, _, rfl, hls, fun r hr => (hin r hr).imp id fun h => by rw [List.map_append]; exact List.mem_append_left _ h, h⟩
    have hxo : RowOk x := hrs.ok x (by rw [e]; simp)
    have add : ∀ (st' : Store) (s2 s5 s6 s7 s8 s9 s10 s11 s12 s13 : Sl), (ls.length : Int) < 6 → (rs2.any fun r => r.nm == x.nm) = false → Wl l (600 + (pre ++ [x]).length) st' → ∃ (ls' : List Row) (t2 t5 t6 t7 t8 t9 t10 t11 t12 t13 : Sl), [Sl.v (.loc l), .v (.lst (rs2.map fun r => .str r.nm)), s2, .v (.lst (rs.map encR)), .own (ls.map encR ++ [.tup [.str x.nm, .int x.num, .int x.sc]]), s5, s6, s7, s8, s9, s10, s11, s12, s13] = [.v (.loc l), .v (.lst (rs2.map fun r => .str r.nm)), t2, .v (.lst (rs.map encR)), .own (ls'.map encR), t5, t6, t7, t8, t9, t10, t11, t12, t13] ∧ RowsOk ls' ∧ (∀ r ∈ ls', r.nm ∈ rs2.map (·.nm) ∨ r.nm ∈ (pre ++ [x]).map (·.nm)) ∧ Wl l (600 + (pre ++ [x]).length) st' := by
      intro st' s2 s5 s6 s7 s8 s9 s10 s11 s12 s13 h6 ha h
      refine ⟨ls ++ [x], s2, s5, s6, s7, s8, s9, s10, s11, s12, s13, by rw [List.map_append]; rfl, ⟨by simp, by simp; omega, fun r hr => ?_, ?_⟩, fun r hr => ?_, h⟩
      · rcases List.mem_append.mp hr with hr | hr
        · exact hls.ok r hr
        · simp at hr; rw [hr]; exact hxo
      · rw [List.map_append]
        refine List.nodup_append.mpr ⟨hls.nd, by simp, fun a ha2 b hb => ?_⟩
        simp only [List.map_cons, List.map_nil, List.mem_singleton] at hb
        subst hb
        rintro rfl
        obtain ⟨r, hr, er⟩ := List.mem_map.mp ha2
        rcases hin r hr with h1 | h1
        · rw [er] at h1
          obtain ⟨r2, hr2, er2⟩ := List.mem_map.mp h1
          have := List.any_eq_false.mp ha r2 hr2
          exact this (by rw [er2]; exact beq_self_eq_true _)
        · rw [er] at h1
          have nd := hrs.nd
          rw [e, List.map_append] at nd
          exact (List.nodup_append.mp nd).2.2 _ h1 _ (by simp) rfl
      · rcases List.mem_append.mp hr with hr | hr
        · exact (hin r hr).imp id fun h => by rw [List.map_append]; exact List.mem_append_left _ h
        · simp at hr; rw [hr]; right; simp
    have wk : Wl l (600 + (pre ++ [x]).length) st4 := hw4.up (by simp; omega)
    have hlL : ls.length < LIM := Nat.lt_of_lt_of_le (show ls.length < 9 by have := hls.l6; omega) (lim_ge (by omega))
    refine ⟨fun h0 => ⟨fun ha => ⟨fun h6 => ⟨hlL, add _ _ _ _ _ _ _ _ _ _ _ h6 ha wk⟩, fun _ => keep _ _ _ _ _ _ _ _ _ _ _ wk⟩, fun ha => ⟨fun h => absurd h ha, fun _ => keep _ _ _ _ _ _ _ _ _ _ _ wk⟩⟩, fun h0 => ?_⟩
    exact ⟨fun h => absurd h h0, fun _ => keep _ _ _ _ _ _ _ _ _ _ _ wk⟩
  · rintro env st3 ⟨ls, s2, s5, s6, s7, s8, s9, s10, s11, s12, s13, rfl, hls, hin, hw3⟩
    rw [show rs.length = rs.length from rfl] at hw3
    have h6a := hrs.l6
    have h6b := hls.l6
    have e1 : ∀ st, bi .tuple st [.lst (rs.map encR)] = some (encL rs) := fun _ => rfl
    have e2 : ∀ st, bi .tuple st [.lst (ls.map encR)] = some (encL ls) := fun _ => rfl
    simp! only []
    refine (hd l _ 9 st3 hw3 (by omega) (by omega) (by omega)).mono ?_
    rintro _ st4 ⟨p, rfl, hp0, hp1, hw4⟩
    simp! only [e1, e2, L.made (p + 1) rs _ (by omega) (by omega) hrs, L.made 1 ls _ (by omega) (by omega) hls]
    refine (hv l _ rs ls st4 hw4 (by omega) (fun r hr => (List.mem_append.mp hr).elim (hrs.ok r) (hls.ok r)) hrs.l1 (by rw [List.length_append]; omega)).mono ?_
    rintro _ st5 ⟨vs, rfl, hvs, hvl, hw5⟩
    obtain ⟨r0, ek⟩ : ∃ r0 : Row, ∀ st, op2 .idx st (kindsD rs) (.int 0) = some (.str r0.nm) := by
      have h1 := hrs.l1
      cases rs with
      | nil => simp at h1
      | cons a b =>
        refine ⟨a, fun st => ?_⟩
        show atI _ 0 = _
        rw [List.map_cons, atI_zero]
    simp! only [L.kinds (p + 1) rs _ h6a, ek]
    refine ⟨lim_ge (by omega), ?_⟩
    have hall : ∀ v ∈ vs ++ [D.str r0.nm], VOk v := fun v hv => by
      rcases List.mem_append.mp hv with hv | hv
      · exact hvs v hv
      · simp at hv; rw [hv]; exact str_ok _
    refine forL_inv (fun pre env st' => ∃ (s2 s5 s6 s7 s10 s11 s12 s13 : Sl), env = [.v (.loc l), .v (.lst (rs2.map fun r => .str r.nm)), s2, .v (.lst (rs.map encR)), .v (.lst (ls.map encR)), s5, s6, s7, .v (objL c (p + 1) rs), .v (objL c 1 ls), s10, s11, s12, s13]) ⟨_, _, _, _, _, _, _, _, rfl⟩ ?_ ?_
    · rintro pre v post env st6 ev ⟨s2, s5, s6, s7, s10, s11, s12, s13, rfl⟩
      have hv : VOk v := hall v (by rw [ev]; simp)
      refine ⟨_, by simp! only []; rfl, ?_⟩
      have ei : ∀ st, isiV Γ st v .str = some (isStr v) := fun st => isi_val hv
      have em1 : ∀ st, op2 .mem st v (.lst (rs.map fun r => .str r.nm)) = some (.bl (inN v (rs.map (·.nm)))) := fun st => by
        have := mem_val (st := st) hv (rs.map (·.nm)) false
        rw [List.map_map] at this
        exact this
      have em2 : ∀ st, op2 .mem st v (.lst (ls.map fun r => .str r.nm)) = some (.bl (inN v (ls.map (·.nm)))) := fun st => by
        have := mem_val (st := st) hv (ls.map (·.nm)) false
        rw [List.map_map] at this
        exact this
      have er : ∀ a b : Bool, ∀ st, bi .repr st [.lst [.bl a, .bl b, .bl a]] = some (.str (reprD (.lst [.bl a, .bl b, .bl a]))) := fun a b st => repr_bls [a, b, a] (Nat.le_of_ble_eq_true rfl)
      have er1 : ∀ a : Bool, ∀ st, bi .repr st [.bl a] = some (.str (reprD (.bl a))) := fun a st => repr_eq (b := 60) rfl (.bl a) (by omega) (by cases a <;> rfl)
      by_cases hsv : isStr v = true
      · simp! only [ei, hsv]
        rw [comp_mapL (g := fun r => .str r.nm) rs (lim_ge (by omega)) fun r hr => by
          apply OP_eq
          simp! only [turnV_eq, idx_row0]]
        simp! only [em1, ei, hsv]
        rw [comp_mapL (g := fun r => .str r.nm) ls (lim_ge (by omega)) fun r hr => by
          apply OP_eq
          simp! only [turnV_eq, idx_row0]]
        simp! only [em2, ei, hsv, L.has v _ rs _ hv h6a, L.has v _ ls _ hv h6b, L.hasn v _ rs _ hv h6a, er, er1]
        exact ⟨_, _, _, _, _, _, _, _, rfl⟩
      · have hsf : isStr v = false := by simpa using hsv
        have z1 : inN v (rs.map (·.nm)) = false := by cases v <;> first | rfl | (cases hsf; done)
        have z2 : inN v (ls.map (·.nm)) = false := by cases v <;> first | rfl | (cases hsf; done)
        simp! only [ei, hsf, L.has v _ rs _ hv h6a, L.has v _ ls _ hv h6b, L.hasn v _ rs _ hv h6a, z1, z2, er, er1]
        exact ⟨_, _, _, _, _, _, _, _, rfl⟩
    · rintro env st6 ⟨s2, s5, s6, s7, s10, s11, s12, s13, rfl⟩
      simp! only []
end
end G
namespace G
instance decRow : DecidableEq Row := fun a b =>
  if h : a.nm = b.nm ∧ a.num = b.num ∧ a.sc = b.sc then .isTrue (by
    obtain ⟨x, y, z⟩ := a
    obtain ⟨x', y', z'⟩ := b
    obtain ⟨h1, h2, h3⟩ := h
    have h1 : x = x' := h1
    have h2 : y = y' := h2
    have h3 : z = z' := h3
    subst h1; subst h2; subst h3; rfl) else .isFalse fun e => h (by rw [e]; exact ⟨rfl, rfl, rfl⟩)
/-! ### equal texts, equal lists -/
theorem encR_inj {a b : Row} (h : encR a = encR b) : a = b := by
  obtain ⟨n1, a1, s1⟩ := a
  obtain ⟨n2, a2, s2⟩ := b
  unfold encR at h
  injection h with h
  injection h with e1 h
  injection h with e2 h
  injection h with e3 h
  injection e1 with e1
  injection e2 with e2
  injection e3 with e3
  subst e1 e2 e3
  rfl
theorem encRs_inj : ∀ {a b : List Row}, a.map encR = b.map encR → a = b
  | [], [], _ => rfl
  | [], _ :: _, h => by simp at h
  | _ :: _, [], h => by simp at h
  | x :: a, y :: b, h => by
    rw [List.map_cons, List.map_cons] at h
    injection h with h1 h2
    rw [encR_inj h1, encRs_inj h2]
theorem text_inj {f : Fd} (hf : SpRdList f) {p q : Int} {rs ss : List Row} (h1 : 1 ≤ p) (h2 : p ≤ 9) (h3 : 1 ≤ q) (h4 : q ≤ 9) (hr : RowsOk rs) (hs : RowsOk ss) : listText p rs = listText q ss ↔ p = q ∧ rs = ss := by
  refine ⟨fun h => ?_, fun ⟨e1, e2⟩ => by rw [e1, e2]⟩
  have a := hf p rs [] h1 h2 hr
  have b := hf q ss [] h3 h4 hs
  rw [h, b] at a
  injection a with a
  injection a with a
  injection a with a1 a2
  injection a1 with a1
  injection a2 with a2
  injection a2 with a2
  exact ⟨a1.symm, (encRs_inj a2).symm⟩
theorem pyEq_row {a b : Row} : pyEq (encR a) (encR b) = decide (a = b) := by
  obtain ⟨n1, a1, s1⟩ := a
  obtain ⟨n2, a2, s2⟩ := b
  simp only [encR, pyEq, pyEqs, Bool.and_true]
  have : (Row.mk n1 a1 s1 = Row.mk n2 a2 s2) ↔ (n1 = n2 ∧ a1 = a2 ∧ s1 = s2) := by simp
  have this2 : decide (Row.mk n1 a1 s1 = Row.mk n2 a2 s2) = decide (n1 = n2 ∧ a1 = a2 ∧ s1 = s2) := decide_eq_decide.mpr this
  rw [this2]
  by_cases e1 : n1 = n2 <;> by_cases e2 : a1 = a2 <;> by_cases e3 : s1 = s2 <;> simp [e1, e2, e3]
theorem pyEqs_rows : ∀ {a b : List Row}, pyEqs (a.map encR) (b.map encR) = decide (a = b)
  | [], [] => rfl
  | [], _ :: _ => by simp [pyEqs]
  | _ :: _, [] => by simp [pyEqs]
  | x :: a, y :: b => by
    rw [List.map_cons, List.map_cons]
    simp only [pyEqs, pyEq_row, pyEqs_rows]
    by_cases e1 : x = y <;> by_cases e2 : a = b <;> simp [e1, e2]
theorem eq_encL {st : Store} {a b : List Row} : op2 .eq st (encL a) (encL b) = some (.bl (decide (a = b))) := by
  show (if (okEqs 63 (a.map encR) && okEqs 63 (b.map encR)) = true then some (D.bl (pyEqs (a.map encR) (b.map encR))) else none) = _
  rw [okEqs_rows, okEqs_rows, pyEqs_rows]
  rfl
section
variable {Γ : Ctx} {c : Nat} {K : Cl}
def SpEqL (c : Nat) (f : Fd) : Prop := ∀ (p q : Int) (rs ss : List Row) (st : Store), f [objL c p rs, objL c q ss] st = .ok (.bl (decide (p = q ∧ rs = ss))) st
def SpEqO (Γ : Ctx) (c : Nat) (f : Fd) : Prop := ∀ (p : Int) (rs : List Row) (y : D) (st : Store), isiV Γ st y (.own c) = some false → f [objL c p rs, y] st = .ok (.bl false) st
theorem isi_objL (L : LC Γ c K) {p : Int} {rs : List Row} {st : Store} : isiV Γ st (objL c p rs) (.own c) = some true := by
  show (if (Γ.cls c).isSome = true then some ((Ty.own c).isOwn c) else none) = _
  rw [L.at_]
  simp [Ty.isOwn]
theorem sp_eqL (L : LC Γ c K) : SpEqL c (runF 2 2 (m_List_eq Γ c)) := by
  intro p q rs ss st
  apply OP_eq
  refine OP_run rfl ?_
  delta m_List_eq
  by_cases e : p = q
  · by_cases e2 : rs = ss
    · simp! only [isi_objL L, L.stake, L.lines, eq_encL, e, e2, decide_true, and_self]
    · simp! only [isi_objL L, L.stake, L.lines, eq_encL, e, e2, decide_true, decide_false, and_false]
  · simp! only [isi_objL L, L.stake, L.lines, eq_encL, e, decide_false, false_and]
theorem sp_eqO (L : LC Γ c K) : SpEqO Γ c (runF 2 2 (m_List_eq Γ c)) := by
  intro p rs y st h
  apply OP_eq
  refine OP_run rfl ?_
  delta m_List_eq
  simp! only [h]
theorem LC.eqV (L : LC Γ c K) {g : Nat} {p : Int} {rs : List Row} {y : D} {neg b : Bool} {st : Store} (hm : K.meths.lookup n_eq = some g) (hy : isiV Γ st y (.own c) = some false ∨ (objv st y).map (·.1) = some c) (hg : Γ.call g [objL c p rs, y] st = .ok (.bl b) st) : eqOV Γ c neg (objL c p rs) y st = .ok (.bl (b != neg)) st := by
  unfold eqOV
  have e1 : objv st (objL c p rs) = some (c, [.int p, encL rs]) := rfl
  have e2 : ((Γ.cls c).bind fun k => k.meths.lookup n_eq) = some g := by rw [L.at_]; exact hm
  simp only [e1, e2, if_true, if_pos hy]
  rw [hg]
  rfl
structure LS5 (Γ : Ctx) (c : Nat) : Prop extends LS2 Γ c where
  eqL : ∀ (neg : Bool) (p q : Int) (rs ss : List Row) (st : Store), eqOV Γ c neg (objL c p rs) (objL c q ss) st = .ok (.bl (decide (p = q ∧ rs = ss) != neg)) st
  eqO : ∀ (neg : Bool) (p : Int) (rs : List Row) (y : D) (st : Store), isiV Γ st y (.own c) = some false → eqOV Γ c neg (objL c p rs) y st = .ok (.bl neg) st
/-! ### rows changed -/
theorem rows_perm {rs ss : List Row} (h : RowsOk rs) (p : ss.Perm rs) : RowsOk ss :=
  ⟨by rw [p.length_eq]; exact h.l1, by rw [p.length_eq]; exact h.l6, fun r hr => h.ok r (p.mem_iff.mp hr), (p.map _).nodup_iff.mpr h.nd⟩
theorem split_at {rs : List Row} {i : Nat} {r : Row} (h : rs[i]? = some r) : rs = rs.take i ++ r :: rs.drop (i + 1) := by
  obtain ⟨h1, h2⟩ := List.getElem?_eq_some_iff.mp h
  have := List.take_append_drop i rs
  rw [List.drop_eq_getElem_cons h1, h2] at this
  exact this.symm
theorem set_at2 {rs : List Row} {i : Nat} {r x : Row} (h : rs[i]? = some r) : rs.set i x = rs.take i ++ x :: rs.drop (i + 1) := by
  have hi := (List.getElem?_eq_some_iff.mp h).1
  rw [List.set_eq_take_append_cons_drop, if_pos hi]
theorem rows_set {rs : List Row} {i : Nat} {r x : Row} (h : RowsOk rs) (hi : rs[i]? = some r) (hx : RowOk x) (hn : x.nm = r.nm ∨ ∀ y ∈ rs, y.nm ≠ x.nm) : RowsOk (rs.set i x) := by
  refine ⟨by rw [List.length_set]; exact h.l1, by rw [List.length_set]; exact h.l6, fun y hy => ?_, ?_⟩
  · rcases List.mem_or_eq_of_mem_set hy with hy | hy
    · exact h.ok y hy
    · rw [hy]; exact hx
  · have nd := h.nd
    rw [set_at2 hi]
    rw [split_at hi] at nd
    rw [List.map_append, List.map_cons] at nd ⊢
    rcases hn with hn | hn
    · rw [hn]; exact nd
    · have p1 := (List.perm_middle (a := r.nm) (l₁ := (rs.take i).map (·.nm)) (l₂ := (rs.drop (i + 1)).map (·.nm))).nodup_iff.mp nd
      refine (List.perm_middle (a := x.nm) (l₁ := (rs.take i).map (·.nm)) (l₂ := (rs.drop (i + 1)).map (·.nm))).nodup_iff.mpr (List.nodup_cons.mpr ⟨fun hm => ?_, (List.nodup_cons.mp p1).2⟩)
      rw [← List.map_append] at hm
      obtain ⟨y, hy, e⟩ := List.mem_map.mp hm
      refine hn y ?_ e
      rcases List.mem_append.mp hy with hy | hy
      · exact List.mem_of_mem_take hy
      · exact List.mem_of_mem_drop hy
theorem rows_swap {rs : List Row} {i : Nat} {r r0 : Row} (h : RowsOk rs) (hi : rs[i]? = some r) (h0 : rs[0]? = some r0) : RowsOk ((rs.set i r0).set 0 r) := by
  refine rows_perm h ?_
  cases rs with
  | nil => cases h0
  | cons a t =>
    have e0 : a = r0 := by simpa using h0
    subst e0
    cases i with
    | zero =>
      have e1 : a = r := by simpa using hi
      subst e1
      exact List.Perm.refl _
    | succ i =>
      have hi' : t[i]? = some r := by simpa using hi
      show (r :: t.set i a).Perm (a :: t)
      rw [set_at2 hi']
      conv => rhs; rw [split_at hi']
      refine ((List.perm_middle (a := a) (l₁ := t.take i) (l₂ := t.drop (i + 1))).cons r).trans ?_
      exact (List.Perm.swap a r _).trans ((List.perm_middle (a := r) (l₁ := t.take i) (l₂ := t.drop (i + 1))).symm.cons a)
theorem rows_ins {rs : List Row} {i : Nat} {x : Row} (h : RowsOk rs) (h5 : rs.length ≤ 5) (hx : RowOk x) (hn : ∀ y ∈ rs, y.nm ≠ x.nm) : RowsOk (rs.take i ++ x :: rs.drop i) := by
  have p : (rs.take i ++ x :: rs.drop i).Perm (x :: rs) := by
    have := List.perm_middle (a := x) (l₁ := rs.take i) (l₂ := rs.drop i)
    rwa [List.take_append_drop] at this
  refine ⟨by rw [p.length_eq]; simp, by rw [p.length_eq]; simp; omega, fun r hr => ?_, (p.map _).nodup_iff.mpr ?_⟩
  · rcases List.mem_cons.mp (p.mem_iff.mp hr) with e | hr
    · rw [e]; exact hx
    · exact h.ok r hr
  · rw [List.map_cons]
    refine List.nodup_cons.mpr ⟨fun hm => ?_, h.nd⟩
    obtain ⟨y, hy, e⟩ := List.mem_map.mp hm
    exact hn y hy e
theorem rows_del {rs : List Row} {i : Nat} (h : RowsOk rs) (h2 : 1 < rs.length) (hi : i < rs.length) : RowsOk (rs.take i ++ rs.drop (i + 1)) := by
  have s : (rs.take i ++ rs.drop (i + 1)).Sublist rs := by
    have := List.Sublist.append (List.Sublist.refl (rs.take i)) (List.drop_sublist_drop_left rs (Nat.le_succ i))
    rwa [List.take_append_drop] at this
  refine ⟨?_, Nat.le_trans s.length_le h.l6, fun r hr => h.ok r (s.subset hr), h.nd.sublist (s.map _)⟩
  rw [List.length_append, List.length_take, List.length_drop]
  omega
end
section
variable {Γ : Ctx} {fd fn fe : Fd}
/-- what a changed list is -/
def ChQ (l n : Nat) (r : D) (st' : Store) : Prop := ∃ (q : Int) (ss : List Row), r = .lst [.int q, .lst (ss.map encR)] ∧ 1 ≤ q ∧ q ≤ 9 ∧ RowsOk ss ∧ Wl l n st'
def chRest (fd fn fe : Fd) : StS := seqS (ifS (opE .eq (vE 3) (kE (.int 0))) (frzS 4 (seqS (retS (lstE [opE .add (kE (.int 1)) (callE fd [vE 0, kE (.int 9)]), vE 4])) (passS))) (passS)) (seqS (ifS (opE .eq (vE 3) (kE (.int 1))) (seqS (tgS (osubR 4 (vE 5)) (tupE [vE 6, opE .idx (opE .idx (vE 2) (vE 5)) (kE (.int 1)), opE .idx (opE .idx (vE 2) (vE 5)) (kE (.int 2))])) (passS)) (seqS (ifS (opE .eq (vE 3) (kE (.int 2))) (seqS (tgS (osubR 4 (vE 5)) (tupE [opE .idx (opE .idx (vE 2) (vE 5)) (kE (.int 0)), callE fn [vE 0], opE .idx (opE .idx (vE 2) (vE 5)) (kE (.int 2))])) (passS)) (seqS (ifS (opE .eq (vE 3) (kE (.int 3))) (seqS (tgS (osubR 4 (vE 5)) (tupE [opE .idx (opE .idx (vE 2) (vE 5)) (kE (.int 0)), opE .idx (opE .idx (vE 2) (vE 5)) (kE (.int 1)), callE fe [vE 0]])) (passS)) (seqS (ifS (opE .eq (vE 3) (kE (.int 4))) (seqS (asgnS [osubR 4 (vE 5), osubR 4 (kE (.int 0))] [opE .idx (pkE 4) (kE (.int 0)), opE .idx (pkE 4) (vE 5)]) (passS)) (seqS (ifS (Sem.bop true [opE .eq (vE 3) (kE (.int 5)), opE .ne (vE 6) (opE .idx (opE .idx (vE 2) (vE 5)) (kE (.int 0)))]) (seqS (insS 4 (callE fd [vE 0, opE .add (biE .len [pkE 4]) (kE (.int 1))]) (tupE [vE 6, callE fn [vE 0], callE fe [vE 0]])) (passS)) (seqS (ifS (Sem.bop true [opE .eq (vE 3) (kE (.int 6)), opE .gt (biE .len [pkE 4]) (kE (.int 1))]) (seqS (ownS 4 (lsE (opE .add (slE (pkE 4) [] [vE 5]) (slE (pkE 4) [opE .add (vE 5) (kE (.int 1))] [])))) (passS)) (passS)) (passS))) (passS))) (passS))) (passS))) (passS))) (frzS 4 (seqS (retS (lstE [vE 1, vE 4])) (passS))))
theorem ix_row {rs : List Row} {a : Int} (h0 : 0 ≤ a) (h1 : a < rs.length) : ∃ r, rs[a.toNat]? = some r ∧ atI (rs.map encR) a = some (encR r) := by
  obtain ⟨k, rfl⟩ : ∃ k : Nat, a = (k : Int) := ⟨a.toNat, by omega⟩
  have h2 : k < rs.length := by omega
  refine ⟨rs[k], by simp only [Int.toNat_natCast]; exact List.getElem?_eq_getElem h2, ?_⟩
  rw [atI_nat, List.getElem?_map, List.getElem?_eq_getElem h2]
  rfl
theorem ixN_of {n : Nat} {a : Int} (h0 : 0 ≤ a) (h1 : a < n) : ixN n a = some a.toNat := by
  unfold ixN
  rw [if_pos h0, if_pos h1]
theorem set_enc {rs : List Row} {i : Nat} {x : Row} : (rs.map encR).set i (encR x) = (rs.set i x).map encR := by rw [List.map_set]
theorem ins_enc {rs : List Row} {i : Nat} {x : Row} : (rs.map encR).take i ++ encR x :: (rs.map encR).drop i = (rs.take i ++ x :: rs.drop i).map encR := by
  rw [List.map_append, List.map_cons, List.map_take, List.map_drop]
theorem cut_pre {α : Type} {xs : List α} {a : Int} (h0 : 0 ≤ a) (h1 : a ≤ xs.length) : cut xs none (some a) = xs.take a.toNat := by
  unfold cut clip
  have e : ¬ a < 0 := by omega
  have e2 : min a (xs.length : Int) = a := by omega
  simp [e, e2]
theorem cut_suf {α : Type} {xs : List α} {a : Int} (h0 : 0 ≤ a) (h1 : a ≤ xs.length) : cut xs (some a) none = xs.drop a.toNat := by
  unfold cut clip
  have e : ¬ a < 0 := by omega
  have e2 : min a (xs.length : Int) = a := by omega
  simp only [e, e2, if_false]
  exact List.take_of_length_le (by rw [List.length_drop]; omega)
theorem sp_chrest (hd : SpDip fd) (hn : SpRange fn 3 1 (10 ^ 30)) (he : SpRange fe 3 0 (10 ^ 33)) {l n : Nat} {p a f : Int} {rs : List Row} {r : Row} {u : List Nat} {st : Store} {s7 : Sl} (hw : Wl l n st) (hn0 : n + 10 ≤ 1000000000) (hp : 1 ≤ p) (hp2 : p ≤ 9) (hrs : RowsOk rs) (h5 : rs.length ≤ 5)
    (ha0 : 0 ≤ a) (ha1 : a < rs.length) (hr : rs[a.toNat]? = some r) (hu : u = r.nm ∨ ∀ y ∈ rs, y.nm ≠ u) (hun : isNameS u = true) :
    @RP ⟨fun _ st => ChQ l (n + 10) .non st, ChQ l (n + 10), fun _ _ => False, fun _ _ => False⟩ (chRest fd fn fe [.v (.loc l), .v (.int p), .v (.lst (rs.map encR)), .v (.int f), .own (rs.map encR), .v (.int a), .v (.str u), s7] st) := by
  have hro := hrs.ok r (List.mem_of_getElem? hr)
  obtain ⟨r', hr', er⟩ := ix_row ha0 ha1
  rw [hr] at hr'
  cases hr'
  obtain ⟨r0, h0', er0⟩ := ix_row (rs := rs) (a := 0) (by omega) (by have := hrs.l1; omega)
  have h0 : rs[0]? = some r0 := h0'
  have ei0 : ∀ st, op2 .idx st (encR r) (.int 0) = some (.str r.nm) := fun _ => rfl
  have ei1 : ∀ st, op2 .idx st (encR r) (.int 1) = some (.int r.num) := fun _ => rfl
  have ei2 : ∀ st, op2 .idx st (encR r) (.int 2) = some (.int r.sc) := fun _ => rfl
  have hixa : ixN (rs.map encR).length a = some a.toNat := by rw [List.length_map]; exact ixN_of ha0 ha1
  have hix0 : ∀ xs : List D, xs.length = rs.length → ixN xs.length 0 = some 0 := fun xs hx => by rw [hx]; exact ixN_of (a := 0) (by omega) (by have := hrs.l1; omega)
  have l6 := hrs.l6
  have done : ∀ (ss : List Row) (st' : Store), RowsOk ss → Wl l (n + 10) st' → ChQ l (n + 10) (.lst [.int p, .lst (ss.map encR)]) st' := fun ss st' h h2 => ⟨p, ss, rfl, hp, hp2, h, h2⟩
  delta chRest
  try simp! only []
  refine ⟨fun hf => ?_, fun hf => ?_⟩
  · refine (hd l _ 9 st hw (by omega) (by omega) (by omega)).mono ?_
    rintro _ st1 ⟨k, rfl, hk0, hk1, hw1⟩
    try simp! only []
    exact ⟨1 + k, rs, rfl, by omega, by omega, hrs, hw1.up (by omega)⟩
  refine ⟨fun hf => ?_, fun hf => ?_⟩
  · simp! only [er, ei1, ei2, hixa]
    have := done (rs.set a.toNat ⟨u, r.num, r.sc⟩) st (rows_set hrs hr ⟨hun, hro.n1, hro.n2, hro.s1, hro.s2⟩ hu) (hw.up (by omega))
    rw [← set_enc] at this
    exact this
  refine ⟨fun hf => ?_, fun hf => ?_⟩
  · simp! only [er, ei0, ei2]
    refine (hn l _ st hw (by omega)).mono ?_
    rintro _ st1 ⟨k, rfl, hk0, hk1, hw1⟩
    simp! only [er, ei2, hixa]
    have := done (rs.set a.toNat ⟨r.nm, k, r.sc⟩) st1 (rows_set hrs hr ⟨hro.nm, hk0, hk1, hro.s1, hro.s2⟩ (.inl rfl)) (hw1.up (by omega))
    rw [← set_enc] at this
    exact this
  refine ⟨fun hf => ?_, fun hf => ?_⟩
  · simp! only [er, ei0, ei1]
    refine (he l _ st hw (by omega)).mono ?_
    rintro _ st1 ⟨k, rfl, hk0, hk1, hw1⟩
    simp! only [hixa]
    have := done (rs.set a.toNat ⟨r.nm, r.num, k⟩) st1 (rows_set hrs hr ⟨hro.nm, hro.n1, hro.n2, hk0, hk1⟩ (.inl rfl)) (hw1.up (by omega))
    rw [← set_enc] at this
    exact this
  refine ⟨fun hf => ?_, fun hf => ?_⟩
  · simp! only [er0, er, hixa, hix0 ((rs.map encR).set a.toNat (encR r0)) (by rw [List.length_set, List.length_map])]
    have := done ((rs.set a.toNat r0).set 0 r) st (rows_swap hrs hr h0) (hw.up (by omega))
    rw [← set_enc, ← set_enc] at this
    exact this
  by_cases f5 : f = 5
  · subst f5
    by_cases hne : u = r.nm
    · simp! only [er, ei0, hne, decide_true, List.length_map]
      exact done rs st hrs (hw.up (by omega))
    · have hu2 : ∀ y ∈ rs, y.nm ≠ u := hu.resolve_left hne
      simp! only [er, ei0, hne, decide_false, List.length_map]
      refine (hd l _ (rs.length + 1) st hw (by omega) (by omega) (by omega)).mono ?_
      rintro _ st1 ⟨k, rfl, hk0, hk1, hw1⟩
      try simp! only []
      refine (hn l _ st1 hw1 (by omega)).mono ?_
      rintro _ st2 ⟨b, rfl, hb0, hb1, hw2⟩
      try simp! only []
      refine (he l _ st2 hw2 (by omega)).mono ?_
      rintro _ st3 ⟨d, rfl, hd0, hd1, hw3⟩
      simp! only [List.length_map]
      refine ⟨⟨hk0, by omega, Nat.lt_of_le_of_lt l6 (Nat.lt_of_lt_of_le (by omega) (lim_ge (k := 7) (by omega)))⟩, ?_⟩
      have := done (rs.take k.toNat ++ ⟨u, b, d⟩ :: rs.drop k.toNat) st3 (rows_ins hrs h5 ⟨hun, hb0, hb1, hd0, hd1⟩ hu2) (hw3.up (by omega))
      rw [← ins_enc] at this
      exact this
  by_cases f6 : f = 6
  · subst f6
    by_cases h1 : (1 : Int) < rs.length
    · simp! only [er, ei0, List.length_map, h1, decide_true, cut_pre (xs := rs.map encR) ha0 (by rw [List.length_map]; omega), cut_suf (xs := rs.map encR) (a := a + 1) (by omega) (by rw [List.length_map]; omega)]
      refine ⟨lim_ge (by rw [List.length_take, List.length_drop, List.length_map]; omega), ?_⟩
      have e1 : (a + 1).toNat = a.toNat + 1 := by omega
      have := done (rs.take a.toNat ++ rs.drop (a.toNat + 1)) st (rows_del hrs (by omega) (by omega)) (hw.up (by omega))
      rw [List.map_append, List.map_take, List.map_drop] at this
      rw [e1]
      exact this
    · simp! only [er, ei0, List.length_map, h1, decide_false]
      exact done rs st hrs (hw.up (by omega))
  · simp! only [f5, f6, decide_false]
    exact done rs st hrs (hw.up (by omega))
def SpChanged (f : Fd) : Prop := ∀ (l n : Nat) (p : Int) (rs : List Row) (st : Store), Wl l n st → n + 20 ≤ 1000000000 → 1 ≤ p → p ≤ 9 → RowsOk rs → rs.length ≤ 5 → OP (ChQ l (n + 13)) (f [.loc l, .int p, .lst (rs.map encR)] st)
theorem q_name {k : Int} (h : 0 ≤ k) (h2 : k < 1000) : isNameS (113 :: intStr k) = true := by
  refine mk_name (by decide) (List.all_eq_true.mpr fun c hc => ?_) ?_
  · unfold isSign
    rw [digS_dig (intStr_dig h c hc), Bool.or_true]
  · rw [intStr_pos h]
    have := natStr_len' 2 k.toNat (by omega)
    omega
theorem sp_changed (hd : SpDip fd) (hn : SpRange fn 3 1 (10 ^ 30)) (he : SpRange fe 3 0 (10 ^ 33)) : SpChanged (runF 3 8 (m_changed Γ fd fn fe)) := by
  intro l n p rs st hw hn0 hp1 hp9 hrs h5
  have l1 := hrs.l1
  have l6 := hrs.l6
  refine OP_run rfl ?_
  delta m_changed
  show @RP ⟨_, _, _, _⟩ (seqS _ (seqS _ (seqS _ (chRest fd fn fe))) _ _)
  generalize hC : chRest fd fn fe = C
  simp! only [List.length_map]
  refine (hd l _ 7 st hw (by omega) (by omega) (by omega)).mono ?_
  rintro _ st1 ⟨f, rfl, hf0, hf1, hw1⟩
  simp! only [List.length_map]
  refine (hd l _ rs.length st1 hw1 (by omega) (by omega) (by omega)).mono ?_
  rintro _ st2 ⟨a, rfl, ha0, ha1, hw2⟩
  try simp! only []
  refine (hd l _ 1000 st2 hw2 (by omega) (by omega) (by omega)).mono ?_
  rintro _ st3 ⟨q, rfl, hq0, hq1, hw3⟩
  have hql := intStr_len40 hq0 (by omega)
  try simp! only []
  refine ⟨small_str (by omega) (by omega), lim_ge (by omega), ?_⟩
  obtain ⟨r, hr, er⟩ := ix_row ha0 ha1
  have ei0 : ∀ st, op2 .idx st (encR r) (.int 0) = some (.str r.nm) := fun _ => rfl
  rw [comp_mapL (g := fun r => .str r.nm) rs (lim_ge (by omega)) fun r hr => by
    apply OP_eq
    simp! only [turnV_eq, idx_row0]]
  have em : ∀ st, op2 .mem st (.str (113 :: intStr q)) (.lst (rs.map fun r => D.str r.nm)) = some (.bl (rs.any fun r => r.nm == 113 :: intStr q)) := fun st => mem_strs
  simp! only [em]
  subst hC
  refine ⟨fun hm => ?_, fun hm => ?_⟩
  · simp! only [er, ei0]
    exact sp_chrest hd hn he hw3 (by omega) hp1 hp9 hrs h5 ha0 ha1 hr (.inl rfl) (hrs.ok r (List.mem_of_getElem? hr)).nm
  · refine sp_chrest hd hn he hw3 (by omega) hp1 hp9 hrs h5 ha0 ha1 hr (.inr fun y hy e => hm ?_) (q_name hq0 hq1)
    exact List.any_eq_true.mpr ⟨y, hy, by rw [e]; exact beq_self_eq_true _⟩
end
section
variable {Γ : Ctx} {c cS : Nat} {K KS : Cl} {fd fr ft frd fal fch f0 : Fd}
/-- the law's own text of a list of rows -/
def SpTextL (f : Fd) : Prop := ∀ p rs st, 1 ≤ p → p ≤ 9 → RowsOk rs → f [.int p, .lst (rs.map encR)] st = .ok (.str (listText p rs)) st
theorem sp_textl : SpTextL (runF 2 6 (m_text Γ)) := by
  intro p rs st h1 h2 h
  have h6 := h.l6
  have hh := head_len h1 h2
  have e3 : p.natAbs < 2 ^ 1900 := small_str (by omega) (by omega)
  have hi := intStr_len40 (i := p) (by omega) (by omega)
  apply OP_eq
  refine OP_run rfl ?_
  delta m_text
  simp! only [e3]
  refine ⟨lim_ge (by omega), ?_⟩
  refine forL_invL (enc := encR) (fun pre env st' => ∃ a b c, env = [.v (.int p), .v (.lst (rs.map encR)), .own (.str (headText p) :: pre.map fun r => .str (rowText r)), a, b, c] ∧ st' = st) ⟨_, _, _, rfl, rfl⟩ ?_ ?_
  · rintro pre r post env st' e ⟨a, b, c, rfl, rfl⟩
    have hr : r ∈ rs := by rw [e]; simp
    have hk := h.ok r hr
    have hn := hk.n1
    have hn2 := hk.n2
    have hs := hk.s1
    have hs2 := hk.s2
    have hl := rowText_len hk
    unfold rowText at hl
    simp only [List.length_append, List.length_cons] at hl
    have hp : pre.length < 6 := by
      have := congrArg List.length e
      simp at this
      omega
    have e1 : r.num.natAbs < 2 ^ 1900 := small_str (by omega) (by omega)
    have e2 : r.sc.natAbs < 2 ^ 1900 := small_str (by omega) (by omega)
    refine ⟨_, by simp! only [encR]; rfl, ?_⟩
    simp! only [e1, e2]
    simp only [List.length_append, List.length_cons, List.length_nil, List.length_map]
    refine ⟨lim_ge (by omega), lim_ge (by omega), lim_ge (by omega), lim_ge (by omega), Nat.lt_of_lt_of_le (show pre.length + 1 < 8 by omega) (lim_ge (by omega)), _, _, _, by simp only [rowText, List.map_append, List.map_cons, List.map_nil, List.append_assoc, List.cons_append, List.nil_append]; exact rfl⟩
  · rintro env st' ⟨a, b, c, rfl, rfl⟩
    have := join_list (st := st') h1 h2 h
    simp! only [this]
/-! ### alike -/
def SpAlike (c : Nat) (f : Fd) : Prop := ∀ (p q : Int) (rs ss : List Row) (st : Store), 1 ≤ p → p ≤ 9 → 1 ≤ q → q ≤ 9 → RowsOk rs → RowsOk ss → f [objL c p rs, objL c q ss] st = .ok (.bl true) st
theorem sp_alike5 (L : LS5 Γ c) (hrd : SpRdList frd) : SpAlike c (runF 2 3 (m_alike Γ c)) := by
  intro p q rs ss st h1 h2 h3 h4 hr hs
  apply OP_eq
  refine OP_run rfl ?_
  delta m_alike
  generalize hb : decide (listText p rs = listText q ss) = b
  have e1 : decide (p = q ∧ rs = ss) = b := by rw [← hb]; exact decide_eq_decide.mpr (text_inj hrd h1 h2 h3 h4 hr hs).symm
  have e2 : decide (q = p ∧ ss = rs) = b := by rw [← e1]; exact decide_eq_decide.mpr ⟨fun ⟨a, b⟩ => ⟨a.symm, b.symm⟩, fun ⟨a, b⟩ => ⟨a.symm, b.symm⟩⟩
  have f1 : ∀ st, eqOV Γ c false (objL c p rs) (objL c q ss) st = .ok (.bl b) st := fun st => by rw [L.eqL, e1]; cases b <;> rfl
  have f2 : ∀ st, eqOV Γ c false (objL c q ss) (objL c p rs) st = .ok (.bl b) st := fun st => by rw [L.eqL, e2]; cases b <;> rfl
  have f3 : ∀ st, eqOV Γ c true (objL c p rs) (objL c q ss) st = .ok (.bl (!b)) st := fun st => by rw [L.eqL, e1]; cases b <;> rfl
  have f4 : ∀ st, eqOV Γ c true (objL c q ss) (objL c p rs) st = .ok (.bl (!b)) st := fun st => by rw [L.eqL, e2]; cases b <;> rfl
  have rp : ∀ st, bi .repr st [.lst [.bl b, .bl b, .bl (!b), .bl (!b)]] = some (.str (reprD (.lst [.bl b, .bl b, .bl (!b), .bl (!b)]))) := fun st => repr_bls [b, b, !b, !b] (by simp)
  simp! only [L.str p rs _ h1 h2 hr, L.str q ss _ h3 h4 hs, hb, f1, f2, f3, f4, rp, decide_true]
/-! ### the class Season, without matches left -/
structure SC (Γ : Ctx) (c : Nat) (K : Cl) : Prop where
  at_ : Γ.cls c = some K
  flds : K.fields = [6, 7, 8]
  frz : K.frozen = true
theorem SC.fld (L : SC Γ c K) {f : Nm} (hf : f = 6 ∨ f = 7 ∨ f = 8) : isFld Γ c f = true := by
  unfold isFld
  rw [L.at_]
  show K.fields.contains f = true
  rw [L.flds]
  rcases hf with rfl | rfl | rfl <;> rfl
def SpNoLeft (f : Fd) : Prop := ∀ (ds : List D) (st : Store), f [.tup [], .lst ds] st = .ok .non st
theorem sp_noleft : SpNoLeft (runF 2 5 (m_wrong_left Γ f0)) := by
  intro ds st
  apply OP_eq
  refine OP_run rfl ?_
  delta m_wrong_left
  have e : enumD [] = [] := rfl
  simp! only [e, forL]
def objS (c : Nat) (p : Int) (rs : List Row) : D := .obj c [.int p, encL rs, .tup []]
def SpSInit (c : Nat) (f : Fd) : Prop := ∀ p rs l st, 1 ≤ p → p ≤ 9 → RowsOk rs → st[l]? = some (.ins c []) → f [.loc l, .int p, encL rs, .tup []] st = .ok .non (st.set l (.ins c [(6, .int p), (7, encL rs), (8, .tup [])]))
theorem sp_sinit {fp fc fw : Fd} {x : Nat} (L : SC Γ c K) (hp : SpChkPts fp) (hc : SpChkRows fc) (hw : SpNoLeft fw) : SpSInit c (runF 4 7 (m_Season_init Γ fp fc x fw)) := by
  intro p rs l st h1 h2 h hl
  have hlt := (List.getElem?_eq_some_iff.mp hl).1
  have l6 := h.l6
  apply OP_eq
  refine OP_run rfl ?_
  delta m_Season_init encL
  simp! only [hp p _ h1 h2, hc rs _ h]
  rw [comp_mapL (g := fun r => .str r.nm) rs (lim_ge (by omega)) fun r hr => by
    apply OP_eq
    simp! only [turnV_eq, idx_row0]]
  have hw2 : ∀ ds st, fw [.tup [], .lst ds] st = .ok .non st := hw
  simp! only [hw2]
  simp! only [fldV_loc hl (rfl : ltLoc l (.int p) = true) (by decide) (L.fld (f := 6) (.inl rfl))]
  simp! only [fldV_loc (set_at hl) (show ltLoc l (.tup (rs.map encR)) = true from lt_rows rs) (show (putF 6 (D.int p) []).length < 100 by simp [putF]) (L.fld (.inr (.inl rfl))), List.set_set]
  simp! only [fldV_loc (set_at hl) (show ltLoc l (.tup []) = true from rfl) (show (putF 7 (D.tup (rs.map encR)) (putF 6 (D.int p) [])).length < 100 by simp [putF]) (L.fld (.inr (.inr rfl))), List.set_set]
  rfl
theorem mk_season (L : SC Γ c K) (hi : SpSInit c (Γ.call K.init)) {p : Int} {rs : List Row} {st : Store} (h1 : 1 ≤ p) (h2 : p ≤ 9) (h : RowsOk rs) : mkObj Γ c [.int p, encL rs, .tup []] st = .ok (objS c p rs) st := by
  unfold mkObj
  rw [L.at_]
  have e := hi p rs st.length (st ++ [.ins c []]) h1 h2 h (by simp)
  simp only
  rw [e]
  have e2 : (st ++ [Obj.ins c []]).set st.length (Obj.ins c [(6, .int p), (7, encL rs), (8, .tup [])]) = st ++ [Obj.ins c [(6, .int p), (7, encL rs), (8, .tup [])]] := by simp
  rw [e2, L.frz]
  simp [L.flds, objS]
/-! ### k05 -/
theorem sp_right5 (hd : SpDip fd) (hr : SpRows fr) (L : LS5 Γ c) (ht : SpTextL ft) (hrd : SpRead c frd) (hal : SpAlike c fal) (hch : SpChanged fch) (hS : ∀ (p : Int) (rs : List Row) (st : Store), 1 ≤ p → p ≤ 9 → RowsOk rs → mkObj Γ cS [.int p, encL rs, .tup []] st = .ok (objS cS p rs) st) (hSi : ∀ (p : Int) (rs : List Row) (st : Store), isiV Γ st (objS cS p rs) (.own c) = some false) :
    SpRight (runF 1 13 (m_right_k05 Γ fd fr c ft frd fal fch cS)) := by
  intro l st hw
  refine OP_run rfl ?_
  delta m_right_k05
  try simp! only []
  refine (hd l _ 9 st hw (by omega) (by omega) (by omega)).mono ?_
  rintro _ st1 ⟨i, rfl, hi0, hi1, hw1⟩
  try simp! only []
  refine (hr l _ 5 st1 hw1 (by omega) (by omega) (by omega)).mono ?_
  rintro _ st2 ⟨rs, rfl, hrs, hl5, hw2⟩
  have l6 := hrs.l6
  have hp1 : 1 ≤ 1 + i := by omega
  have hp9 : 1 + i ≤ 9 := by omega
  generalize 1 + i = p at hp1 hp9 ⊢
  have e1 : ∀ st, bi .tuple st [.lst (rs.map encR)] = some (encL rs) := fun _ => rfl
  simp! only [e1, L.made p rs _ hp1 hp9 hrs, ht p rs _ hp1 hp9 hrs, hrd p rs _ hp1 hp9 hrs]
  have rT : ∀ st, bi .repr st [.bl true] = some (.str [84, 114, 117, 101]) := fun st => by
    rw [repr_eq (b := 60) rfl (.bl true) (by omega) rfl]
    rfl
  have eT : ∀ st, eqOV Γ c false (objL c p rs) (objL c p rs) st = .ok (.bl true) st := fun st => by rw [L.eqL]; simp
  refine forL_inv (fun _ env st' => ∃ s2 s3 s4 s5 s10 s11 s12, env = [.v (.loc l), .v (objL c p rs), s2, s3, s4, s5, .v (.int p), .v (.lst (rs.map encR)), .v (objL c p rs), .v (objL c p rs), s10, s11, s12] ∧ st' = st2) ⟨_, _, _, _, _, _, _, rfl, rfl⟩ ?_ ?_
  · rintro pre x post env st' e ⟨s2, s3, s4, s5, s10, s11, s12, rfl, rfl⟩
    have hx : x = objL c p rs := by
      have hm : x ∈ [objL c p rs, objL c p rs, objL c p rs] := by rw [e]; simp
      simpa using hm
    subst hx
    refine ⟨_, by simp! only []; rfl, ?_⟩
    simp! only [L.str p rs _ hp1 hp9 hrs, ht p rs _ hp1 hp9 hrs, hrd p rs _ hp1 hp9 hrs, hal p p rs rs _ hp1 hp9 hp1 hp9 hrs hrs, eT, rT, decide_true]
    exact ⟨_, _, _, _, _, _, _, rfl⟩
  · rintro env st' ⟨s2, s3, s4, s5, s10, s11, s12, rfl, rfl⟩
    try simp! only []
    refine ⟨⟨by unfold LIM; omega, by unfold LIM; omega⟩, ?_⟩
    rw [range0]
    refine forL_invL (fun (pre : List Nat) env st' => ∃ s2 s3 s4 s5 s10 s11 s12, env = [.v (.loc l), .v (objL c p rs), s2, s3, s4, s5, .v (.int p), .v (.lst (rs.map encR)), .v (objL c p rs), .v (objL c p rs), s10, s11, s12] ∧ Wl l (400 + 13 * pre.length) st') ⟨_, _, _, _, _, _, _, rfl, hw2.up (by omega)⟩ ?_ ?_
    · rintro pre k post env st3 e ⟨s2, s3, s4, s5, s10, s11, s12, rfl, hw3⟩
      obtain ⟨rfl, hk⟩ := range_at e
      have hk4 : pre.length < 4 := hk
      refine ⟨_, by simp! only []; rfl, ?_⟩
      try simp! only []
      refine (hch l _ p rs st3 hw3 (by omega) hp1 hp9 hrs (by omega)).mono ?_
      rintro _ st4 ⟨q, ss, rfl, hq1, hq9, hss, hw4⟩
      have e2 : ∀ st, bi .tuple st [.lst (ss.map encR)] = some (encL ss) := fun _ => rfl
      simp! only [e2, L.made q ss _ hq1 hq9 hss, L.str q ss _ hq1 hq9 hss, ht q ss _ hq1 hq9 hss, hal p q rs ss _ hp1 hp9 hq1 hq9 hrs hss, hal q p ss rs _ hq1 hq9 hp1 hp9 hss hrs, decide_true]
      exact ⟨_, _, _, _, _, _, _, rfl, hw4.up (by simp; omega)⟩
    · rintro env st3 ⟨s2, s3, s4, s5, s10, s11, s12, rfl, hw3⟩
      have ek := L.kinds p rs
      simp! only [e1, L.str p rs _ hp1 hp9 hrs, L.kinds p rs _ l6, hS p rs _ hp1 hp9 hrs]
      refine ⟨lim_ge (by omega), ?_⟩
      have rF : ∀ st, bi .repr st [.lst [.bl false, .bl true]] = some (.str [91, 70, 97, 108, 115, 101, 44, 32, 84, 114, 117, 101, 93]) := fun st => by
        rw [show ([D.bl false, D.bl true] : List D) = [false, true].map D.bl from rfl, repr_bls [false, true] (by simp)]
        rfl
      refine forL_inv (fun _ env st' => ∃ s2 s3 s4 s5 s10 s11 s12, env = [.v (.loc l), .v (objL c p rs), s2, s3, s4, s5, .v (.int p), .v (.lst (rs.map encR)), .v (objL c p rs), .v (objL c p rs), s10, s11, s12] ∧ st' = st3) ⟨_, _, _, _, _, _, _, rfl, rfl⟩ ?_ ?_
      · rintro pre x post env st' e ⟨s2, s3, s4, s5, s10, s11, s12, rfl, rfl⟩
        have hx : isiV Γ st' x (.own c) = some false := by
          have hm : x ∈ pre ++ x :: post := by simp
          rw [← e] at hm
          simp only [List.mem_cons, List.not_mem_nil, or_false] at hm
          rcases hm with rfl | rfl | rfl | rfl | rfl | rfl | rfl | rfl | rfl | rfl
          · rfl
          · rfl
          · rfl
          · rfl
          · rfl
          · rfl
          · rfl
          · rfl
          · rfl
          · exact hSi p rs st'
        refine ⟨_, by simp! only []; rfl, ?_⟩
        simp! only [L.eqO false p rs x _ hx, L.eqO true p rs x _ hx, rF, decide_true]
        exact ⟨_, _, _, _, _, _, _, rfl⟩
      · rintro env st' ⟨s2, s3, s4, s5, s10, s11, s12, rfl, rfl⟩
        try simp! only []
end
end G
namespace K05
open PySem PySem.Spec PyProof.Rows G
abbrev prog : Program := PySem.Challenge.pw_scorelists_k05_whole_lists_and_texts
def top (i : Nat) : Stmt := prog.main.body.getD i (.Pass ⟨0, 0, 0, 0⟩)
def sub (i j : Nat) : Stmt := match top i with
  | .ClassDef _ _ _ b _ _ _ _ _ _ _ => b.getD j (.Pass ⟨0, 0, 0, 0⟩)
  | _ => .Pass ⟨0, 0, 0, 0⟩
def d0 : Df := ⟨.glo "_wall", "_wall", "_wall", L2.defArgs (top 0), L2.defBody (top 0), L2.defScope (top 0), ["k"], ["k"], fun Γ => m__wall Γ, false, false⟩
def d1 : Df := ⟨.me "InvalidText" "__init__", "__init__", "InvalidText.__init__", L2.defArgs (sub 3 0), L2.defBody (sub 3 0), L2.defScope (sub 3 0), ["self", "given"], ["self", "given"], fun _ => badS, false, false⟩
def d2 : Df := ⟨.me "InvalidNumber" "__init__", "__init__", "InvalidNumber.__init__", L2.defArgs (sub 4 0), L2.defBody (sub 4 0), L2.defScope (sub 4 0), ["self", "given"], ["self", "given"], fun _ => badS, false, false⟩
def d3 : Df := ⟨.me "InvalidRows" "__init__", "__init__", "InvalidRows.__init__", L2.defArgs (sub 5 0), L2.defBody (sub 5 0), L2.defScope (sub 5 0), ["self", "index"], ["self", "index"], fun _ => badS, false, false⟩
def d4 : Df := ⟨.me "InvalidLeft" "__init__", "__init__", "InvalidLeft.__init__", L2.defArgs (sub 6 0), L2.defBody (sub 6 0), L2.defScope (sub 6 0), ["self", "index"], ["self", "index"], fun _ => badS, false, false⟩
def d5 : Df := ⟨.glo "is_integer", "is_integer", "is_integer", L2.defArgs (top 16), L2.defBody (top 16), L2.defScope (top 16), ["value"], ["value"], fun Γ => m_is_integer Γ, false, false⟩
def d6 : Df := ⟨.glo "is_within", "is_within", "is_within", L2.defArgs (top 17), L2.defBody (top 17), L2.defScope (top 17), ["value", "least", "most"], ["value", "least", "most"], fun Γ => m_is_within Γ (Γ.call 5), false, false⟩
def d7 : Df := ⟨.glo "is_name", "is_name", "is_name", L2.defArgs (top 18), L2.defBody (top 18), L2.defScope (top 18), ["value", "sign"], ["value"], fun Γ => m_is_name Γ, false, false⟩
def d8 : Df := ⟨.glo "check_points", "check_points", "check_points", L2.defArgs (top 19), L2.defBody (top 19), L2.defScope (top 19), ["value"], ["value"], fun Γ => m_check_points Γ (Γ.call 6) 1, false, false⟩
def d9 : Df := ⟨.glo "read_number", "read_number", "read_number", L2.defArgs (top 20), L2.defBody (top 20), L2.defScope (top 20), ["word", "least", "most", "number", "sign"], ["word", "least", "most"], fun Γ => m_read_number Γ, false, false⟩
def d10 : Df := ⟨.glo "is_row", "is_row", "is_row", L2.defArgs (top 22), L2.defBody (top 22), L2.defScope (top 22), ["value"], ["value"], fun Γ => m_is_row Γ (Γ.call 7) (Γ.call 6), false, false⟩
def d11 : Df := ⟨.glo "wrong_row", "wrong_row", "wrong_row", L2.defArgs (top 23), L2.defBody (top 23), L2.defScope (top 23), ["rows", "names", "at", "row"], ["rows"], fun Γ => m_wrong_row Γ (Γ.call 10), false, false⟩
def d12 : Df := ⟨.glo "check_rows", "check_rows", "check_rows", L2.defArgs (top 24), L2.defBody (top 24), L2.defScope (top 24), ["rows", "wrong"], ["rows"], fun Γ => m_check_rows Γ 2 (Γ.call 11), false, false⟩
def d13 : Df := ⟨.glo "read_row", "read_row", "read_row", L2.defArgs (top 25), L2.defBody (top 25), L2.defScope (top 25), ["line", "words", "number", "score"], ["line"], fun Γ => m_read_row Γ (Γ.call 7) (Γ.call 9), false, false⟩
def d14 : Df := ⟨.glo "read_list", "read_list", "read_list", L2.defArgs (top 26), L2.defBody (top 26), L2.defScope (top 26), ["text", "lines", "head", "points", "rows", "line"], ["text"], fun Γ => m_read_list Γ (Γ.call 9) (Γ.call 13) (Γ.call 11), false, false⟩
def d15 : Df := ⟨.me "List" "__init__", "__init__", "List.__init__", L2.defArgs (sub 27 0), L2.defBody (sub 27 0), L2.defScope (sub 27 0), ["self", "points", "rows"], ["self", "points", "rows"], fun Γ => m_List_init Γ (Γ.call 8) (Γ.call 12), false, false⟩
def d16 : Df := ⟨.cm "List" "read", "read", "List.read", L2.defArgs (sub 27 1), L2.defBody (sub 27 1), L2.defScope (sub 27 1), ["cls", "text", "found"], ["cls", "text"], fun Γ => m_List_read Γ (Γ.call 14) 0 0, false, false⟩
def d17 : Df := ⟨.prop "List" "points", "points", "List.points", L2.defArgs (sub 27 2), L2.defBody (sub 27 2), L2.defScope (sub 27 2), ["self"], ["self"], fun Γ => m_List_points Γ, false, false⟩
def d18 : Df := ⟨.prop "List" "rows", "rows", "List.rows", L2.defArgs (sub 27 3), L2.defBody (sub 27 3), L2.defScope (sub 27 3), ["self"], ["self"], fun Γ => m_List_rows Γ, false, false⟩
def d19 : Df := ⟨.prop "List" "kinds", "kinds", "List.kinds", L2.defArgs (sub 27 4), L2.defBody (sub 27 4), L2.defScope (sub 27 4), ["self", "row"], ["self"], fun Γ => m_List_kinds Γ, false, false⟩
def d20 : Df := ⟨.prop "List" "players", "players", "List.players", L2.defArgs (sub 27 5), L2.defBody (sub 27 5), L2.defScope (sub 27 5), ["self", "row"], ["self"], fun Γ => m_List_players Γ, false, false⟩
def d21 : Df := ⟨.me "List" "__contains__", "__contains__", "List.__contains__", L2.defArgs (sub 27 6), L2.defBody (sub 27 6), L2.defScope (sub 27 6), ["self", "value"], ["self", "value"], fun Γ => m_List_contains Γ, false, false⟩
def d22 : Df := ⟨.me "List" "__len__", "__len__", "List.__len__", L2.defArgs (sub 27 8), L2.defBody (sub 27 8), L2.defScope (sub 27 8), ["self"], ["self"], fun Γ => m_List_len Γ, false, false⟩
def d23 : Df := ⟨.me "List" "__bool__", "__bool__", "List.__bool__", L2.defArgs (sub 27 9), L2.defBody (sub 27 9), L2.defScope (sub 27 9), ["self"], ["self"], fun Γ => m_List_bool Γ, false, false⟩
def d24 : Df := ⟨.me "List" "__eq__", "__eq__", "List.__eq__", L2.defArgs (sub 27 10), L2.defBody (sub 27 10), L2.defScope (sub 27 10), ["self", "other"], ["self", "other"], fun Γ => m_List_eq Γ 0, false, false⟩
def d25 : Df := ⟨.me "List" "__str__", "__str__", "List.__str__", L2.defArgs (sub 27 11), L2.defBody (sub 27 11), L2.defScope (sub 27 11), ["self", "rows", "kind", "number", "score"], ["self"], fun Γ => m_List_str Γ, false, false⟩
def d26 : Df := ⟨.glo "is_left", "is_left", "is_left", L2.defArgs (top 29), L2.defBody (top 29), L2.defScope (top 29), ["value", "kinds"], ["value", "kinds"], fun Γ => m_is_left Γ (Γ.call 6), false, false⟩
def d27 : Df := ⟨.glo "wrong_left", "wrong_left", "wrong_left", L2.defArgs (top 30), L2.defBody (top 30), L2.defScope (top 30), ["left", "kinds", "pairs", "at", "row"], ["left", "kinds"], fun Γ => m_wrong_left Γ (Γ.call 26), false, false⟩
def d28 : Df := ⟨.me "Season" "__init__", "__init__", "Season.__init__", L2.defArgs (sub 31 0), L2.defBody (sub 31 0), L2.defScope (sub 31 0), ["self", "points", "rows", "left", "names", "wrong", "row"], ["self", "points", "rows", "left"], fun Γ => m_Season_init Γ (Γ.call 8) (Γ.call 12) 3 (Γ.call 27), false, false⟩
def d29 : Df := ⟨.prop "Season" "points", "points", "Season.points", L2.defArgs (sub 31 1), L2.defBody (sub 31 1), L2.defScope (sub 31 1), ["self"], ["self"], fun Γ => m_List_points Γ, false, false⟩
def d30 : Df := ⟨.prop "Season" "rows", "rows", "Season.rows", L2.defArgs (sub 31 2), L2.defBody (sub 31 2), L2.defScope (sub 31 2), ["self"], ["self"], fun Γ => m_List_rows Γ, false, false⟩
def d31 : Df := ⟨.prop "Season" "left", "left", "Season.left", L2.defArgs (sub 31 3), L2.defBody (sub 31 3), L2.defScope (sub 31 3), ["self"], ["self"], fun Γ => m_Season_left Γ, false, false⟩
def d32 : Df := ⟨.prop "Season" "kinds", "kinds", "Season.kinds", L2.defArgs (sub 31 4), L2.defBody (sub 31 4), L2.defScope (sub 31 4), ["self", "row"], ["self"], fun Γ => m_List_kinds Γ, false, false⟩
def d33 : Df := ⟨.me "Season" "meetings", "meetings", "Season.meetings", L2.defArgs (sub 31 5), L2.defBody (sub 31 5), L2.defScope (sub 31 5), ["self", "one", "two", "kinds", "pairs", "found", "kind", "other", "times"], ["self", "one", "two"], fun Γ => m_Season_meetings Γ, false, false⟩
def d34 : Df := ⟨.me "Season" "within", "within", "Season.within", L2.defArgs (sub 31 6), L2.defBody (sub 31 6), L2.defScope (sub 31 6), ["self", "numbers", "found", "one", "number", "two"], ["self", "numbers"], fun Γ => m_Season_within Γ 1, false, false⟩
def d35 : Df := ⟨.me "Season" "others_of", "others_of", "Season.others_of", L2.defArgs (sub 31 7), L2.defBody (sub 31 7), L2.defScope (sub 31 7), ["self", "at"], ["self", "at"], fun Γ => m_Season_others_of Γ (Γ.call 0), false, false⟩
def d36 : Df := ⟨.me "Season" "best_of", "best_of", "Season.best_of", L2.defArgs (sub 31 8), L2.defBody (sub 31 8), L2.defScope (sub 31 8), ["self", "at"], ["self", "at"], fun Γ => m_Season_best_of Γ (Γ.call 0), false, false⟩
def d37 : Df := ⟨.me "Season" "is_first", "is_first", "Season.is_first", L2.defArgs (sub 31 9), L2.defBody (sub 31 9), L2.defScope (sub 31 9), ["self", "at"], ["self", "at"], fun Γ => m_Season_is_first Γ (Γ.call 0), false, false⟩
def d38 : Df := ⟨.me "Season" "is_last", "is_last", "Season.is_last", L2.defArgs (sub 31 10), L2.defBody (sub 31 10), L2.defScope (sub 31 10), ["self", "at"], ["self", "at"], fun Γ => m_Season_is_last Γ (Γ.call 0), false, false⟩
def d39 : Df := ⟨.me "Season" "row_of", "row_of", "Season.row_of", L2.defArgs (sub 31 11), L2.defBody (sub 31 11), L2.defScope (sub 31 11), ["self", "kind"], ["self", "kind"], fun Γ => m_Season_row_of Γ (Γ.call 0), false, false⟩
def d40 : Df := ⟨.me "Season" "best", "best", "Season.best", L2.defArgs (sub 31 12), L2.defBody (sub 31 12), L2.defScope (sub 31 12), ["self", "kind"], ["self", "kind"], fun Γ => m_Season_best Γ (Γ.call 0), false, false⟩
def d41 : Df := ⟨.me "Season" "can_be_first", "can_be_first", "Season.can_be_first", L2.defArgs (sub 31 13), L2.defBody (sub 31 13), L2.defScope (sub 31 13), ["self", "kind"], ["self", "kind"], fun Γ => m_Season_can_be_first Γ (Γ.call 0), false, false⟩
def d42 : Df := ⟨.me "Season" "can_be_last", "can_be_last", "Season.can_be_last", L2.defArgs (sub 31 14), L2.defBody (sub 31 14), L2.defScope (sub 31 14), ["self", "kind"], ["self", "kind"], fun Γ => m_Season_can_be_last Γ (Γ.call 0), false, false⟩
def d43 : Df := ⟨.me "Season" "firsts", "firsts", "Season.firsts", L2.defArgs (sub 31 15), L2.defBody (sub 31 15), L2.defScope (sub 31 15), ["self"], ["self"], fun Γ => m_Season_firsts Γ (Γ.call 0), false, false⟩
def d44 : Df := ⟨.me "Season" "bar", "bar", "Season.bar", L2.defArgs (sub 31 16), L2.defBody (sub 31 16), L2.defScope (sub 31 16), ["self"], ["self"], fun Γ => m_Season_bar Γ (Γ.call 0), false, false⟩
def d45 : Df := ⟨.glo "_law_well", "_law_well", "_law_well", L2.defArgs (top 33), L2.defBody (top 33), L2.defScope (top 33), ["_law_script", "_law_k", "_law_cell", "_law_mixed", "_law_other"], ["_law_script", "_law_k"], fun Γ => m_well Γ, false, false⟩
def d46 : Df := ⟨.glo "_law_dip", "_law_dip", "_law_dip", L2.defArgs (top 34), L2.defBody (top 34), L2.defScope (top 34), ["_law_well_here", "_law_many", "_law_digit"], ["_law_well_here", "_law_many"], fun Γ => m_dip Γ, false, false⟩
def d47 : Df := ⟨.glo "_law_names", "_law_names", "_law_names", L2.defArgs (top 35), L2.defBody (top 35), L2.defScope (top 35), ["_law_well_here", "_law_many", "_law_words", "_law_k", "_law_signs", "_law_found", "_law_size", "_law_word", "_law_fresh", "_law_j", "_law_each"], ["_law_well_here", "_law_many"], fun Γ => m_names Γ (Γ.call 46), false, false⟩
def d48 : Df := ⟨.glo "_law_number", "_law_number", "_law_number", L2.defArgs (top 36), L2.defBody (top 36), L2.defScope (top 36), ["_law_well_here", "_law_form"], ["_law_well_here"], fun Γ => m_number Γ (Γ.call 46), false, false⟩
def d49 : Df := ⟨.glo "_law_end", "_law_end", "_law_end", L2.defArgs (top 37), L2.defBody (top 37), L2.defScope (top 37), ["_law_well_here", "_law_form"], ["_law_well_here"], fun Γ => m_end Γ (Γ.call 46), false, false⟩
def d50 : Df := ⟨.glo "_law_rows", "_law_rows", "_law_rows", L2.defArgs (top 38), L2.defBody (top 38), L2.defScope (top 38), ["_law_well_here", "_law_most", "_law_names_here", "_law_name"], ["_law_well_here", "_law_most"], fun Γ => m_rows Γ (Γ.call 47) (Γ.call 46) (Γ.call 48) (Γ.call 49), false, false⟩
def d51 : Df := ⟨.glo "_law_text", "_law_text", "_law_text", L2.defArgs (top 39), L2.defBody (top 39), L2.defScope (top 39), ["_law_points", "_law_rows_here", "_law_lines", "_law_name", "_law_number_here", "_law_score"], ["_law_points", "_law_rows_here"], fun Γ => m_text Γ, false, false⟩
def d52 : Df := ⟨.glo "_law_changed", "_law_changed", "_law_changed", L2.defArgs (top 40), L2.defBody (top 40), L2.defScope (top 40), ["_law_well_here", "_law_points", "_law_rows_here", "_law_form", "_law_found", "_law_at", "_law_name", "_law_row"], ["_law_well_here", "_law_points", "_law_rows_here"], fun Γ => m_changed Γ (Γ.call 46) (Γ.call 48) (Γ.call 49), false, false⟩
def d53 : Df := ⟨.glo "_law_alike", "_law_alike", "_law_alike", L2.defArgs (top 41), L2.defBody (top 41), L2.defScope (top 41), ["_law_one", "_law_two", "_law_same"], ["_law_one", "_law_two"], fun Γ => m_alike Γ 0, false, false⟩
def d54 : Df := ⟨.glo "_law_right", "_law_right", "_law_right", L2.defArgs (top 42), L2.defBody (top 42), L2.defScope (top 42), ["_law_well_here", "_law_back", "_law_one", "_law_turn", "_law_odd", "_law_value", "_law_points", "_law_rows_here", "_law_here", "_law_again", "_law_there", "_law_other", "_law_lines"], ["_law_well_here"], fun Γ => m_right_k05 Γ (Γ.call 46) (Γ.call 50) 0 (Γ.call 51) (Γ.call 16) (Γ.call 53) (Γ.call 52) 1, false, false⟩
def d55 : Df := ⟨.glo "law", "law", "law", L2.defArgs (top 43), L2.defBody (top 43), L2.defScope (top 43), ["_law_script", "_law_k"], ["_law_script"], fun Γ => m_law Γ (Γ.call 54) (Γ.call 45), false, false⟩
def clsT : List ClT := [⟨"List", ⟨[6, 7], 15, [(16, 17), (17, 18), (18, 19), (19, 20)], [(2, 21), (1, 22), (5, 23), (3, 24), (4, 25)], true⟩, [("read", 16)]⟩, ⟨"Season", ⟨[6, 7, 8], 28, [(16, 29), (17, 30), (20, 31), (18, 32)], [(34, 33), (35, 34), (36, 35), (37, 36), (38, 37), (39, 38), (40, 39), (41, 40), (42, 41), (43, 42), (44, 43), (45, 44)], true⟩, []⟩]
def exsT : List XcT := [⟨"InvalidText", ⟨[61], 0, 100⟩, 1⟩, ⟨"InvalidNumber", ⟨[61], 0, 100⟩, 2⟩, ⟨"InvalidRows", ⟨[62], 0, 100⟩, 3⟩, ⟨"InvalidLeft", ⟨[62], 0, 100⟩, 4⟩]
def defsT : List Df := [d0, d1, d2, d3, d4, d5, d6, d7, d8, d9, d10, d11, d12, d13, d14, d15, d16, d17, d18, d19, d20, d21, d22, d23, d24, d25, d26, d27, d28, d29, d30, d31, d32, d33, d34, d35, d36, d37, d38, d39, d40, d41, d42, d43, d44, d45, d46, d47, d48, d49, d50, d51, d52, d53, d54, d55]
def pt : G.PT := ⟨defsT, clsT, exsT, (["__init__", "__len__", "__contains__", "__eq__", "__str__", "__bool__", "stake", "lines", "plan", "table", "split", "begins", "states", "before", "holder", "mark", "points", "rows", "kinds", "players", "left", "scores", "share", "rest", "arcs", "turned", "within_kind", "across", "between_players", "place_of"] : List PySem.Str) ++ (["from_row", "match", "against", "score", "meetings", "within", "others_of", "best_of", "is_first", "is_last", "row_of", "best", "can_be_first", "can_be_last", "firsts", "bar", "entries", "names", "wishes", "changes", "__setitem__", "__getitem__", "wish", "lift", "undo", "trial", "tried", "__enter__", "__exit__", "__iter__"] : List PySem.Str) ++ (["read", "given", "index", "lack"] : List PySem.Str), ["len", "int", "str", "repr", "abs", "bool", "min", "max", "sum", "sorted", "tuple", "list", "all", "any", "divmod", "range", "enumerate", "zip", "isinstance", "set", "dict", "reversed", "print"], [("MOST_POINTS", 9), ("MOST_KINDS", 6), ("MOST_PLAYERS", 1000000000000000000000000000000), ("MOST_SCORE", 1000000000000000000000000000000000), ("MOST_LEFT", 9), ("LONGEST_NAME", 8)], [("LETTERS", [97, 98, 99, 100, 101, 102, 103, 104, 105, 106, 107, 108, 109, 110, 111, 112, 113, 114, 115, 116, 117, 118, 119, 120, 121, 122]), ("DIGITS", [48, 49, 50, 51, 52, 53, 54, 55, 56, 57])], [.int, .bool, .str, .tuple, .own 0, .own 1], [], false, [], ["WrongValue"]⟩
theorem at_0 : pt.defs[0]? = some d0 := rfl
theorem at_1 : pt.defs[1]? = some d1 := rfl
theorem at_2 : pt.defs[2]? = some d2 := rfl
theorem at_3 : pt.defs[3]? = some d3 := rfl
theorem at_4 : pt.defs[4]? = some d4 := rfl
theorem at_5 : pt.defs[5]? = some d5 := rfl
theorem at_6 : pt.defs[6]? = some d6 := rfl
theorem at_7 : pt.defs[7]? = some d7 := rfl
theorem at_8 : pt.defs[8]? = some d8 := rfl
theorem at_9 : pt.defs[9]? = some d9 := rfl
theorem at_10 : pt.defs[10]? = some d10 := rfl
theorem at_11 : pt.defs[11]? = some d11 := rfl
theorem at_12 : pt.defs[12]? = some d12 := rfl
theorem at_13 : pt.defs[13]? = some d13 := rfl
theorem at_14 : pt.defs[14]? = some d14 := rfl
theorem at_15 : pt.defs[15]? = some d15 := rfl
theorem at_16 : pt.defs[16]? = some d16 := rfl
theorem at_17 : pt.defs[17]? = some d17 := rfl
theorem at_18 : pt.defs[18]? = some d18 := rfl
theorem at_19 : pt.defs[19]? = some d19 := rfl
theorem at_20 : pt.defs[20]? = some d20 := rfl
theorem at_21 : pt.defs[21]? = some d21 := rfl
theorem at_22 : pt.defs[22]? = some d22 := rfl
theorem at_23 : pt.defs[23]? = some d23 := rfl
theorem at_24 : pt.defs[24]? = some d24 := rfl
theorem at_25 : pt.defs[25]? = some d25 := rfl
theorem at_26 : pt.defs[26]? = some d26 := rfl
theorem at_27 : pt.defs[27]? = some d27 := rfl
theorem at_28 : pt.defs[28]? = some d28 := rfl
theorem at_29 : pt.defs[29]? = some d29 := rfl
theorem at_30 : pt.defs[30]? = some d30 := rfl
theorem at_31 : pt.defs[31]? = some d31 := rfl
theorem at_32 : pt.defs[32]? = some d32 := rfl
theorem at_33 : pt.defs[33]? = some d33 := rfl
theorem at_34 : pt.defs[34]? = some d34 := rfl
theorem at_35 : pt.defs[35]? = some d35 := rfl
theorem at_36 : pt.defs[36]? = some d36 := rfl
theorem at_37 : pt.defs[37]? = some d37 := rfl
theorem at_38 : pt.defs[38]? = some d38 := rfl
theorem at_39 : pt.defs[39]? = some d39 := rfl
theorem at_40 : pt.defs[40]? = some d40 := rfl
theorem at_41 : pt.defs[41]? = some d41 := rfl
theorem at_42 : pt.defs[42]? = some d42 := rfl
theorem at_43 : pt.defs[43]? = some d43 := rfl
theorem at_44 : pt.defs[44]? = some d44 := rfl
theorem at_45 : pt.defs[45]? = some d45 := rfl
theorem at_46 : pt.defs[46]? = some d46 := rfl
theorem at_47 : pt.defs[47]? = some d47 := rfl
theorem at_48 : pt.defs[48]? = some d48 := rfl
theorem at_49 : pt.defs[49]? = some d49 := rfl
theorem at_50 : pt.defs[50]? = some d50 := rfl
theorem at_51 : pt.defs[51]? = some d51 := rfl
theorem at_52 : pt.defs[52]? = some d52 := rfl
theorem at_53 : pt.defs[53]? = some d53 := rfl
theorem at_54 : pt.defs[54]? = some d54 := rfl
theorem at_55 : pt.defs[55]? = some d55 := rfl
theorem c_0 (n : Nat) : pt.call (n + 1) 0 = runF 1 1 (m__wall (pt.ctx (pt.call n))) := rfl
theorem c_5 (n : Nat) : pt.call (n + 1) 5 = runF 1 1 (m_is_integer (pt.ctx (pt.call n))) := rfl
theorem c_6 (n : Nat) : pt.call (n + 1) 6 = runF 3 3 (m_is_within (pt.ctx (pt.call n)) (pt.call n 5)) := rfl
theorem c_7 (n : Nat) : pt.call (n + 1) 7 = runF 1 2 (m_is_name (pt.ctx (pt.call n))) := rfl
theorem c_8 (n : Nat) : pt.call (n + 1) 8 = runF 1 1 (m_check_points (pt.ctx (pt.call n)) (pt.call n 6) 1) := rfl
theorem c_9 (n : Nat) : pt.call (n + 1) 9 = runF 3 5 (m_read_number (pt.ctx (pt.call n))) := rfl
theorem c_10 (n : Nat) : pt.call (n + 1) 10 = runF 1 1 (m_is_row (pt.ctx (pt.call n)) (pt.call n 7) (pt.call n 6)) := rfl
theorem c_11 (n : Nat) : pt.call (n + 1) 11 = runF 1 4 (m_wrong_row (pt.ctx (pt.call n)) (pt.call n 10)) := rfl
theorem c_12 (n : Nat) : pt.call (n + 1) 12 = runF 1 2 (m_check_rows (pt.ctx (pt.call n)) 2 (pt.call n 11)) := rfl
theorem c_13 (n : Nat) : pt.call (n + 1) 13 = runF 1 4 (m_read_row (pt.ctx (pt.call n)) (pt.call n 7) (pt.call n 9)) := rfl
theorem c_14 (n : Nat) : pt.call (n + 1) 14 = runF 1 6 (m_read_list (pt.ctx (pt.call n)) (pt.call n 9) (pt.call n 13) (pt.call n 11)) := rfl
theorem c_15 (n : Nat) : pt.call (n + 1) 15 = runF 3 3 (m_List_init (pt.ctx (pt.call n)) (pt.call n 8) (pt.call n 12)) := rfl
theorem c_16 (n : Nat) : pt.call (n + 1) 16 = runF 2 3 (m_List_read (pt.ctx (pt.call n)) (pt.call n 14) 0 0) := rfl
theorem c_17 (n : Nat) : pt.call (n + 1) 17 = runF 1 1 (m_List_points (pt.ctx (pt.call n))) := rfl
theorem c_18 (n : Nat) : pt.call (n + 1) 18 = runF 1 1 (m_List_rows (pt.ctx (pt.call n))) := rfl
theorem c_19 (n : Nat) : pt.call (n + 1) 19 = runF 1 2 (m_List_kinds (pt.ctx (pt.call n))) := rfl
theorem c_20 (n : Nat) : pt.call (n + 1) 20 = runF 1 2 (m_List_players (pt.ctx (pt.call n))) := rfl
theorem c_21 (n : Nat) : pt.call (n + 1) 21 = runF 2 2 (m_List_contains (pt.ctx (pt.call n))) := rfl
theorem c_22 (n : Nat) : pt.call (n + 1) 22 = runF 1 1 (m_List_len (pt.ctx (pt.call n))) := rfl
theorem c_23 (n : Nat) : pt.call (n + 1) 23 = runF 1 1 (m_List_bool (pt.ctx (pt.call n))) := rfl
theorem c_24 (n : Nat) : pt.call (n + 1) 24 = runF 2 2 (m_List_eq (pt.ctx (pt.call n)) 0) := rfl
theorem c_25 (n : Nat) : pt.call (n + 1) 25 = runF 1 5 (m_List_str (pt.ctx (pt.call n))) := rfl
theorem c_26 (n : Nat) : pt.call (n + 1) 26 = runF 2 2 (m_is_left (pt.ctx (pt.call n)) (pt.call n 6)) := rfl
theorem c_27 (n : Nat) : pt.call (n + 1) 27 = runF 2 5 (m_wrong_left (pt.ctx (pt.call n)) (pt.call n 26)) := rfl
theorem c_28 (n : Nat) : pt.call (n + 1) 28 = runF 4 7 (m_Season_init (pt.ctx (pt.call n)) (pt.call n 8) (pt.call n 12) 3 (pt.call n 27)) := rfl
theorem c_29 (n : Nat) : pt.call (n + 1) 29 = runF 1 1 (m_List_points (pt.ctx (pt.call n))) := rfl
theorem c_30 (n : Nat) : pt.call (n + 1) 30 = runF 1 1 (m_List_rows (pt.ctx (pt.call n))) := rfl
theorem c_31 (n : Nat) : pt.call (n + 1) 31 = runF 1 1 (m_Season_left (pt.ctx (pt.call n))) := rfl
theorem c_32 (n : Nat) : pt.call (n + 1) 32 = runF 1 2 (m_List_kinds (pt.ctx (pt.call n))) := rfl
theorem c_33 (n : Nat) : pt.call (n + 1) 33 = runF 3 9 (m_Season_meetings (pt.ctx (pt.call n))) := rfl
theorem c_34 (n : Nat) : pt.call (n + 1) 34 = runF 2 6 (m_Season_within (pt.ctx (pt.call n)) 1) := rfl
theorem c_35 (n : Nat) : pt.call (n + 1) 35 = runF 2 2 (m_Season_others_of (pt.ctx (pt.call n)) (pt.call n 0)) := rfl
theorem c_36 (n : Nat) : pt.call (n + 1) 36 = runF 2 2 (m_Season_best_of (pt.ctx (pt.call n)) (pt.call n 0)) := rfl
theorem c_37 (n : Nat) : pt.call (n + 1) 37 = runF 2 2 (m_Season_is_first (pt.ctx (pt.call n)) (pt.call n 0)) := rfl
theorem c_38 (n : Nat) : pt.call (n + 1) 38 = runF 2 2 (m_Season_is_last (pt.ctx (pt.call n)) (pt.call n 0)) := rfl
theorem c_39 (n : Nat) : pt.call (n + 1) 39 = runF 2 2 (m_Season_row_of (pt.ctx (pt.call n)) (pt.call n 0)) := rfl
theorem c_40 (n : Nat) : pt.call (n + 1) 40 = runF 2 2 (m_Season_best (pt.ctx (pt.call n)) (pt.call n 0)) := rfl
theorem c_41 (n : Nat) : pt.call (n + 1) 41 = runF 2 2 (m_Season_can_be_first (pt.ctx (pt.call n)) (pt.call n 0)) := rfl
theorem c_42 (n : Nat) : pt.call (n + 1) 42 = runF 2 2 (m_Season_can_be_last (pt.ctx (pt.call n)) (pt.call n 0)) := rfl
theorem c_43 (n : Nat) : pt.call (n + 1) 43 = runF 1 1 (m_Season_firsts (pt.ctx (pt.call n)) (pt.call n 0)) := rfl
theorem c_44 (n : Nat) : pt.call (n + 1) 44 = runF 1 1 (m_Season_bar (pt.ctx (pt.call n)) (pt.call n 0)) := rfl
theorem c_45 (n : Nat) : pt.call (n + 1) 45 = runF 2 5 (m_well (pt.ctx (pt.call n))) := rfl
theorem c_46 (n : Nat) : pt.call (n + 1) 46 = runF 2 3 (m_dip (pt.ctx (pt.call n))) := rfl
theorem c_47 (n : Nat) : pt.call (n + 1) 47 = runF 2 11 (m_names (pt.ctx (pt.call n)) (pt.call n 46)) := rfl
theorem c_48 (n : Nat) : pt.call (n + 1) 48 = runF 1 2 (m_number (pt.ctx (pt.call n)) (pt.call n 46)) := rfl
theorem c_49 (n : Nat) : pt.call (n + 1) 49 = runF 1 2 (m_end (pt.ctx (pt.call n)) (pt.call n 46)) := rfl
theorem c_50 (n : Nat) : pt.call (n + 1) 50 = runF 2 4 (m_rows (pt.ctx (pt.call n)) (pt.call n 47) (pt.call n 46) (pt.call n 48) (pt.call n 49)) := rfl
theorem c_51 (n : Nat) : pt.call (n + 1) 51 = runF 2 6 (m_text (pt.ctx (pt.call n))) := rfl
theorem c_52 (n : Nat) : pt.call (n + 1) 52 = runF 3 8 (m_changed (pt.ctx (pt.call n)) (pt.call n 46) (pt.call n 48) (pt.call n 49)) := rfl
theorem c_53 (n : Nat) : pt.call (n + 1) 53 = runF 2 3 (m_alike (pt.ctx (pt.call n)) 0) := rfl
theorem c_54 (n : Nat) : pt.call (n + 1) 54 = runF 1 13 (m_right_k05 (pt.ctx (pt.call n)) (pt.call n 46) (pt.call n 50) 0 (pt.call n 51) (pt.call n 16) (pt.call n 53) (pt.call n 52) 1) := rfl
theorem c_55 (n : Nat) : pt.call (n + 1) 55 = runF 1 2 (m_law (pt.ctx (pt.call n)) (pt.call n 54) (pt.call n 45)) := rfl
end K05
namespace K05
open G
abbrev C (n : Nat) : G.Ctx := pt.ctx (pt.call n)
theorem cc (n i : Nat) : (C n).call i = pt.call n i := rfl
theorem at_call {f g : Fd} {ds : List D} {st : Store} {r : O D} (e : f = g) (h : g ds st = r) : f ds st = r := by rw [e]; exact h
theorem q5 (n : Nat) : SpInt (pt.call (n + 1) 5) := by rw [c_5]; exact sp_integer _
theorem q6 (n : Nat) : SpWithin (pt.call (n + 2) 6) := by rw [c_6]; exact sp_within _ (q5 n)
theorem q7 (n : Nat) : SpName (pt.call (n + 1) 7) := by rw [c_7]; exact sp_name _
theorem sc (n : Nat) : SC (C n) 1 (clsT.getD 1 ⟨"", ⟨[], 0, [], [], false⟩, []⟩).cl := ⟨rfl, rfl, rfl⟩
theorem lc (n : Nat) : LC (C n) 0 (clsT.getD 0 ⟨"", ⟨[], 0, [], [], false⟩, []⟩).cl := ⟨rfl, rfl, rfl⟩
theorem q8 (n : Nat) : SpChkPts (pt.call (n + 3) 8) := by rw [c_8]; exact sp_chkpts _ (q6 n)
theorem q9 (n : Nat) : SpNum (pt.call (n + 1) 9) := by rw [c_9]; exact sp_num _
theorem q10 (n : Nat) : SpRow (pt.call (n + 3) 10) := by rw [c_10]; exact sp_row _ (q7 (n + 1)) (q6 n)
theorem q11 (n : Nat) : SpWrong (pt.call (n + 4) 11) := by rw [c_11]; exact sp_wrong _ (q10 n)
theorem q12 (n : Nat) : SpChkRows (pt.call (n + 5) 12) := by rw [c_12]; exact sp_chkrows _ (q11 n)
theorem q13 (n : Nat) : SpRdRow (pt.call (n + 2) 13) := by rw [c_13]; exact sp_rdrow _ (q7 n) (q9 n)
theorem q14 (n : Nat) : SpRdList (pt.call (n + 5) 14) := by rw [c_14]; exact sp_rdlist _ (q9 (n + 3)) (q13 (n + 2)) (q11 n)
theorem q15 (n : Nat) : SpInit 0 (pt.call (n + 6) 15) := by rw [c_15]; exact sp_init (lc _) (q8 (n + 2)) (q12 n)
theorem ls (n : Nat) : LS5 (C (n + 6)) 0 where
  made := fun p rs st h1 h2 h => mk_list (lc (n + 6)) (q15 n) h1 h2 h
  points := fun p rs st => (lc (n + 6)).prop (by decide) (g := 17) rfl (at_call ((cc (n + 6) 17).trans (c_17 (n + 5))) (sp_points (lc _)))
  rows := fun p rs st => (lc (n + 6)).prop (by decide) (g := 18) rfl (at_call ((cc (n + 6) 18).trans (c_18 (n + 5))) (sp_rows (lc _)))
  kinds := fun p rs st h => (lc (n + 6)).prop (by decide) (g := 19) rfl (at_call ((cc (n + 6) 19).trans (c_19 (n + 5))) (sp_kinds (lc _) h))
  players := fun p rs st h => (lc (n + 6)).prop (by decide) (g := 20) rfl (at_call ((cc (n + 6) 20).trans (c_20 (n + 5))) (sp_players (lc _) h))
  len := fun p rs st h => (lc (n + 6)).dun (g := 22) rfl (at_call ((cc (n + 6) 22).trans (c_22 (n + 5))) (sp_len (lc _))) (.inl ⟨_, rfl, rfl, by omega, by omega⟩)
  isi := fun p rs st => rfl
  str := fun p rs st h1 h2 h => (lc (n + 6)).dun (g := 25) rfl (at_call ((cc (n + 6) 25).trans (c_25 (n + 5))) (sp_str (lc _) h1 h2 h)) (.inr (.inl ⟨_, rfl, rfl⟩))
  bool := fun p rs st => (lc (n + 6)).dun (g := 23) rfl (at_call ((cc (n + 6) 23).trans (c_23 (n + 5))) (sp_bool)) (.inr (.inr ⟨_, rfl, rfl⟩))

  eqL := fun neg p q rs ss st => LC.eqV (lc (n + 6)) (g := 24) rfl (.inr rfl) (at_call ((cc (n + 6) 24).trans (c_24 (n + 5))) (sp_eqL (lc _) p q rs ss st))
  eqO := fun neg p rs y st h => by
    have := LC.eqV (neg := neg) (b := false) (lc (n + 6)) (g := 24) rfl (.inl h) (at_call ((cc (n + 6) 24).trans (c_24 (n + 5))) (sp_eqO (lc _) p rs y st h))
    rw [this]; cases neg <;> rfl
theorem q16 (n : Nat) : SpRead 0 (pt.call (n + 7) 16) := by rw [c_16]; exact sp_read (ls n).toLS (q14 (n + 1))
theorem q27 (n : Nat) : SpNoLeft (pt.call (n + 1) 27) := by rw [c_27]; exact sp_noleft
theorem q28 (n : Nat) : SpSInit 1 (pt.call (n + 6) 28) := by rw [c_28]; exact sp_sinit (sc _) (q8 (n + 2)) (q12 n) (q27 (n + 4))
theorem q45 (n : Nat) : SpWell (pt.call (n + 1) 45) := by rw [c_45]; exact sp_well
theorem q46 [FrC] (n : Nat) : SpDip (pt.call (n + 1) 46) := by rw [c_46]; exact sp_dip _
theorem q47 [FrC] (n : Nat) : SpNames (pt.call (n + 2) 47) := by rw [c_47]; exact sp_names (q46 n)
theorem q48 (n : Nat) : SpRange (pt.call (n + 2) 48) 3 1 (10 ^ 30) := by rw [c_48]; exact sp_number (q46 n)
theorem q49 (n : Nat) : SpRange (pt.call (n + 2) 49) 3 0 (10 ^ 33) := by rw [c_49]; exact sp_end (q46 n)
theorem q50 (n : Nat) : SpRows (pt.call (n + 3) 50) := by rw [c_50]; exact sp_rows' (q47 n) (q46 (n + 1)) (q48 n) (q49 n)
theorem q51 (n : Nat) : SpTextL (pt.call (n + 1) 51) := by rw [c_51]; exact sp_textl
theorem q52 (n : Nat) : SpChanged (pt.call (n + 3) 52) := by rw [c_52]; exact sp_changed (q46 (n + 1)) (q48 n) (q49 n)
theorem q53 (n : Nat) : SpAlike 0 (pt.call (n + 7) 53) := by rw [c_53]; exact sp_alike5 (ls n) (q14 (n + 1))
theorem q54 (n : Nat) : SpRight (pt.call (n + 8) 54) := by rw [c_54]; exact sp_right5 (q46 (n + 6)) (q50 (n + 4)) (ls (n + 1)) (q51 (n + 6)) (q16 n) (q53 n) (q52 (n + 4)) (fun p rs st h1 h2 h => mk_season (sc (n + 7)) (q28 (n + 1)) h1 h2 h) fun _ _ _ => rfl
theorem q55 (n : Nat) : SpLaw (pt.call (n + 9) 55) := by rw [c_55]; exact sp_law (q54 n) (q45 (n + 7))
theorem law_true : ∀ ns : List Int, ns.length ≤ 63 → Trues (pt.call 40 55) ns := by
  intro ns hl
  have h : SpLaw (pt.call (31 + 9) 55) := q55 31
  have := h ns [] hl
  unfold Trues
  revert this
  show OP _ (pt.call (31 + 9) 55 [.fl (ns.map .int)] []) → ∃ st, pt.call (31 + 9) 55 [.fl (ns.map .int)] [] = _
  generalize pt.call (31 + 9) 55 [.fl (ns.map .int)] [] = o
  cases o with
  | ok a st =>
    intro e
    have e : a = .bl true := e
    exact ⟨st, by rw [e]⟩
  | _ => exact fun h => h.elim
end K05
namespace K05
open PySem PySem.Spec PyProof.Rows G
theorem ok_0 : DfOk pt d0 := ⟨⟨rfl, rfl, rfl, by decide +kernel, rfl, by decide +kernel, by decide +kernel⟩, fun _ _ _ _ _ _ us hl => match us, hl with | [_], _ => rfl, fun _ Y Γ k X W Ow0 fr hfr F CS M Z => by
  obtain rfl : fr = false := not_fr rfl hfr
  have E : En pt Y Γ k d0.N X W d0.scope := ⟨F, M⟩
  have B : Eb pt Y Γ k d0.N X W d0.scope Ow0 false := ⟨E, CS⟩
  show JSs X B.w d0.body (m__wall Γ); delta m__wall
  exact s_cons B (s_whl B (r_k E (by rfl)) (s_cons B (s_pass B) (s_nil B))) (s_nil B), fun h => Bool.noConfusion (show false = true from h)⟩
theorem ok_1 : DfOk pt d1 := ⟨⟨rfl, rfl, rfl, by decide +kernel, rfl, by decide +kernel, by decide +kernel⟩, fun _ _ _ _ _ _ us hl => match us, hl with | [_, _], _ => rfl, fun _ Y Γ k X W Ow0 fr hfr F CS M Z => by
  obtain rfl : fr = false := not_fr rfl hfr
  have E : En pt Y Γ k d1.N X W d1.scope := ⟨F, M⟩
  have B : Eb pt Y Γ k d1.N X W d1.scope Ow0 false := ⟨E, CS⟩
  skip
  exact s_bads B, fun h => Bool.noConfusion (show false = true from h)⟩
theorem ok_2 : DfOk pt d2 := ⟨⟨rfl, rfl, rfl, by decide +kernel, rfl, by decide +kernel, by decide +kernel⟩, fun _ _ _ _ _ _ us hl => match us, hl with | [_, _], _ => rfl, fun _ Y Γ k X W Ow0 fr hfr F CS M Z => by
  obtain rfl : fr = false := not_fr rfl hfr
  have E : En pt Y Γ k d2.N X W d2.scope := ⟨F, M⟩
  have B : Eb pt Y Γ k d2.N X W d2.scope Ow0 false := ⟨E, CS⟩
  skip
  exact s_bads B, fun h => Bool.noConfusion (show false = true from h)⟩
theorem ok_3 : DfOk pt d3 := ⟨⟨rfl, rfl, rfl, by decide +kernel, rfl, by decide +kernel, by decide +kernel⟩, fun _ _ _ _ _ _ us hl => match us, hl with | [_, _], _ => rfl, fun _ Y Γ k X W Ow0 fr hfr F CS M Z => by
  obtain rfl : fr = false := not_fr rfl hfr
  have E : En pt Y Γ k d3.N X W d3.scope := ⟨F, M⟩
  have B : Eb pt Y Γ k d3.N X W d3.scope Ow0 false := ⟨E, CS⟩
  skip
  exact s_bads B, fun h => Bool.noConfusion (show false = true from h)⟩
theorem ok_4 : DfOk pt d4 := ⟨⟨rfl, rfl, rfl, by decide +kernel, rfl, by decide +kernel, by decide +kernel⟩, fun _ _ _ _ _ _ us hl => match us, hl with | [_, _], _ => rfl, fun _ Y Γ k X W Ow0 fr hfr F CS M Z => by
  obtain rfl : fr = false := not_fr rfl hfr
  have E : En pt Y Γ k d4.N X W d4.scope := ⟨F, M⟩
  have B : Eb pt Y Γ k d4.N X W d4.scope Ow0 false := ⟨E, CS⟩
  skip
  exact s_bads B, fun h => Bool.noConfusion (show false = true from h)⟩
theorem ok_5 : DfOk pt d5 := ⟨⟨rfl, rfl, rfl, by decide +kernel, rfl, by decide +kernel, by decide +kernel⟩, fun _ _ _ _ _ _ us hl => match us, hl with | [_], _ => rfl, fun _ Y Γ k X W Ow0 fr hfr F CS M Z => by
  obtain rfl : fr = false := not_fr rfl hfr
  have E : En pt Y Γ k d5.N X W d5.scope := ⟨F, M⟩
  have B : Eb pt Y Γ k d5.N X W d5.scope Ow0 false := ⟨E, CS⟩
  show JSs X B.w d5.body (m_is_integer Γ); delta m_is_integer
  exact s_cons B (s_ret B rfl (r_and E rfl (.cons rfl (r_isi E .int 0 (by rfl) rfl (by kernel_rfl) (by kernel_rfl) (by kernel_rfl) (by kernel_rfl) rfl (r_v E (i := 0) (by kernel_rfl))) (.cons rfl (r_no E (r_isi E .bool 1 (by rfl) rfl (by kernel_rfl) (by kernel_rfl) (by kernel_rfl) (by kernel_rfl) rfl (r_v E (i := 0) (by kernel_rfl)))) .nil)))) (s_nil B), fun h => Bool.noConfusion (show false = true from h)⟩
theorem ok_6 : DfOk pt d6 := ⟨⟨rfl, rfl, rfl, by decide +kernel, rfl, by decide +kernel, by decide +kernel⟩, fun _ _ _ _ _ _ us hl => match us, hl with | [_, _, _], _ => rfl, fun _ Y Γ k X W Ow0 fr hfr F CS M Z => by
  obtain rfl : fr = false := not_fr rfl hfr
  have E : En pt Y Γ k d6.N X W d6.scope := ⟨F, M⟩
  have B : Eb pt Y Γ k d6.N X W d6.scope Ow0 false := ⟨E, CS⟩
  show JSs X B.w d6.body (m_is_within Γ (Γ.call 5)); delta m_is_within
  exact s_cons B (s_ret B rfl (r_and E rfl (.cons rfl (r_call E 5 at_5 rfl (by kernel_rfl) (by kernel_rfl) rfl (.cons rfl (r_v E (i := 0) (by kernel_rfl)) .nil)) (.cons rfl (r_chain E (op := .le) (op2 := .le) rfl rfl rfl (r_v E (i := 1) (by kernel_rfl)) (r_v E (i := 0) (by kernel_rfl)) (r_v E (i := 2) (by kernel_rfl))) .nil)))) (s_nil B), fun h => Bool.noConfusion (show false = true from h)⟩
theorem ok_7 : DfOk pt d7 := ⟨⟨rfl, rfl, rfl, by decide +kernel, rfl, by decide +kernel, by decide +kernel⟩, fun _ _ _ _ _ _ us hl => match us, hl with | [_], _ => rfl, fun _ Y Γ k X W Ow0 fr hfr F CS M Z => by
  obtain rfl : fr = false := not_fr rfl hfr
  have E : En pt Y Γ k d7.N X W d7.scope := ⟨F, M⟩
  have B : Eb pt Y Γ k d7.N X W d7.scope Ow0 false := ⟨E, CS⟩
  show JSs X B.w d7.body (m_is_name Γ); delta m_is_name
  exact s_cons B (s_if B (r_or E rfl (.cons rfl (r_no E (r_isi E .str 2 (by rfl) rfl (by kernel_rfl) (by kernel_rfl) (by kernel_rfl) (by kernel_rfl) rfl (r_v E (i := 0) (by kernel_rfl)))) (.cons rfl (r_no E (r_chain E (op := .le) (op2 := .le) rfl rfl rfl (r_k E (by rfl)) (r_bi E .len rfl (by kernel_rfl) (by kernel_rfl) rfl (.cons rfl (r_v E (i := 0) (by kernel_rfl)) .nil)) (r_gi E 5 (by rfl) (by kernel_rfl) (by kernel_rfl)))) .nil))) (s_cons B (s_ret B rfl (r_k E (by rfl))) (s_nil B)) (s_nil B)) (s_cons B (s_ret B rfl (r_and E rfl (.cons rfl (r_cmp E (op := .mem) rfl rfl (r_ix E rfl (r_v E (i := 0) (by kernel_rfl)) (r_k E (by rfl))) (r_gs E 0 (by rfl) (by kernel_rfl) (by kernel_rfl))) (.cons rfl (r_bi E .all rfl (by kernel_rfl) (by kernel_rfl) rfl (.cons rfl (r_lc E (lc_ok E (rI := true) (own := [("sign", 1)]) (p := .nm 1) rfl (by kernel_rfl) (by kernel_rfl) (i_of E (r_v E (i := 0) (by kernel_rfl))) (fun _ E' hfE' => p_nm E' (by kernel_rfl)) (fun _ E' => .nil) (fun _ E' => r_or E' rfl (.cons rfl (r_cmp E' (op := .mem) rfl rfl (r_v E' (i := 1) (by kernel_rfl)) (r_gs E' 0 (by rfl) (by kernel_rfl) (by kernel_rfl))) (.cons rfl (r_cmp E' (op := .mem) rfl rfl (r_v E' (i := 1) (by kernel_rfl)) (r_gs E' 1 (by rfl) (by kernel_rfl) (by kernel_rfl))) .nil))))) .nil)) .nil)))) (s_nil B)), fun h => Bool.noConfusion (show false = true from h)⟩
theorem ok_8 : DfOk pt d8 := ⟨⟨rfl, rfl, rfl, by decide +kernel, rfl, by decide +kernel, by decide +kernel⟩, fun _ _ _ _ _ _ us hl => match us, hl with | [_], _ => rfl, fun _ Y Γ k X W Ow0 fr hfr F CS M Z => by
  obtain rfl : fr = false := not_fr rfl hfr
  have E : En pt Y Γ k d8.N X W d8.scope := ⟨F, M⟩
  have B : Eb pt Y Γ k d8.N X W d8.scope Ow0 false := ⟨E, CS⟩
  show JSs X B.w d8.body (m_check_points Γ (Γ.call 6) 1); delta m_check_points
  exact s_cons B (s_if B (r_no E (r_call E 6 at_6 rfl (by kernel_rfl) (by kernel_rfl) rfl (.cons rfl (r_v E (i := 0) (by kernel_rfl)) (.cons rfl (r_k E (by rfl)) (.cons rfl (r_gi E 0 (by rfl) (by kernel_rfl) (by kernel_rfl)) .nil))))) (s_cons B (s_raise B 1 (by rfl) (by rfl) (by rfl) (by kernel_rfl) (by kernel_rfl) rfl (r_v E (i := 0) (by kernel_rfl))) (s_nil B)) (s_nil B)) (s_nil B), fun h => Bool.noConfusion (show false = true from h)⟩
theorem ok_9 : DfOk pt d9 := ⟨⟨rfl, rfl, rfl, by decide +kernel, rfl, by decide +kernel, by decide +kernel⟩, fun _ _ _ _ _ _ us hl => match us, hl with | [_, _, _], _ => rfl, fun _ Y Γ k X W Ow0 fr hfr F CS M Z => by
  obtain rfl : fr = false := not_fr rfl hfr
  have E : En pt Y Γ k d9.N X W d9.scope := ⟨F, M⟩
  have B : Eb pt Y Γ k d9.N X W d9.scope Ow0 false := ⟨E, CS⟩
  show JSs X B.w d9.body (m_read_number Γ); delta m_read_number
  exact s_cons B (s_if B (r_or E rfl (.cons rfl (r_cmp E (op := .eq) rfl rfl (r_v E (i := 0) (by kernel_rfl)) (r_k E (by kernel_rfl))) (.cons rfl (r_cmp E (op := .gt) rfl rfl (r_bi E .len rfl (by kernel_rfl) (by kernel_rfl) rfl (.cons rfl (r_v E (i := 0) (by kernel_rfl)) .nil)) (r_k E (by rfl))) (.cons rfl (r_no E (r_bi E .all rfl (by kernel_rfl) (by kernel_rfl) rfl (.cons rfl (r_lc E (lc_ok E (rI := true) (own := [("sign", 4)]) (p := .nm 4) rfl (by kernel_rfl) (by kernel_rfl) (i_of E (r_v E (i := 0) (by kernel_rfl))) (fun _ E' hfE' => p_nm E' (by kernel_rfl)) (fun _ E' => .nil) (fun _ E' => r_cmp E' (op := .mem) rfl rfl (r_v E' (i := 4) (by kernel_rfl)) (r_gs E' 1 (by rfl) (by kernel_rfl) (by kernel_rfl))))) .nil))) .nil)))) (s_cons B (s_ret B rfl (r_k E (by rfl))) (s_nil B)) (s_nil B)) (s_cons B (s_nm B (i := 3) (by kernel_rfl) rfl (r_bi E .int rfl (by kernel_rfl) (by kernel_rfl) rfl (.cons rfl (r_v E (i := 0) (by kernel_rfl)) .nil))) (s_cons B (s_ret B rfl (r_ifeS E (r_and E rfl (.cons rfl (r_cmp E (op := .eq) rfl rfl (r_bi E .str rfl (by kernel_rfl) (by kernel_rfl) rfl (.cons rfl (r_v E (i := 3) (by kernel_rfl)) .nil)) (r_v E (i := 0) (by kernel_rfl))) (.cons rfl (r_chain E (op := .le) (op2 := .le) rfl rfl rfl (r_v E (i := 1) (by kernel_rfl)) (r_v E (i := 3) (by kernel_rfl)) (r_v E (i := 2) (by kernel_rfl))) .nil))) (r_v E (i := 3) (by kernel_rfl)) (r_k E (by rfl)))) (s_nil B))), fun h => Bool.noConfusion (show false = true from h)⟩
theorem ok_10 : DfOk pt d10 := ⟨⟨rfl, rfl, rfl, by decide +kernel, rfl, by decide +kernel, by decide +kernel⟩, fun _ _ _ _ _ _ us hl => match us, hl with | [_], _ => rfl, fun _ Y Γ k X W Ow0 fr hfr F CS M Z => by
  obtain rfl : fr = false := not_fr rfl hfr
  have E : En pt Y Γ k d10.N X W d10.scope := ⟨F, M⟩
  have B : Eb pt Y Γ k d10.N X W d10.scope Ow0 false := ⟨E, CS⟩
  show JSs X B.w d10.body (m_is_row Γ (Γ.call 7) (Γ.call 6)); delta m_is_row
  exact s_cons B (s_if B (r_or E rfl (.cons rfl (r_no E (r_isi E .tuple 3 (by rfl) rfl (by kernel_rfl) (by kernel_rfl) (by kernel_rfl) (by kernel_rfl) rfl (r_v E (i := 0) (by kernel_rfl)))) (.cons rfl (r_cmp E (op := .ne) rfl rfl (r_bi E .len rfl (by kernel_rfl) (by kernel_rfl) rfl (.cons rfl (r_v E (i := 0) (by kernel_rfl)) .nil)) (r_k E (by rfl))) (.cons rfl (r_no E (r_call E 7 at_7 rfl (by kernel_rfl) (by kernel_rfl) rfl (.cons rfl (r_ix E rfl (r_v E (i := 0) (by kernel_rfl)) (r_k E (by rfl))) .nil))) .nil)))) (s_cons B (s_ret B rfl (r_k E (by rfl))) (s_nil B)) (s_nil B)) (s_cons B (s_ret B rfl (r_and E rfl (.cons rfl (r_call E 6 at_6 rfl (by kernel_rfl) (by kernel_rfl) rfl (.cons rfl (r_ix E rfl (r_v E (i := 0) (by kernel_rfl)) (r_k E (by rfl))) (.cons rfl (r_k E (by rfl)) (.cons rfl (r_gi E 2 (by rfl) (by kernel_rfl) (by kernel_rfl)) .nil)))) (.cons rfl (r_call E 6 at_6 rfl (by kernel_rfl) (by kernel_rfl) rfl (.cons rfl (r_ix E rfl (r_v E (i := 0) (by kernel_rfl)) (r_k E (by rfl))) (.cons rfl (r_k E (by rfl)) (.cons rfl (r_gi E 3 (by rfl) (by kernel_rfl) (by kernel_rfl)) .nil)))) .nil)))) (s_nil B)), fun h => Bool.noConfusion (show false = true from h)⟩
theorem ok_11 : DfOk pt d11 := ⟨⟨rfl, rfl, rfl, by decide +kernel, rfl, by decide +kernel, by decide +kernel⟩, fun _ _ _ _ _ _ us hl => match us, hl with | [_], _ => rfl, fun _ Y Γ k X W Ow0 fr hfr F CS M Z => by
  obtain rfl : fr = false := not_fr rfl hfr
  have E : En pt Y Γ k d11.N X W d11.scope := ⟨F, M⟩
  have B : Eb pt Y Γ k d11.N X W d11.scope Ow0 false := ⟨E, CS⟩
  show JSs X B.w d11.body (m_wrong_row Γ (Γ.call 10)); delta m_wrong_row
  exact s_cons B (s_own B (i := 1) (by kernel_rfl) rfl (f_lst E (by kernel_rfl) .nil)) (s_cons B (s_for B rfl (i_enum E (by kernel_rfl) (by kernel_rfl) rfl (r_v E (i := 0) (by kernel_rfl))) (p_tp E rfl rfl (pts_cons rfl (p_nmB B (by kernel_rfl)) (pts_cons rfl (p_nmB B (by kernel_rfl)) pts_nil))) (s_cons B (s_if B (r_or E rfl (.cons rfl (r_no E (r_call E 10 at_10 rfl (by kernel_rfl) (by kernel_rfl) rfl (.cons rfl (r_v E (i := 3) (by kernel_rfl)) .nil))) (.cons rfl (r_cmp E (op := .mem) rfl rfl (r_ix E rfl (r_v E (i := 3) (by kernel_rfl)) (r_k E (by rfl))) (r_pk E (i := 1) (by kernel_rfl))) (.cons rfl (r_cmp E (op := .ge) rfl rfl (r_v E (i := 2) (by kernel_rfl)) (r_gi E 1 (by rfl) (by kernel_rfl) (by kernel_rfl))) .nil)))) (s_cons B (s_ret B rfl (r_v E (i := 2) (by kernel_rfl))) (s_nil B)) (s_nil B)) (s_cons B (s_app B (i := 1) (by kernel_rfl) rfl rfl (r_ix E rfl (r_v E (i := 3) (by kernel_rfl)) (r_k E (by rfl)))) (s_nil B)))) (s_cons B (s_ret B rfl (r_k E (by rfl))) (s_nil B))), fun h => Bool.noConfusion (show false = true from h)⟩
theorem ok_12 : DfOk pt d12 := ⟨⟨rfl, rfl, rfl, by decide +kernel, rfl, by decide +kernel, by decide +kernel⟩, fun _ _ _ _ _ _ us hl => match us, hl with | [_], _ => rfl, fun _ Y Γ k X W Ow0 fr hfr F CS M Z => by
  obtain rfl : fr = false := not_fr rfl hfr
  have E : En pt Y Γ k d12.N X W d12.scope := ⟨F, M⟩
  have B : Eb pt Y Γ k d12.N X W d12.scope Ow0 false := ⟨E, CS⟩
  show JSs X B.w d12.body (m_check_rows Γ 2 (Γ.call 11)); delta m_check_rows
  exact s_cons B (s_if B (r_or E rfl (.cons rfl (r_no E (r_isi E .tuple 3 (by rfl) rfl (by kernel_rfl) (by kernel_rfl) (by kernel_rfl) (by kernel_rfl) rfl (r_v E (i := 0) (by kernel_rfl)))) (.cons rfl (r_cmp E (op := .eq) rfl rfl (r_bi E .len rfl (by kernel_rfl) (by kernel_rfl) rfl (.cons rfl (r_v E (i := 0) (by kernel_rfl)) .nil)) (r_k E (by rfl))) .nil))) (s_cons B (s_raise B 2 (by rfl) (by rfl) (by rfl) (by kernel_rfl) (by kernel_rfl) rfl (r_k E (by rfl))) (s_nil B)) (s_nil B)) (s_cons B (s_nm B (i := 1) (by kernel_rfl) rfl (r_call E 11 at_11 rfl (by kernel_rfl) (by kernel_rfl) rfl (.cons rfl (r_v E (i := 0) (by kernel_rfl)) .nil))) (s_cons B (s_if B (r_cmp E (op := .isnot) rfl rfl (r_v E (i := 1) (by kernel_rfl)) (r_k E (by rfl))) (s_cons B (s_raise B 2 (by rfl) (by rfl) (by rfl) (by kernel_rfl) (by kernel_rfl) rfl (r_v E (i := 1) (by kernel_rfl))) (s_nil B)) (s_nil B)) (s_nil B))), fun h => Bool.noConfusion (show false = true from h)⟩
theorem ok_13 : DfOk pt d13 := ⟨⟨rfl, rfl, rfl, by decide +kernel, rfl, by decide +kernel, by decide +kernel⟩, fun _ _ _ _ _ _ us hl => match us, hl with | [_], _ => rfl, fun _ Y Γ k X W Ow0 fr hfr F CS M Z => by
  obtain rfl : fr = false := not_fr rfl hfr
  have E : En pt Y Γ k d13.N X W d13.scope := ⟨F, M⟩
  have B : Eb pt Y Γ k d13.N X W d13.scope Ow0 false := ⟨E, CS⟩
  show JSs X B.w d13.body (m_read_row Γ (Γ.call 7) (Γ.call 9)); delta m_read_row
  exact s_cons B (s_nm B (i := 1) (by kernel_rfl) rfl (r_split E (by decide) rfl rfl (r_v E (i := 0) (by kernel_rfl)))) (s_cons B (s_if B (r_or E rfl (.cons rfl (r_cmp E (op := .ne) rfl rfl (r_bi E .len rfl (by kernel_rfl) (by kernel_rfl) rfl (.cons rfl (r_v E (i := 1) (by kernel_rfl)) .nil)) (r_k E (by rfl))) (.cons rfl (r_no E (r_call E 7 at_7 rfl (by kernel_rfl) (by kernel_rfl) rfl (.cons rfl (r_ix E rfl (r_v E (i := 1) (by kernel_rfl)) (r_k E (by rfl))) .nil))) .nil))) (s_cons B (s_ret B rfl (r_k E (by rfl))) (s_nil B)) (s_nil B)) (s_cons B (s_par2 B (i := 2) (j := 3) (by kernel_rfl) (by kernel_rfl) (by decide) (by kernel_rfl) (by kernel_rfl) (by kernel_rfl) (.val rfl (r_call E 9 at_9 rfl (by kernel_rfl) (by kernel_rfl) rfl (.cons rfl (r_ix E rfl (r_v E (i := 1) (by kernel_rfl)) (r_k E (by rfl))) (.cons rfl (r_k E (by rfl)) (.cons rfl (r_gi E 2 (by rfl) (by kernel_rfl) (by kernel_rfl)) .nil)))) (.val rfl (r_call E 9 at_9 rfl (by kernel_rfl) (by kernel_rfl) rfl (.cons rfl (r_ix E rfl (r_v E (i := 1) (by kernel_rfl)) (r_k E (by rfl))) (.cons rfl (r_k E (by rfl)) (.cons rfl (r_gi E 3 (by rfl) (by kernel_rfl) (by kernel_rfl)) .nil)))) .nil))) (s_cons B (s_ret B rfl (r_ifeS E (r_or E rfl (.cons rfl (r_cmp E (op := .is) rfl rfl (r_v E (i := 2) (by kernel_rfl)) (r_k E (by rfl))) (.cons rfl (r_cmp E (op := .is) rfl rfl (r_v E (i := 3) (by kernel_rfl)) (r_k E (by rfl))) .nil))) (r_k E (by rfl)) (r_tup E (by kernel_rfl) (.cons rfl (r_ix E rfl (r_v E (i := 1) (by kernel_rfl)) (r_k E (by rfl))) (.cons rfl (r_v E (i := 2) (by kernel_rfl)) (.cons rfl (r_v E (i := 3) (by kernel_rfl)) .nil)))))) (s_nil B)))), fun h => Bool.noConfusion (show false = true from h)⟩
theorem ok_14 : DfOk pt d14 := ⟨⟨rfl, rfl, rfl, by decide +kernel, rfl, by decide +kernel, by decide +kernel⟩, fun _ _ _ _ _ _ us hl => match us, hl with | [_], _ => rfl, fun _ Y Γ k X W Ow0 fr hfr F CS M Z => by
  obtain rfl : fr = false := not_fr rfl hfr
  have E : En pt Y Γ k d14.N X W d14.scope := ⟨F, M⟩
  have B : Eb pt Y Γ k d14.N X W d14.scope Ow0 false := ⟨E, CS⟩
  show JSs X B.w d14.body (m_read_list Γ (Γ.call 9) (Γ.call 13) (Γ.call 11)); delta m_read_list
  exact s_cons B (s_if B (r_no E (r_isi E .str 2 (by rfl) rfl (by kernel_rfl) (by kernel_rfl) (by kernel_rfl) (by kernel_rfl) rfl (r_v E (i := 0) (by kernel_rfl)))) (s_cons B (s_ret B rfl (r_k E (by rfl))) (s_nil B)) (s_nil B)) (s_cons B (s_nm B (i := 1) (by kernel_rfl) rfl (r_split E (by decide) rfl rfl (r_v E (i := 0) (by kernel_rfl)))) (s_cons B (s_nm B (i := 2) (by kernel_rfl) rfl (r_split E (by decide) rfl rfl (r_ix E rfl (r_v E (i := 1) (by kernel_rfl)) (r_k E (by rfl))))) (s_cons B (s_nm B (i := 3) (by kernel_rfl) rfl (r_ifeS E (r_and E rfl (.cons rfl (r_cmp E (op := .eq) rfl rfl (r_bi E .len rfl (by kernel_rfl) (by kernel_rfl) rfl (.cons rfl (r_v E (i := 2) (by kernel_rfl)) .nil)) (r_k E (by rfl))) (.cons rfl (r_cmp E (op := .eq) rfl rfl (r_ix E rfl (r_v E (i := 2) (by kernel_rfl)) (r_k E (by rfl))) (r_k E (by kernel_rfl))) .nil))) (r_call E 9 at_9 rfl (by kernel_rfl) (by kernel_rfl) rfl (.cons rfl (r_ix E rfl (r_v E (i := 2) (by kernel_rfl)) (r_k E (by rfl))) (.cons rfl (r_k E (by rfl)) (.cons rfl (r_gi E 0 (by rfl) (by kernel_rfl) (by kernel_rfl)) .nil)))) (r_k E (by rfl)))) (s_cons B (s_lcN B (i := 4) (by kernel_rfl) (by kernel_rfl) rfl (lc_ok E (rI := true) (own := [("line", 5)]) (p := .nm 5) rfl (by kernel_rfl) (by kernel_rfl) (i_of E (r_sl E (r_v E (i := 1) (by kernel_rfl)) (.some (r_k E (by rfl))) .none)) (fun _ E' hfE' => p_nm E' (by kernel_rfl)) (fun _ E' => .nil) (fun _ E' => r_call E' 13 at_13 rfl (by kernel_rfl) (by kernel_rfl) rfl (.cons rfl (r_v E' (i := 5) (by kernel_rfl)) .nil)))) (s_cons B (s_if B (r_or E rfl (.cons rfl (r_cmp E (op := .is) rfl rfl (r_v E (i := 3) (by kernel_rfl)) (r_k E (by rfl))) (.cons rfl (r_cmp E (op := .eq) rfl rfl (r_v E (i := 4) (by kernel_rfl)) (r_lst E (by kernel_rfl) .nil)) (.cons rfl (r_cmp E (op := .mem) rfl rfl (r_k E (by rfl)) (r_v E (i := 4) (by kernel_rfl))) (.cons rfl (r_cmp E (op := .isnot) rfl rfl (r_call E 11 at_11 rfl (by kernel_rfl) (by kernel_rfl) rfl (.cons rfl (r_v E (i := 4) (by kernel_rfl)) .nil)) (r_k E (by rfl))) .nil))))) (s_cons B (s_ret B rfl (r_k E (by rfl))) (s_nil B)) (s_nil B)) (s_cons B (s_ret B rfl (r_tup E (by kernel_rfl) (.cons rfl (r_v E (i := 3) (by kernel_rfl)) (.cons rfl (r_bi E .tuple rfl (by kernel_rfl) (by kernel_rfl) rfl (.cons rfl (r_v E (i := 4) (by kernel_rfl)) .nil)) .nil)))) (s_nil B))))))), fun h => Bool.noConfusion (show false = true from h)⟩
theorem ok_15 : DfOk pt d15 := ⟨⟨rfl, rfl, rfl, by decide +kernel, rfl, by decide +kernel, by decide +kernel⟩, fun _ _ _ _ _ _ us hl => match us, hl with | [_, _, _], _ => rfl, fun _ Y Γ k X W Ow0 fr hfr F CS M Z => by
  obtain rfl : fr = false := not_fr rfl hfr
  have E : En pt Y Γ k d15.N X W d15.scope := ⟨F, M⟩
  have B : Eb pt Y Γ k d15.N X W d15.scope Ow0 false := ⟨E, CS⟩
  show JSs X B.w d15.body (m_List_init Γ (Γ.call 8) (Γ.call 12)); delta m_List_init
  exact s_cons B (s_ex B rfl (r_call E 8 at_8 rfl (by kernel_rfl) (by kernel_rfl) rfl (.cons rfl (r_v E (i := 1) (by kernel_rfl)) .nil))) (s_cons B (s_ex B rfl (r_call E 12 at_12 rfl (by kernel_rfl) (by kernel_rfl) rfl (.cons rfl (r_v E (i := 2) (by kernel_rfl)) .nil))) (s_cons B (s_fld B 6 (by rfl) rfl (r_v E (i := 0) (by kernel_rfl)) (r_v E (i := 1) (by kernel_rfl))) (s_cons B (s_fld B 7 (by rfl) rfl (r_v E (i := 0) (by kernel_rfl)) (r_v E (i := 2) (by kernel_rfl))) (s_nil B)))), fun h => Bool.noConfusion (show false = true from h)⟩
theorem ok_16 : DfOk pt d16 := ⟨⟨rfl, rfl, rfl, by decide +kernel, rfl, by decide +kernel, by decide +kernel⟩, fun _ _ _ _ _ _ us hl => match us, hl with | [_, _], _ => rfl, fun _ Y Γ k X W Ow0 fr hfr F CS M Z => by
  obtain rfl : fr = false := not_fr rfl hfr
  have E : En pt Y Γ k d16.N X W d16.scope := ⟨F, M⟩
  have B : Eb pt Y Γ k d16.N X W d16.scope Ow0 false := ⟨E, CS⟩
  show JSs X B.w d16.body (m_List_read Γ (Γ.call 14) 0 0); delta m_List_read
  exact s_cons B (s_nm B (i := 2) (by kernel_rfl) rfl (r_call E 14 at_14 rfl (by kernel_rfl) (by kernel_rfl) rfl (.cons rfl (r_v E (i := 1) (by kernel_rfl)) .nil))) (s_cons B (s_if B (r_cmp E (op := .is) rfl rfl (r_v E (i := 2) (by kernel_rfl)) (r_k E (by rfl))) (s_cons B (s_raise B 0 (by rfl) (by rfl) (by rfl) (by kernel_rfl) (by kernel_rfl) rfl (r_v E (i := 1) (by kernel_rfl))) (s_nil B)) (s_nil B)) (s_cons B (s_ret B rfl (r_mkc E (i := 0) 0 (by rfl) (by rfl) (by rfl) (by kernel_rfl) rfl (.cons rfl (r_ix E rfl (r_v E (i := 2) (by kernel_rfl)) (r_k E (by rfl))) (.cons rfl (r_ix E rfl (r_v E (i := 2) (by kernel_rfl)) (r_k E (by rfl))) .nil)))) (s_nil B))), fun h => Bool.noConfusion (show false = true from h)⟩
theorem ok_17 : DfOk pt d17 := ⟨⟨rfl, rfl, rfl, by decide +kernel, rfl, by decide +kernel, by decide +kernel⟩, fun _ _ _ _ _ _ us hl => match us, hl with | [_], _ => rfl, fun _ Y Γ k X W Ow0 fr hfr F CS M Z => by
  obtain rfl : fr = false := not_fr rfl hfr
  have E : En pt Y Γ k d17.N X W d17.scope := ⟨F, M⟩
  have B : Eb pt Y Γ k d17.N X W d17.scope Ow0 false := ⟨E, CS⟩
  show JSs X B.w d17.body (m_List_points Γ); delta m_List_points
  exact s_cons B (s_ret B rfl (r_at E 6 (by rfl) rfl (r_v E (i := 0) (by kernel_rfl)))) (s_nil B), fun h => Bool.noConfusion (show false = true from h)⟩
theorem ok_18 : DfOk pt d18 := ⟨⟨rfl, rfl, rfl, by decide +kernel, rfl, by decide +kernel, by decide +kernel⟩, fun _ _ _ _ _ _ us hl => match us, hl with | [_], _ => rfl, fun _ Y Γ k X W Ow0 fr hfr F CS M Z => by
  obtain rfl : fr = false := not_fr rfl hfr
  have E : En pt Y Γ k d18.N X W d18.scope := ⟨F, M⟩
  have B : Eb pt Y Γ k d18.N X W d18.scope Ow0 false := ⟨E, CS⟩
  show JSs X B.w d18.body (m_List_rows Γ); delta m_List_rows
  exact s_cons B (s_ret B rfl (r_at E 7 (by rfl) rfl (r_v E (i := 0) (by kernel_rfl)))) (s_nil B), fun h => Bool.noConfusion (show false = true from h)⟩
theorem ok_19 : DfOk pt d19 := ⟨⟨rfl, rfl, rfl, by decide +kernel, rfl, by decide +kernel, by decide +kernel⟩, fun _ _ _ _ _ _ us hl => match us, hl with | [_], _ => rfl, fun _ Y Γ k X W Ow0 fr hfr F CS M Z => by
  obtain rfl : fr = false := not_fr rfl hfr
  have E : En pt Y Γ k d19.N X W d19.scope := ⟨F, M⟩
  have B : Eb pt Y Γ k d19.N X W d19.scope Ow0 false := ⟨E, CS⟩
  show JSs X B.w d19.body (m_List_kinds Γ); delta m_List_kinds
  exact s_cons B (s_ret B rfl (r_bi E .tuple rfl (by kernel_rfl) (by kernel_rfl) rfl (.cons rfl (r_lc E (lc_ok E (rI := true) (own := [("row", 1)]) (p := .nm 1) rfl (by kernel_rfl) (by kernel_rfl) (i_of E (r_at E 7 (by rfl) rfl (r_v E (i := 0) (by kernel_rfl)))) (fun _ E' hfE' => p_nm E' (by kernel_rfl)) (fun _ E' => .nil) (fun _ E' => r_ix E' rfl (r_v E' (i := 1) (by kernel_rfl)) (r_k E' (by rfl))))) .nil))) (s_nil B), fun h => Bool.noConfusion (show false = true from h)⟩
theorem ok_20 : DfOk pt d20 := ⟨⟨rfl, rfl, rfl, by decide +kernel, rfl, by decide +kernel, by decide +kernel⟩, fun _ _ _ _ _ _ us hl => match us, hl with | [_], _ => rfl, fun _ Y Γ k X W Ow0 fr hfr F CS M Z => by
  obtain rfl : fr = false := not_fr rfl hfr
  have E : En pt Y Γ k d20.N X W d20.scope := ⟨F, M⟩
  have B : Eb pt Y Γ k d20.N X W d20.scope Ow0 false := ⟨E, CS⟩
  show JSs X B.w d20.body (m_List_players Γ); delta m_List_players
  exact s_cons B (s_ret B rfl (r_bi E .sum rfl (by kernel_rfl) (by kernel_rfl) rfl (.cons rfl (r_lc E (lc_ok E (rI := true) (own := [("row", 1)]) (p := .nm 1) rfl (by kernel_rfl) (by kernel_rfl) (i_of E (r_at E 7 (by rfl) rfl (r_v E (i := 0) (by kernel_rfl)))) (fun _ E' hfE' => p_nm E' (by kernel_rfl)) (fun _ E' => .nil) (fun _ E' => r_ix E' rfl (r_v E' (i := 1) (by kernel_rfl)) (r_k E' (by rfl))))) .nil))) (s_nil B), fun h => Bool.noConfusion (show false = true from h)⟩
theorem ok_21 : DfOk pt d21 := ⟨⟨rfl, rfl, rfl, by decide +kernel, rfl, by decide +kernel, by decide +kernel⟩, fun _ _ _ _ _ _ us hl => match us, hl with | [_, _], _ => rfl, fun _ Y Γ k X W Ow0 fr hfr F CS M Z => by
  obtain rfl : fr = false := not_fr rfl hfr
  have E : En pt Y Γ k d21.N X W d21.scope := ⟨F, M⟩
  have B : Eb pt Y Γ k d21.N X W d21.scope Ow0 false := ⟨E, CS⟩
  show JSs X B.w d21.body (m_List_contains Γ); delta m_List_contains
  exact s_cons B (s_ret B rfl (r_cmp E (op := .mem) rfl rfl (r_v E (i := 1) (by kernel_rfl)) (r_at E 18 (by rfl) rfl (r_v E (i := 0) (by kernel_rfl))))) (s_nil B), fun h => Bool.noConfusion (show false = true from h)⟩
theorem ok_22 : DfOk pt d22 := ⟨⟨rfl, rfl, rfl, by decide +kernel, rfl, by decide +kernel, by decide +kernel⟩, fun _ _ _ _ _ _ us hl => match us, hl with | [_], _ => rfl, fun _ Y Γ k X W Ow0 fr hfr F CS M Z => by
  obtain rfl : fr = false := not_fr rfl hfr
  have E : En pt Y Γ k d22.N X W d22.scope := ⟨F, M⟩
  have B : Eb pt Y Γ k d22.N X W d22.scope Ow0 false := ⟨E, CS⟩
  show JSs X B.w d22.body (m_List_len Γ); delta m_List_len
  exact s_cons B (s_ret B rfl (r_bi E .len rfl (by kernel_rfl) (by kernel_rfl) rfl (.cons rfl (r_at E 7 (by rfl) rfl (r_v E (i := 0) (by kernel_rfl))) .nil))) (s_nil B), fun h => Bool.noConfusion (show false = true from h)⟩
theorem ok_23 : DfOk pt d23 := ⟨⟨rfl, rfl, rfl, by decide +kernel, rfl, by decide +kernel, by decide +kernel⟩, fun _ _ _ _ _ _ us hl => match us, hl with | [_], _ => rfl, fun _ Y Γ k X W Ow0 fr hfr F CS M Z => by
  obtain rfl : fr = false := not_fr rfl hfr
  have E : En pt Y Γ k d23.N X W d23.scope := ⟨F, M⟩
  have B : Eb pt Y Γ k d23.N X W d23.scope Ow0 false := ⟨E, CS⟩
  show JSs X B.w d23.body (m_List_bool Γ); delta m_List_bool
  exact s_cons B (s_ret B rfl (r_k E (by rfl))) (s_nil B), fun h => Bool.noConfusion (show false = true from h)⟩
theorem ok_24 : DfOk pt d24 := ⟨⟨rfl, rfl, rfl, by decide +kernel, rfl, by decide +kernel, by decide +kernel⟩, fun _ _ _ _ _ _ us hl => match us, hl with | [_, _], _ => rfl, fun _ Y Γ k X W Ow0 fr hfr F CS M Z => by
  obtain rfl : fr = false := not_fr rfl hfr
  have E : En pt Y Γ k d24.N X W d24.scope := ⟨F, M⟩
  have B : Eb pt Y Γ k d24.N X W d24.scope Ow0 false := ⟨E, CS⟩
  show JSs X B.w d24.body (m_List_eq Γ 0); delta m_List_eq
  exact s_cons B (s_ret B rfl (r_and E rfl (.cons rfl (r_isiO E 0 4 (by rfl) (by rfl) (by rfl) (by kernel_rfl) (by kernel_rfl) (by kernel_rfl) (by kernel_rfl) rfl (r_v E (i := 1) (by kernel_rfl))) (.cons rfl (r_cmp E (op := .eq) rfl rfl (r_at E 6 (by rfl) rfl (r_v E (i := 0) (by kernel_rfl))) (r_at E 6 (by rfl) rfl (r_v E (i := 1) (by kernel_rfl)))) (.cons rfl (r_cmp E (op := .eq) rfl rfl (r_at E 7 (by rfl) rfl (r_v E (i := 0) (by kernel_rfl))) (r_at E 7 (by rfl) rfl (r_v E (i := 1) (by kernel_rfl)))) .nil))))) (s_nil B), fun h => Bool.noConfusion (show false = true from h)⟩
theorem ok_25 : DfOk pt d25 := ⟨⟨rfl, rfl, rfl, by decide +kernel, rfl, by decide +kernel, by decide +kernel⟩, fun _ _ _ _ _ _ us hl => match us, hl with | [_], _ => rfl, fun _ Y Γ k X W Ow0 fr hfr F CS M Z => by
  obtain rfl : fr = false := not_fr rfl hfr
  have E : En pt Y Γ k d25.N X W d25.scope := ⟨F, M⟩
  have B : Eb pt Y Γ k d25.N X W d25.scope Ow0 false := ⟨E, CS⟩
  show JSs X B.w d25.body (m_List_str Γ); delta m_List_str
  exact s_cons B (s_lcN B (i := 1) (by kernel_rfl) (by kernel_rfl) rfl (lc_ok E (rI := true) (own := [("kind", 2), ("number", 3), ("score", 4)]) (p := .tp [.nm 2, .nm 3, .nm 4]) rfl (by kernel_rfl) (by kernel_rfl) (i_of E (r_at E 7 (by rfl) rfl (r_v E (i := 0) (by kernel_rfl)))) (fun _ E' hfE' => p_tp E' rfl rfl (pts_cons rfl (p_nm E' (by kernel_rfl)) (pts_cons rfl (p_nm E' (by kernel_rfl)) (pts_cons rfl (p_nm E' (by kernel_rfl)) pts_nil)))) (fun _ E' => .nil) (fun _ E' => r_joined E' (.cons (r_fmt E' (r_v E' (i := 2) (by kernel_rfl))) (.cons (r_k E' (by kernel_rfl)) (.cons (r_fmt E' (r_v E' (i := 3) (by kernel_rfl))) (.cons (r_k E' (by kernel_rfl)) (.cons (r_fmt E' (r_v E' (i := 4) (by kernel_rfl))) .nil)))))))) (s_cons B (s_ret B rfl (r_join E [10] (by kernel_rfl) rfl rfl (r_star E rfl (r_joined E (.cons (r_k E (by kernel_rfl)) (.cons (r_fmt E (r_at E 6 (by rfl) rfl (r_v E (i := 0) (by kernel_rfl)))) .nil))) (r_v E (i := 1) (by kernel_rfl))))) (s_nil B)), fun h => Bool.noConfusion (show false = true from h)⟩
theorem ok_26 : DfOk pt d26 := ⟨⟨rfl, rfl, rfl, by decide +kernel, rfl, by decide +kernel, by decide +kernel⟩, fun _ _ _ _ _ _ us hl => match us, hl with | [_, _], _ => rfl, fun _ Y Γ k X W Ow0 fr hfr F CS M Z => by
  obtain rfl : fr = false := not_fr rfl hfr
  have E : En pt Y Γ k d26.N X W d26.scope := ⟨F, M⟩
  have B : Eb pt Y Γ k d26.N X W d26.scope Ow0 false := ⟨E, CS⟩
  show JSs X B.w d26.body (m_is_left Γ (Γ.call 6)); delta m_is_left
  exact s_cons B (s_if B (r_or E rfl (.cons rfl (r_no E (r_isi E .tuple 3 (by rfl) rfl (by kernel_rfl) (by kernel_rfl) (by kernel_rfl) (by kernel_rfl) rfl (r_v E (i := 0) (by kernel_rfl)))) (.cons rfl (r_cmp E (op := .ne) rfl rfl (r_bi E .len rfl (by kernel_rfl) (by kernel_rfl) rfl (.cons rfl (r_v E (i := 0) (by kernel_rfl)) .nil)) (r_k E (by rfl))) (.cons rfl (r_no E (r_call E 6 at_6 rfl (by kernel_rfl) (by kernel_rfl) rfl (.cons rfl (r_ix E rfl (r_v E (i := 0) (by kernel_rfl)) (r_k E (by rfl))) (.cons rfl (r_k E (by rfl)) (.cons rfl (r_gi E 4 (by rfl) (by kernel_rfl) (by kernel_rfl)) .nil))))) .nil)))) (s_cons B (s_ret B rfl (r_k E (by rfl))) (s_nil B)) (s_nil B)) (s_cons B (s_ret B rfl (r_and E rfl (.cons rfl (r_cmp E (op := .mem) rfl rfl (r_ix E rfl (r_v E (i := 0) (by kernel_rfl)) (r_k E (by rfl))) (r_v E (i := 1) (by kernel_rfl))) (.cons rfl (r_cmp E (op := .mem) rfl rfl (r_ix E rfl (r_v E (i := 0) (by kernel_rfl)) (r_k E (by rfl))) (r_v E (i := 1) (by kernel_rfl))) .nil)))) (s_nil B)), fun h => Bool.noConfusion (show false = true from h)⟩
theorem ok_27 : DfOk pt d27 := ⟨⟨rfl, rfl, rfl, by decide +kernel, rfl, by decide +kernel, by decide +kernel⟩, fun _ _ _ _ _ _ us hl => match us, hl with | [_, _], _ => rfl, fun _ Y Γ k X W Ow0 fr hfr F CS M Z => by
  obtain rfl : fr = false := not_fr rfl hfr
  have E : En pt Y Γ k d27.N X W d27.scope := ⟨F, M⟩
  have B : Eb pt Y Γ k d27.N X W d27.scope Ow0 false := ⟨E, CS⟩
  show JSs X B.w d27.body (m_wrong_left Γ (Γ.call 26)); delta m_wrong_left
  exact s_cons B (s_own B (i := 2) (by kernel_rfl) rfl (f_lst E (by kernel_rfl) .nil)) (s_cons B (s_for B rfl (i_enum E (by kernel_rfl) (by kernel_rfl) rfl (r_v E (i := 0) (by kernel_rfl))) (p_tp E rfl rfl (pts_cons rfl (p_nmB B (by kernel_rfl)) (pts_cons rfl (p_nmB B (by kernel_rfl)) pts_nil))) (s_cons B (s_if B (r_or E rfl (.cons rfl (r_no E (r_call E 26 at_26 rfl (by kernel_rfl) (by kernel_rfl) rfl (.cons rfl (r_v E (i := 4) (by kernel_rfl)) (.cons rfl (r_v E (i := 1) (by kernel_rfl)) .nil)))) (.cons rfl (r_cmp E (op := .mem) rfl rfl (r_tup E (by kernel_rfl) (.cons rfl (r_ix E rfl (r_v E (i := 4) (by kernel_rfl)) (r_k E (by rfl))) (.cons rfl (r_ix E rfl (r_v E (i := 4) (by kernel_rfl)) (r_k E (by rfl))) .nil))) (r_pk E (i := 2) (by kernel_rfl))) (.cons rfl (r_cmp E (op := .mem) rfl rfl (r_tup E (by kernel_rfl) (.cons rfl (r_ix E rfl (r_v E (i := 4) (by kernel_rfl)) (r_k E (by rfl))) (.cons rfl (r_ix E rfl (r_v E (i := 4) (by kernel_rfl)) (r_k E (by rfl))) .nil))) (r_pk E (i := 2) (by kernel_rfl))) .nil)))) (s_cons B (s_ret B rfl (r_v E (i := 3) (by kernel_rfl))) (s_nil B)) (s_nil B)) (s_cons B (s_app B (i := 2) (by kernel_rfl) rfl rfl (r_tup E (by kernel_rfl) (.cons rfl (r_ix E rfl (r_v E (i := 4) (by kernel_rfl)) (r_k E (by rfl))) (.cons rfl (r_ix E rfl (r_v E (i := 4) (by kernel_rfl)) (r_k E (by rfl))) .nil)))) (s_nil B)))) (s_cons B (s_ret B rfl (r_k E (by rfl))) (s_nil B))), fun h => Bool.noConfusion (show false = true from h)⟩
theorem ok_28 : DfOk pt d28 := ⟨⟨rfl, rfl, rfl, by decide +kernel, rfl, by decide +kernel, by decide +kernel⟩, fun _ _ _ _ _ _ us hl => match us, hl with | [_, _, _, _], _ => rfl, fun _ Y Γ k X W Ow0 fr hfr F CS M Z => by
  obtain rfl : fr = false := not_fr rfl hfr
  have E : En pt Y Γ k d28.N X W d28.scope := ⟨F, M⟩
  have B : Eb pt Y Γ k d28.N X W d28.scope Ow0 false := ⟨E, CS⟩
  show JSs X B.w d28.body (m_Season_init Γ (Γ.call 8) (Γ.call 12) 3 (Γ.call 27)); delta m_Season_init
  exact s_cons B (s_ex B rfl (r_call E 8 at_8 rfl (by kernel_rfl) (by kernel_rfl) rfl (.cons rfl (r_v E (i := 1) (by kernel_rfl)) .nil))) (s_cons B (s_ex B rfl (r_call E 12 at_12 rfl (by kernel_rfl) (by kernel_rfl) rfl (.cons rfl (r_v E (i := 2) (by kernel_rfl)) .nil))) (s_cons B (s_lcN B (i := 4) (by kernel_rfl) (by kernel_rfl) rfl (lc_ok E (rI := true) (own := [("row", 6)]) (p := .nm 6) rfl (by kernel_rfl) (by kernel_rfl) (i_of E (r_v E (i := 2) (by kernel_rfl))) (fun _ E' hfE' => p_nm E' (by kernel_rfl)) (fun _ E' => .nil) (fun _ E' => r_ix E' rfl (r_v E' (i := 6) (by kernel_rfl)) (r_k E' (by rfl))))) (s_cons B (s_if B (r_no E (r_isi E .tuple 3 (by rfl) rfl (by kernel_rfl) (by kernel_rfl) (by kernel_rfl) (by kernel_rfl) rfl (r_v E (i := 3) (by kernel_rfl)))) (s_cons B (s_raise B 3 (by rfl) (by rfl) (by rfl) (by kernel_rfl) (by kernel_rfl) rfl (r_k E (by rfl))) (s_nil B)) (s_nil B)) (s_cons B (s_nm B (i := 5) (by kernel_rfl) rfl (r_call E 27 at_27 rfl (by kernel_rfl) (by kernel_rfl) rfl (.cons rfl (r_v E (i := 3) (by kernel_rfl)) (.cons rfl (r_v E (i := 4) (by kernel_rfl)) .nil)))) (s_cons B (s_if B (r_cmp E (op := .isnot) rfl rfl (r_v E (i := 5) (by kernel_rfl)) (r_k E (by rfl))) (s_cons B (s_raise B 3 (by rfl) (by rfl) (by rfl) (by kernel_rfl) (by kernel_rfl) rfl (r_v E (i := 5) (by kernel_rfl))) (s_nil B)) (s_nil B)) (s_cons B (s_fld B 6 (by rfl) rfl (r_v E (i := 0) (by kernel_rfl)) (r_v E (i := 1) (by kernel_rfl))) (s_cons B (s_fld B 7 (by rfl) rfl (r_v E (i := 0) (by kernel_rfl)) (r_v E (i := 2) (by kernel_rfl))) (s_cons B (s_fld B 8 (by rfl) rfl (r_v E (i := 0) (by kernel_rfl)) (r_v E (i := 3) (by kernel_rfl))) (s_nil B))))))))), fun h => Bool.noConfusion (show false = true from h)⟩
theorem ok_29 : DfOk pt d29 := ⟨⟨rfl, rfl, rfl, by decide +kernel, rfl, by decide +kernel, by decide +kernel⟩, fun _ _ _ _ _ _ us hl => match us, hl with | [_], _ => rfl, fun _ Y Γ k X W Ow0 fr hfr F CS M Z => by
  obtain rfl : fr = false := not_fr rfl hfr
  have E : En pt Y Γ k d29.N X W d29.scope := ⟨F, M⟩
  have B : Eb pt Y Γ k d29.N X W d29.scope Ow0 false := ⟨E, CS⟩
  show JSs X B.w d29.body (m_List_points Γ); delta m_List_points
  exact s_cons B (s_ret B rfl (r_at E 6 (by rfl) rfl (r_v E (i := 0) (by kernel_rfl)))) (s_nil B), fun h => Bool.noConfusion (show false = true from h)⟩
theorem ok_30 : DfOk pt d30 := ⟨⟨rfl, rfl, rfl, by decide +kernel, rfl, by decide +kernel, by decide +kernel⟩, fun _ _ _ _ _ _ us hl => match us, hl with | [_], _ => rfl, fun _ Y Γ k X W Ow0 fr hfr F CS M Z => by
  obtain rfl : fr = false := not_fr rfl hfr
  have E : En pt Y Γ k d30.N X W d30.scope := ⟨F, M⟩
  have B : Eb pt Y Γ k d30.N X W d30.scope Ow0 false := ⟨E, CS⟩
  show JSs X B.w d30.body (m_List_rows Γ); delta m_List_rows
  exact s_cons B (s_ret B rfl (r_at E 7 (by rfl) rfl (r_v E (i := 0) (by kernel_rfl)))) (s_nil B), fun h => Bool.noConfusion (show false = true from h)⟩
theorem ok_31 : DfOk pt d31 := ⟨⟨rfl, rfl, rfl, by decide +kernel, rfl, by decide +kernel, by decide +kernel⟩, fun _ _ _ _ _ _ us hl => match us, hl with | [_], _ => rfl, fun _ Y Γ k X W Ow0 fr hfr F CS M Z => by
  obtain rfl : fr = false := not_fr rfl hfr
  have E : En pt Y Γ k d31.N X W d31.scope := ⟨F, M⟩
  have B : Eb pt Y Γ k d31.N X W d31.scope Ow0 false := ⟨E, CS⟩
  show JSs X B.w d31.body (m_Season_left Γ); delta m_Season_left
  exact s_cons B (s_ret B rfl (r_at E 8 (by rfl) rfl (r_v E (i := 0) (by kernel_rfl)))) (s_nil B), fun h => Bool.noConfusion (show false = true from h)⟩
theorem ok_32 : DfOk pt d32 := ⟨⟨rfl, rfl, rfl, by decide +kernel, rfl, by decide +kernel, by decide +kernel⟩, fun _ _ _ _ _ _ us hl => match us, hl with | [_], _ => rfl, fun _ Y Γ k X W Ow0 fr hfr F CS M Z => by
  obtain rfl : fr = false := not_fr rfl hfr
  have E : En pt Y Γ k d32.N X W d32.scope := ⟨F, M⟩
  have B : Eb pt Y Γ k d32.N X W d32.scope Ow0 false := ⟨E, CS⟩
  show JSs X B.w d32.body (m_List_kinds Γ); delta m_List_kinds
  exact s_cons B (s_ret B rfl (r_bi E .tuple rfl (by kernel_rfl) (by kernel_rfl) rfl (.cons rfl (r_lc E (lc_ok E (rI := true) (own := [("row", 1)]) (p := .nm 1) rfl (by kernel_rfl) (by kernel_rfl) (i_of E (r_at E 7 (by rfl) rfl (r_v E (i := 0) (by kernel_rfl)))) (fun _ E' hfE' => p_nm E' (by kernel_rfl)) (fun _ E' => .nil) (fun _ E' => r_ix E' rfl (r_v E' (i := 1) (by kernel_rfl)) (r_k E' (by rfl))))) .nil))) (s_nil B), fun h => Bool.noConfusion (show false = true from h)⟩
theorem ok_33 : DfOk pt d33 := ⟨⟨rfl, rfl, rfl, by decide +kernel, rfl, by decide +kernel, by decide +kernel⟩, fun _ _ _ _ _ _ us hl => match us, hl with | [_, _, _], _ => rfl, fun _ Y Γ k X W Ow0 fr hfr F CS M Z => by
  obtain rfl : fr = false := not_fr rfl hfr
  have E : En pt Y Γ k d33.N X W d33.scope := ⟨F, M⟩
  have B : Eb pt Y Γ k d33.N X W d33.scope Ow0 false := ⟨E, CS⟩
  show JSs X B.w d33.body (m_Season_meetings Γ); delta m_Season_meetings
  exact s_cons B (s_nm B (i := 3) (by kernel_rfl) rfl (r_at E 18 (by rfl) rfl (r_v E (i := 0) (by kernel_rfl)))) (s_cons B (s_nm B (i := 4) (by kernel_rfl) rfl (r_lst E (by kernel_rfl) (.cons rfl (r_tup E (by kernel_rfl) (.cons rfl (r_ix E rfl (r_v E (i := 3) (by kernel_rfl)) (r_v E (i := 1) (by kernel_rfl))) (.cons rfl (r_ix E rfl (r_v E (i := 3) (by kernel_rfl)) (r_v E (i := 2) (by kernel_rfl))) .nil))) (.cons rfl (r_tup E (by kernel_rfl) (.cons rfl (r_ix E rfl (r_v E (i := 3) (by kernel_rfl)) (r_v E (i := 2) (by kernel_rfl))) (.cons rfl (r_ix E rfl (r_v E (i := 3) (by kernel_rfl)) (r_v E (i := 1) (by kernel_rfl))) .nil))) .nil)))) (s_cons B (s_lcN B (i := 5) (by kernel_rfl) (by kernel_rfl) rfl (lc_ok E (rI := true) (own := [("kind", 6), ("other", 7), ("times", 8)]) (p := .tp [.nm 6, .nm 7, .nm 8]) rfl (by kernel_rfl) (by kernel_rfl) (i_of E (r_at E 8 (by rfl) rfl (r_v E (i := 0) (by kernel_rfl)))) (fun _ E' hfE' => p_tp E' rfl rfl (pts_cons rfl (p_nm E' (by kernel_rfl)) (pts_cons rfl (p_nm E' (by kernel_rfl)) (pts_cons rfl (p_nm E' (by kernel_rfl)) pts_nil)))) (fun _ E' => .one (r_cmp E' (op := .mem) rfl rfl (r_tup E' (by kernel_rfl) (.cons rfl (r_v E' (i := 6) (by kernel_rfl)) (.cons rfl (r_v E' (i := 7) (by kernel_rfl)) .nil))) (r_v E' (i := 4) (by kernel_rfl)))) (fun _ E' => r_v E' (i := 8) (by kernel_rfl)))) (s_cons B (s_ret B rfl (r_ifeS E (r_cmp E (op := .ne) rfl rfl (r_v E (i := 5) (by kernel_rfl)) (r_lst E (by kernel_rfl) .nil)) (r_ix E rfl (r_v E (i := 5) (by kernel_rfl)) (r_k E (by rfl))) (r_k E (by rfl)))) (s_nil B)))), fun h => Bool.noConfusion (show false = true from h)⟩
theorem ok_34 : DfOk pt d34 := ⟨⟨rfl, rfl, rfl, by decide +kernel, rfl, by decide +kernel, by decide +kernel⟩, fun _ _ _ _ _ _ us hl => match us, hl with | [_, _], _ => rfl, fun _ Y Γ k X W Ow0 fr hfr F CS M Z => by
  obtain rfl : fr = false := not_fr rfl hfr
  have E : En pt Y Γ k d34.N X W d34.scope := ⟨F, M⟩
  have B : Eb pt Y Γ k d34.N X W d34.scope Ow0 false := ⟨E, CS⟩
  show JSs X B.w d34.body (m_Season_within Γ 1); delta m_Season_within
  exact s_cons B (s_nm B (i := 2) (by kernel_rfl) rfl (r_k E (by rfl))) (s_cons B (s_for B rfl (i_enum E (by kernel_rfl) (by kernel_rfl) rfl (r_v E (i := 1) (by kernel_rfl))) (p_tp E rfl rfl (pts_cons rfl (p_nmB B (by kernel_rfl)) (pts_cons rfl (p_nmB B (by kernel_rfl)) pts_nil))) (s_cons B (s_aug B (op := .add) (i := 2) (by kernel_rfl) (by first | exact .inl ⟨rfl, rfl⟩ | exact .inr ⟨rfl, rfl⟩) (r_op E (op := .fdiv) rfl (r_op E (op := .mul) rfl (r_op E (op := .mul) rfl (r_me E 1 34 33 (by rfl) (by rfl) at_33 rfl (by rfl) (by rfl) (r_v E (i := 0) (by kernel_rfl)) (.cons rfl (r_v E (i := 3) (by kernel_rfl)) (.cons rfl (r_v E (i := 3) (by kernel_rfl)) .nil)) rfl) (r_v E (i := 4) (by kernel_rfl))) (r_op E (op := .sub) rfl (r_v E (i := 4) (by kernel_rfl)) (r_k E (by rfl)))) (r_k E (by rfl)))) (s_cons B (s_aug B (op := .add) (i := 2) (by kernel_rfl) (by first | exact .inl ⟨rfl, rfl⟩ | exact .inr ⟨rfl, rfl⟩) (r_bi E .sum rfl (by kernel_rfl) (by kernel_rfl) rfl (.cons rfl (r_lc E (lc_ok E (rI := true) (own := [("two", 5)]) (p := .nm 5) rfl (by kernel_rfl) (by kernel_rfl) (i_rng1 E (by kernel_rfl) (by kernel_rfl) rfl (r_v E (i := 3) (by kernel_rfl))) (fun _ E' hfE' => p_nm E' (by kernel_rfl)) (fun _ E' => .nil) (fun _ E' => r_op E' (op := .mul) rfl (r_op E' (op := .mul) rfl (r_me E' 1 34 33 (by rfl) (by rfl) at_33 rfl (by rfl) (by rfl) (r_v E' (i := 0) (by kernel_rfl)) (.cons rfl (r_v E' (i := 3) (by kernel_rfl)) (.cons rfl (r_v E' (i := 5) (by kernel_rfl)) .nil)) rfl) (r_v E' (i := 4) (by kernel_rfl))) (r_ix E' rfl (r_v E' (i := 1) (by kernel_rfl)) (r_v E' (i := 5) (by kernel_rfl)))))) .nil))) (s_nil B)))) (s_cons B (s_ret B rfl (r_op E (op := .mul) rfl (r_at E 6 (by rfl) rfl (r_v E (i := 0) (by kernel_rfl))) (r_v E (i := 2) (by kernel_rfl)))) (s_nil B))), fun h => Bool.noConfusion (show false = true from h)⟩
theorem ok_35 : DfOk pt d35 := ⟨⟨rfl, rfl, rfl, by decide +kernel, rfl, by decide +kernel, by decide +kernel⟩, fun _ _ _ _ _ _ us hl => match us, hl with | [_, _], _ => rfl, fun _ Y Γ k X W Ow0 fr hfr F CS M Z => by
  obtain rfl : fr = false := not_fr rfl hfr
  have E : En pt Y Γ k d35.N X W d35.scope := ⟨F, M⟩
  have B : Eb pt Y Γ k d35.N X W d35.scope Ow0 false := ⟨E, CS⟩
  show JSs X B.w d35.body (m_Season_others_of Γ (Γ.call 0)); delta m_Season_others_of
  exact s_cons B (s_ex B rfl (r_call E 0 at_0 rfl (by kernel_rfl) (by kernel_rfl) rfl (.cons rfl (r_k E (by rfl)) .nil))) (s_nil B), fun h => Bool.noConfusion (show false = true from h)⟩
theorem ok_36 : DfOk pt d36 := ⟨⟨rfl, rfl, rfl, by decide +kernel, rfl, by decide +kernel, by decide +kernel⟩, fun _ _ _ _ _ _ us hl => match us, hl with | [_, _], _ => rfl, fun _ Y Γ k X W Ow0 fr hfr F CS M Z => by
  obtain rfl : fr = false := not_fr rfl hfr
  have E : En pt Y Γ k d36.N X W d36.scope := ⟨F, M⟩
  have B : Eb pt Y Γ k d36.N X W d36.scope Ow0 false := ⟨E, CS⟩
  show JSs X B.w d36.body (m_Season_best_of Γ (Γ.call 0)); delta m_Season_best_of
  exact s_cons B (s_ex B rfl (r_call E 0 at_0 rfl (by kernel_rfl) (by kernel_rfl) rfl (.cons rfl (r_k E (by rfl)) .nil))) (s_nil B), fun h => Bool.noConfusion (show false = true from h)⟩
theorem ok_37 : DfOk pt d37 := ⟨⟨rfl, rfl, rfl, by decide +kernel, rfl, by decide +kernel, by decide +kernel⟩, fun _ _ _ _ _ _ us hl => match us, hl with | [_, _], _ => rfl, fun _ Y Γ k X W Ow0 fr hfr F CS M Z => by
  obtain rfl : fr = false := not_fr rfl hfr
  have E : En pt Y Γ k d37.N X W d37.scope := ⟨F, M⟩
  have B : Eb pt Y Γ k d37.N X W d37.scope Ow0 false := ⟨E, CS⟩
  show JSs X B.w d37.body (m_Season_is_first Γ (Γ.call 0)); delta m_Season_is_first
  exact s_cons B (s_ex B rfl (r_call E 0 at_0 rfl (by kernel_rfl) (by kernel_rfl) rfl (.cons rfl (r_k E (by rfl)) .nil))) (s_nil B), fun h => Bool.noConfusion (show false = true from h)⟩
theorem ok_38 : DfOk pt d38 := ⟨⟨rfl, rfl, rfl, by decide +kernel, rfl, by decide +kernel, by decide +kernel⟩, fun _ _ _ _ _ _ us hl => match us, hl with | [_, _], _ => rfl, fun _ Y Γ k X W Ow0 fr hfr F CS M Z => by
  obtain rfl : fr = false := not_fr rfl hfr
  have E : En pt Y Γ k d38.N X W d38.scope := ⟨F, M⟩
  have B : Eb pt Y Γ k d38.N X W d38.scope Ow0 false := ⟨E, CS⟩
  show JSs X B.w d38.body (m_Season_is_last Γ (Γ.call 0)); delta m_Season_is_last
  exact s_cons B (s_ex B rfl (r_call E 0 at_0 rfl (by kernel_rfl) (by kernel_rfl) rfl (.cons rfl (r_k E (by rfl)) .nil))) (s_nil B), fun h => Bool.noConfusion (show false = true from h)⟩
theorem ok_39 : DfOk pt d39 := ⟨⟨rfl, rfl, rfl, by decide +kernel, rfl, by decide +kernel, by decide +kernel⟩, fun _ _ _ _ _ _ us hl => match us, hl with | [_, _], _ => rfl, fun _ Y Γ k X W Ow0 fr hfr F CS M Z => by
  obtain rfl : fr = false := not_fr rfl hfr
  have E : En pt Y Γ k d39.N X W d39.scope := ⟨F, M⟩
  have B : Eb pt Y Γ k d39.N X W d39.scope Ow0 false := ⟨E, CS⟩
  show JSs X B.w d39.body (m_Season_row_of Γ (Γ.call 0)); delta m_Season_row_of
  exact s_cons B (s_ex B rfl (r_call E 0 at_0 rfl (by kernel_rfl) (by kernel_rfl) rfl (.cons rfl (r_k E (by rfl)) .nil))) (s_nil B), fun h => Bool.noConfusion (show false = true from h)⟩
theorem ok_40 : DfOk pt d40 := ⟨⟨rfl, rfl, rfl, by decide +kernel, rfl, by decide +kernel, by decide +kernel⟩, fun _ _ _ _ _ _ us hl => match us, hl with | [_, _], _ => rfl, fun _ Y Γ k X W Ow0 fr hfr F CS M Z => by
  obtain rfl : fr = false := not_fr rfl hfr
  have E : En pt Y Γ k d40.N X W d40.scope := ⟨F, M⟩
  have B : Eb pt Y Γ k d40.N X W d40.scope Ow0 false := ⟨E, CS⟩
  show JSs X B.w d40.body (m_Season_best Γ (Γ.call 0)); delta m_Season_best
  exact s_cons B (s_ex B rfl (r_call E 0 at_0 rfl (by kernel_rfl) (by kernel_rfl) rfl (.cons rfl (r_k E (by rfl)) .nil))) (s_nil B), fun h => Bool.noConfusion (show false = true from h)⟩
theorem ok_41 : DfOk pt d41 := ⟨⟨rfl, rfl, rfl, by decide +kernel, rfl, by decide +kernel, by decide +kernel⟩, fun _ _ _ _ _ _ us hl => match us, hl with | [_, _], _ => rfl, fun _ Y Γ k X W Ow0 fr hfr F CS M Z => by
  obtain rfl : fr = false := not_fr rfl hfr
  have E : En pt Y Γ k d41.N X W d41.scope := ⟨F, M⟩
  have B : Eb pt Y Γ k d41.N X W d41.scope Ow0 false := ⟨E, CS⟩
  show JSs X B.w d41.body (m_Season_can_be_first Γ (Γ.call 0)); delta m_Season_can_be_first
  exact s_cons B (s_ex B rfl (r_call E 0 at_0 rfl (by kernel_rfl) (by kernel_rfl) rfl (.cons rfl (r_k E (by rfl)) .nil))) (s_nil B), fun h => Bool.noConfusion (show false = true from h)⟩
theorem ok_42 : DfOk pt d42 := ⟨⟨rfl, rfl, rfl, by decide +kernel, rfl, by decide +kernel, by decide +kernel⟩, fun _ _ _ _ _ _ us hl => match us, hl with | [_, _], _ => rfl, fun _ Y Γ k X W Ow0 fr hfr F CS M Z => by
  obtain rfl : fr = false := not_fr rfl hfr
  have E : En pt Y Γ k d42.N X W d42.scope := ⟨F, M⟩
  have B : Eb pt Y Γ k d42.N X W d42.scope Ow0 false := ⟨E, CS⟩
  show JSs X B.w d42.body (m_Season_can_be_last Γ (Γ.call 0)); delta m_Season_can_be_last
  exact s_cons B (s_ex B rfl (r_call E 0 at_0 rfl (by kernel_rfl) (by kernel_rfl) rfl (.cons rfl (r_k E (by rfl)) .nil))) (s_nil B), fun h => Bool.noConfusion (show false = true from h)⟩
theorem ok_43 : DfOk pt d43 := ⟨⟨rfl, rfl, rfl, by decide +kernel, rfl, by decide +kernel, by decide +kernel⟩, fun _ _ _ _ _ _ us hl => match us, hl with | [_], _ => rfl, fun _ Y Γ k X W Ow0 fr hfr F CS M Z => by
  obtain rfl : fr = false := not_fr rfl hfr
  have E : En pt Y Γ k d43.N X W d43.scope := ⟨F, M⟩
  have B : Eb pt Y Γ k d43.N X W d43.scope Ow0 false := ⟨E, CS⟩
  show JSs X B.w d43.body (m_Season_firsts Γ (Γ.call 0)); delta m_Season_firsts
  exact s_cons B (s_ex B rfl (r_call E 0 at_0 rfl (by kernel_rfl) (by kernel_rfl) rfl (.cons rfl (r_k E (by rfl)) .nil))) (s_nil B), fun h => Bool.noConfusion (show false = true from h)⟩
theorem ok_44 : DfOk pt d44 := ⟨⟨rfl, rfl, rfl, by decide +kernel, rfl, by decide +kernel, by decide +kernel⟩, fun _ _ _ _ _ _ us hl => match us, hl with | [_], _ => rfl, fun _ Y Γ k X W Ow0 fr hfr F CS M Z => by
  obtain rfl : fr = false := not_fr rfl hfr
  have E : En pt Y Γ k d44.N X W d44.scope := ⟨F, M⟩
  have B : Eb pt Y Γ k d44.N X W d44.scope Ow0 false := ⟨E, CS⟩
  show JSs X B.w d44.body (m_Season_bar Γ (Γ.call 0)); delta m_Season_bar
  exact s_cons B (s_ex B rfl (r_call E 0 at_0 rfl (by kernel_rfl) (by kernel_rfl) rfl (.cons rfl (r_k E (by rfl)) .nil))) (s_nil B), fun h => Bool.noConfusion (show false = true from h)⟩
theorem ok_45 : DfOk pt d45 := ⟨⟨rfl, rfl, rfl, by decide +kernel, rfl, by decide +kernel, by decide +kernel⟩, fun _ _ _ _ _ _ us hl => match us, hl with | [_, _], _ => rfl, fun _ Y Γ k X W Ow0 fr hfr F CS M Z => by
  obtain rfl : fr = false := not_fr rfl hfr
  have E : En pt Y Γ k d45.N X W d45.scope := ⟨F, M⟩
  have B : Eb pt Y Γ k d45.N X W d45.scope Ow0 false := ⟨E, CS⟩
  show JSs X B.w d45.body (m_well Γ); delta m_well
  exact s_cons B (s_nm B (i := 2) (by kernel_rfl) rfl (r_ifeS E (r_cmp E (op := .lt) rfl rfl (r_v E (i := 1) (by kernel_rfl)) (r_bi E .len rfl (by kernel_rfl) (by kernel_rfl) rfl (.cons rfl (r_v E (i := 0) (by kernel_rfl)) .nil))) (r_ix E rfl (r_v E (i := 0) (by kernel_rfl)) (r_v E (i := 1) (by kernel_rfl))) (r_k E (by rfl)))) (s_cons B (s_nm B (i := 3) (by kernel_rfl) rfl (r_op E (op := .add) rfl (r_k E (by rfl)) (r_op E (op := .mul) rfl (r_k E (by rfl)) (r_v E (i := 1) (by kernel_rfl))))) (s_cons B (s_for B rfl (i_of E (r_sl E (r_v E (i := 0) (by kernel_rfl)) .none (.some (r_k E (by rfl))))) (p_nmB B (by kernel_rfl)) (s_cons B (s_nm B (i := 3) (by kernel_rfl) rfl (r_op E (op := .mod) rfl (r_bi E .int rfl (by kernel_rfl) (by kernel_rfl) rfl (.cons rfl (r_op E (op := .add) rfl (r_op E (op := .add) rfl (r_op E (op := .mul) rfl (r_v E (i := 3) (by kernel_rfl)) (r_k E (by rfl))) (r_op E (op := .mod) rfl (r_bi E .int rfl (by kernel_rfl) (by kernel_rfl) rfl (.cons rfl (r_v E (i := 4) (by kernel_rfl)) .nil)) (r_k E (by rfl)))) (r_k E (by rfl))) .nil)) (r_k E (by rfl)))) (s_nil B))) (s_cons B (s_nm B (i := 3) (by kernel_rfl) rfl (r_op E (op := .mod) rfl (r_bi E .int rfl (by kernel_rfl) (by kernel_rfl) rfl (.cons rfl (r_op E (op := .add) rfl (r_op E (op := .add) rfl (r_op E (op := .mul) rfl (r_v E (i := 3) (by kernel_rfl)) (r_k E (by rfl))) (r_op E (op := .mod) rfl (r_bi E .int rfl (by kernel_rfl) (by kernel_rfl) rfl (.cons rfl (r_v E (i := 2) (by kernel_rfl)) .nil)) (r_k E (by rfl)))) (r_k E (by rfl))) .nil)) (r_k E (by rfl)))) (s_cons B (s_ret B rfl (r_new E (.cons rfl (r_v E (i := 3) (by kernel_rfl)) (.cons rfl (r_ifeS E (r_cmp E (op := .ge) rfl rfl (r_bi E .abs rfl (by kernel_rfl) (by kernel_rfl) rfl (.cons rfl (r_v E (i := 2) (by kernel_rfl)) .nil)) (r_op E (op := .pow) rfl (r_k E (by rfl)) (r_k E (by rfl)))) (r_bi E .abs rfl (by kernel_rfl) (by kernel_rfl) rfl (.cons rfl (r_v E (i := 2) (by kernel_rfl)) .nil)) (r_k E (by rfl))) (.cons rfl (r_k E (by rfl)) .nil))))) (s_nil B))))), fun h => Bool.noConfusion (show false = true from h)⟩
theorem ok_46 : DfOk pt d46 := ⟨⟨rfl, rfl, rfl, by decide +kernel, rfl, by decide +kernel, by decide +kernel⟩, fun _ _ _ _ _ _ us hl => match us, hl with | [_, _], _ => rfl, fun _ Y Γ k X W Ow0 fr hfr F CS M Z => by
  obtain rfl : fr = false := not_fr rfl hfr
  have E : En pt Y Γ k d46.N X W d46.scope := ⟨F, M⟩
  have B : Eb pt Y Γ k d46.N X W d46.scope Ow0 false := ⟨E, CS⟩
  show JSs X B.w d46.body (m_dip Γ); delta m_dip
  exact s_cons B (s_if B (r_cmp E (op := .gt) rfl rfl (r_ix E rfl (r_v E (i := 0) (by kernel_rfl)) (r_k E (by rfl))) (r_k E (by rfl))) (s_cons B (s_unp B rfl rfl (r_bi E .divmod rfl (by kernel_rfl) (by kernel_rfl) rfl (.cons rfl (r_ix E rfl (r_v E (i := 0) (by kernel_rfl)) (r_k E (by rfl))) (.cons rfl (r_v E (i := 1) (by kernel_rfl)) .nil))) (.cons rfl (t_sub B rfl (r_v E (i := 0) (by kernel_rfl)) (r_k E (by rfl))) (.cons rfl (t_nm B (i := 2) (by kernel_rfl)) .nil))) (s_cons B (s_ret B rfl (r_v E (i := 2) (by kernel_rfl))) (s_nil B))) (s_nil B)) (s_cons B (s_tg B rfl (.inl rfl) rfl (r_op E (op := .add) rfl (r_ix E rfl (r_v E (i := 0) (by kernel_rfl)) (r_k E (by rfl))) (r_k E (by rfl))) (t_sub B rfl (r_v E (i := 0) (by kernel_rfl)) (r_k E (by rfl)))) (s_cons B (s_tg B rfl (.inl rfl) rfl (r_op E (op := .mod) rfl (r_bi E .int rfl (by kernel_rfl) (by kernel_rfl) rfl (.cons rfl (r_op E (op := .add) rfl (r_op E (op := .add) rfl (r_op E (op := .mul) rfl (r_ix E rfl (r_v E (i := 0) (by kernel_rfl)) (r_k E (by rfl))) (r_k E (by rfl))) (r_op E (op := .mul) rfl (r_op E (op := .mul) rfl (r_k E (by rfl)) (r_ix E rfl (r_v E (i := 0) (by kernel_rfl)) (r_k E (by rfl)))) (r_ix E rfl (r_v E (i := 0) (by kernel_rfl)) (r_k E (by rfl))))) (r_k E (by rfl))) .nil)) (r_k E (by rfl))) (t_sub B rfl (r_v E (i := 0) (by kernel_rfl)) (r_k E (by rfl)))) (s_cons B (s_ret B rfl (r_op E (op := .mod) rfl (r_bi E .int rfl (by kernel_rfl) (by kernel_rfl) rfl (.cons rfl (r_op E (op := .fdiv) rfl (r_ix E rfl (r_v E (i := 0) (by kernel_rfl)) (r_k E (by rfl))) (r_k E (by rfl))) .nil)) (r_v E (i := 1) (by kernel_rfl)))) (s_nil B)))), fun h => Bool.noConfusion (show false = true from h)⟩
theorem ok_47 : DfOk pt d47 := ⟨⟨rfl, rfl, rfl, by decide +kernel, rfl, by decide +kernel, by decide +kernel⟩, fun _ _ _ _ _ _ us hl => match us, hl with | [_, _], _ => rfl, fun _ Y Γ k X W Ow0 fr hfr F CS M Z => by
  obtain rfl : fr = false := not_fr rfl hfr
  have E : En pt Y Γ k d47.N X W d47.scope := ⟨F, M⟩
  have B : Eb pt Y Γ k d47.N X W d47.scope Ow0 false := ⟨E, CS⟩
  show JSs X B.w d47.body (m_names Γ (Γ.call 46)); delta m_names
  exact s_cons B (s_nm B (i := 2) (by kernel_rfl) rfl (r_lst E (by kernel_rfl) (.cons rfl (r_k E (by kernel_rfl)) (.cons rfl (r_k E (by kernel_rfl)) (.cons rfl (r_k E (by kernel_rfl)) (.cons rfl (r_k E (by kernel_rfl)) (.cons rfl (r_k E (by kernel_rfl)) (.cons rfl (r_k E (by kernel_rfl)) (.cons rfl (r_k E (by kernel_rfl)) (.cons rfl (r_k E (by kernel_rfl)) .nil)))))))))) (s_cons B (s_parN B (ts := [(false, 4), (true, 5)]) (by kernel_rfl) (by kernel_rfl) (.cons (B.nml (i := 4) (by kernel_rfl)) (.cons (B.nml (i := 5) (by kernel_rfl)) .nil)) (.val rfl (r_k E (by kernel_rfl)) (.own rfl (f_lst E (by kernel_rfl) .nil) lst_sh .nil))) (s_cons B (s_for B rfl (i_rng1 E (by kernel_rfl) (by kernel_rfl) rfl (r_v E (i := 1) (by kernel_rfl))) (p_nmB B (by kernel_rfl)) (s_cons B (s_nm B (i := 6) (by kernel_rfl) rfl (r_ifeS E (r_cmp E (op := .eq) rfl rfl (r_call E 46 at_46 rfl (by kernel_rfl) (by kernel_rfl) rfl (.cons rfl (r_v E (i := 0) (by kernel_rfl)) (.cons rfl (r_k E (by rfl)) .nil))) (r_k E (by rfl))) (r_call E 46 at_46 rfl (by kernel_rfl) (by kernel_rfl) rfl (.cons rfl (r_v E (i := 0) (by kernel_rfl)) (.cons rfl (r_k E (by rfl)) .nil))) (r_call E 46 at_46 rfl (by kernel_rfl) (by kernel_rfl) rfl (.cons rfl (r_v E (i := 0) (by kernel_rfl)) (.cons rfl (r_k E (by rfl)) .nil))))) (s_cons B (s_nm B (i := 7) (by kernel_rfl) rfl (r_op E (op := .add) rfl (r_ix E rfl (r_v E (i := 4) (by kernel_rfl)) (r_call E 46 at_46 rfl (by kernel_rfl) (by kernel_rfl) rfl (.cons rfl (r_v E (i := 0) (by kernel_rfl)) (.cons rfl (r_k E (by rfl)) .nil)))) (r_join E [] (by kernel_rfl) rfl rfl (r_lc E (lc_ok E (rI := true) (own := [("_law_j", 9)]) (p := .nm 9) rfl (by kernel_rfl) (by kernel_rfl) (i_rng1 E (by kernel_rfl) (by kernel_rfl) rfl (r_v E (i := 6) (by kernel_rfl))) (fun _ E' hfE' => p_nm E' (by kernel_rfl)) (fun _ E' => .nil) (fun _ E' => r_ix E' rfl (r_v E' (i := 4) (by kernel_rfl)) (r_call E' 46 at_46 rfl (by kernel_rfl) (by kernel_rfl) rfl (.cons rfl (r_v E' (i := 0) (by kernel_rfl)) (.cons rfl (r_k E' (by rfl)) .nil))))))))) (s_cons B (s_if B (r_cmp E (op := .eq) rfl rfl (r_call E 46 at_46 rfl (by kernel_rfl) (by kernel_rfl) rfl (.cons rfl (r_v E (i := 0) (by kernel_rfl)) (.cons rfl (r_k E (by rfl)) .nil))) (r_k E (by rfl))) (s_cons B (s_nm B (i := 7) (by kernel_rfl) rfl (r_ix E rfl (r_v E (i := 2) (by kernel_rfl)) (r_call E 46 at_46 rfl (by kernel_rfl) (by kernel_rfl) rfl (.cons rfl (r_v E (i := 0) (by kernel_rfl)) (.cons rfl (r_k E (by rfl)) .nil))))) (s_nil B)) (s_nil B)) (s_cons B (s_nm B (i := 8) (by kernel_rfl) rfl (r_op E (op := .add) rfl (r_lst E (by kernel_rfl) (.cons rfl (r_v E (i := 7) (by kernel_rfl)) .nil)) (r_lc E (lc_ok E (rI := true) (own := [("_law_j", 9)]) (p := .nm 9) rfl (by kernel_rfl) (by kernel_rfl) (i_rng1 E (by kernel_rfl) (by kernel_rfl) rfl (r_v E (i := 1) (by kernel_rfl))) (fun _ E' hfE' => p_nm E' (by kernel_rfl)) (fun _ E' => .nil) (fun _ E' => r_op E' (op := .add) rfl (r_k E' (by kernel_rfl)) (r_bi E' .str rfl (by kernel_rfl) (by kernel_rfl) rfl (.cons rfl (r_v E' (i := 9) (by kernel_rfl)) .nil))))))) (s_cons B (s_app B (i := 5) (by kernel_rfl) rfl rfl (r_ix E rfl (r_lc E (lc_ok E (rI := true) (own := [("_law_each", 10)]) (p := .nm 10) rfl (by kernel_rfl) (by kernel_rfl) (i_of E (r_v E (i := 8) (by kernel_rfl))) (fun _ E' hfE' => p_nm E' (by kernel_rfl)) (fun _ E' => .one (r_cmp E' (op := .nmem) rfl rfl (r_v E' (i := 10) (by kernel_rfl)) (r_pk E' (i := 5) (by kernel_rfl)))) (fun _ E' => r_v E' (i := 10) (by kernel_rfl)))) (r_k E (by rfl)))) (s_nil B))))))) (s_frzs B 5 (s_cons B (s_ret B rfl (r_v E (i := 5) (by kernel_rfl))) (s_nil B))))), fun h => Bool.noConfusion (show false = true from h)⟩
theorem ok_48 : DfOk pt d48 := ⟨⟨rfl, rfl, rfl, by decide +kernel, rfl, by decide +kernel, by decide +kernel⟩, fun _ _ _ _ _ _ us hl => match us, hl with | [_], _ => rfl, fun _ Y Γ k X W Ow0 fr hfr F CS M Z => by
  obtain rfl : fr = false := not_fr rfl hfr
  have E : En pt Y Γ k d48.N X W d48.scope := ⟨F, M⟩
  have B : Eb pt Y Γ k d48.N X W d48.scope Ow0 false := ⟨E, CS⟩
  show JSs X B.w d48.body (m_number Γ (Γ.call 46)); delta m_number
  exact s_cons B (s_nm B (i := 1) (by kernel_rfl) rfl (r_call E 46 at_46 rfl (by kernel_rfl) (by kernel_rfl) rfl (.cons rfl (r_v E (i := 0) (by kernel_rfl)) (.cons rfl (r_k E (by rfl)) .nil)))) (s_cons B (s_if B (r_cmp E (op := .eq) rfl rfl (r_v E (i := 1) (by kernel_rfl)) (r_k E (by rfl))) (s_cons B (s_ret B rfl (r_op E (op := .add) rfl (r_k E (by rfl)) (r_call E 46 at_46 rfl (by kernel_rfl) (by kernel_rfl) rfl (.cons rfl (r_v E (i := 0) (by kernel_rfl)) (.cons rfl (r_k E (by rfl)) .nil))))) (s_nil B)) (s_nil B)) (s_cons B (s_if B (r_cmp E (op := .eq) rfl rfl (r_v E (i := 1) (by kernel_rfl)) (r_k E (by rfl))) (s_cons B (s_ret B rfl (r_op E (op := .add) rfl (r_k E (by rfl)) (r_call E 46 at_46 rfl (by kernel_rfl) (by kernel_rfl) rfl (.cons rfl (r_v E (i := 0) (by kernel_rfl)) (.cons rfl (r_op E (op := .pow) rfl (r_k E (by rfl)) (r_k E (by rfl))) .nil))))) (s_nil B)) (s_nil B)) (s_cons B (s_if B (r_cmp E (op := .eq) rfl rfl (r_v E (i := 1) (by kernel_rfl)) (r_k E (by rfl))) (s_cons B (s_ret B rfl (r_op E (op := .sub) rfl (r_op E (op := .pow) rfl (r_k E (by rfl)) (r_k E (by rfl))) (r_call E 46 at_46 rfl (by kernel_rfl) (by kernel_rfl) rfl (.cons rfl (r_v E (i := 0) (by kernel_rfl)) (.cons rfl (r_k E (by rfl)) .nil))))) (s_nil B)) (s_nil B)) (s_cons B (s_ret B rfl (r_op E (op := .add) rfl (r_op E (op := .add) rfl (r_k E (by rfl)) (r_op E (op := .mul) rfl (r_call E 46 at_46 rfl (by kernel_rfl) (by kernel_rfl) rfl (.cons rfl (r_v E (i := 0) (by kernel_rfl)) (.cons rfl (r_op E (op := .pow) rfl (r_k E (by rfl)) (r_k E (by rfl))) .nil))) (r_op E (op := .pow) rfl (r_k E (by rfl)) (r_k E (by rfl))))) (r_call E 46 at_46 rfl (by kernel_rfl) (by kernel_rfl) rfl (.cons rfl (r_v E (i := 0) (by kernel_rfl)) (.cons rfl (r_op E (op := .pow) rfl (r_k E (by rfl)) (r_k E (by rfl))) .nil))))) (s_nil B))))), fun h => Bool.noConfusion (show false = true from h)⟩
theorem ok_49 : DfOk pt d49 := ⟨⟨rfl, rfl, rfl, by decide +kernel, rfl, by decide +kernel, by decide +kernel⟩, fun _ _ _ _ _ _ us hl => match us, hl with | [_], _ => rfl, fun _ Y Γ k X W Ow0 fr hfr F CS M Z => by
  obtain rfl : fr = false := not_fr rfl hfr
  have E : En pt Y Γ k d49.N X W d49.scope := ⟨F, M⟩
  have B : Eb pt Y Γ k d49.N X W d49.scope Ow0 false := ⟨E, CS⟩
  show JSs X B.w d49.body (m_end Γ (Γ.call 46)); delta m_end
  exact s_cons B (s_nm B (i := 1) (by kernel_rfl) rfl (r_call E 46 at_46 rfl (by kernel_rfl) (by kernel_rfl) rfl (.cons rfl (r_v E (i := 0) (by kernel_rfl)) (.cons rfl (r_k E (by rfl)) .nil)))) (s_cons B (s_if B (r_cmp E (op := .eq) rfl rfl (r_v E (i := 1) (by kernel_rfl)) (r_k E (by rfl))) (s_cons B (s_ret B rfl (r_call E 46 at_46 rfl (by kernel_rfl) (by kernel_rfl) rfl (.cons rfl (r_v E (i := 0) (by kernel_rfl)) (.cons rfl (r_k E (by rfl)) .nil)))) (s_nil B)) (s_nil B)) (s_cons B (s_if B (r_cmp E (op := .eq) rfl rfl (r_v E (i := 1) (by kernel_rfl)) (r_k E (by rfl))) (s_cons B (s_ret B rfl (r_call E 46 at_46 rfl (by kernel_rfl) (by kernel_rfl) rfl (.cons rfl (r_v E (i := 0) (by kernel_rfl)) (.cons rfl (r_op E (op := .pow) rfl (r_k E (by rfl)) (r_k E (by rfl))) .nil)))) (s_nil B)) (s_nil B)) (s_cons B (s_if B (r_cmp E (op := .eq) rfl rfl (r_v E (i := 1) (by kernel_rfl)) (r_k E (by rfl))) (s_cons B (s_ret B rfl (r_op E (op := .sub) rfl (r_op E (op := .pow) rfl (r_k E (by rfl)) (r_k E (by rfl))) (r_call E 46 at_46 rfl (by kernel_rfl) (by kernel_rfl) rfl (.cons rfl (r_v E (i := 0) (by kernel_rfl)) (.cons rfl (r_k E (by rfl)) .nil))))) (s_nil B)) (s_nil B)) (s_cons B (s_ret B rfl (r_op E (op := .add) rfl (r_op E (op := .mul) rfl (r_call E 46 at_46 rfl (by kernel_rfl) (by kernel_rfl) rfl (.cons rfl (r_v E (i := 0) (by kernel_rfl)) (.cons rfl (r_op E (op := .pow) rfl (r_k E (by rfl)) (r_k E (by rfl))) .nil))) (r_op E (op := .pow) rfl (r_k E (by rfl)) (r_k E (by rfl)))) (r_call E 46 at_46 rfl (by kernel_rfl) (by kernel_rfl) rfl (.cons rfl (r_v E (i := 0) (by kernel_rfl)) (.cons rfl (r_op E (op := .pow) rfl (r_k E (by rfl)) (r_k E (by rfl))) .nil))))) (s_nil B))))), fun h => Bool.noConfusion (show false = true from h)⟩
theorem ok_50 : DfOk pt d50 := ⟨⟨rfl, rfl, rfl, by decide +kernel, rfl, by decide +kernel, by decide +kernel⟩, fun _ _ _ _ _ _ us hl => match us, hl with | [_, _], _ => rfl, fun _ Y Γ k X W Ow0 fr hfr F CS M Z => by
  obtain rfl : fr = false := not_fr rfl hfr
  have E : En pt Y Γ k d50.N X W d50.scope := ⟨F, M⟩
  have B : Eb pt Y Γ k d50.N X W d50.scope Ow0 false := ⟨E, CS⟩
  show JSs X B.w d50.body (m_rows Γ (Γ.call 47) (Γ.call 46) (Γ.call 48) (Γ.call 49)); delta m_rows
  exact s_cons B (s_nm B (i := 2) (by kernel_rfl) rfl (r_call E 47 at_47 rfl (by kernel_rfl) (by kernel_rfl) rfl (.cons rfl (r_v E (i := 0) (by kernel_rfl)) (.cons rfl (r_op E (op := .add) rfl (r_k E (by rfl)) (r_call E 46 at_46 rfl (by kernel_rfl) (by kernel_rfl) rfl (.cons rfl (r_v E (i := 0) (by kernel_rfl)) (.cons rfl (r_v E (i := 1) (by kernel_rfl)) .nil)))) .nil)))) (s_cons B (s_ret B rfl (r_lc E (lc_ok E (rI := true) (own := [("_law_name", 3)]) (p := .nm 3) rfl (by kernel_rfl) (by kernel_rfl) (i_of E (r_v E (i := 2) (by kernel_rfl))) (fun _ E' hfE' => p_nm E' (by kernel_rfl)) (fun _ E' => .nil) (fun _ E' => r_tup E' (by kernel_rfl) (.cons rfl (r_v E' (i := 3) (by kernel_rfl)) (.cons rfl (r_call E' 48 at_48 rfl (by kernel_rfl) (by kernel_rfl) rfl (.cons rfl (r_v E' (i := 0) (by kernel_rfl)) .nil)) (.cons rfl (r_call E' 49 at_49 rfl (by kernel_rfl) (by kernel_rfl) rfl (.cons rfl (r_v E' (i := 0) (by kernel_rfl)) .nil)) .nil))))))) (s_nil B)), fun h => Bool.noConfusion (show false = true from h)⟩
theorem ok_51 : DfOk pt d51 := ⟨⟨rfl, rfl, rfl, by decide +kernel, rfl, by decide +kernel, by decide +kernel⟩, fun _ _ _ _ _ _ us hl => match us, hl with | [_, _], _ => rfl, fun _ Y Γ k X W Ow0 fr hfr F CS M Z => by
  obtain rfl : fr = false := not_fr rfl hfr
  have E : En pt Y Γ k d51.N X W d51.scope := ⟨F, M⟩
  have B : Eb pt Y Γ k d51.N X W d51.scope Ow0 false := ⟨E, CS⟩
  show JSs X B.w d51.body (m_text Γ); delta m_text
  exact s_cons B (s_own B (i := 2) (by kernel_rfl) rfl (f_lst E (by kernel_rfl) (.cons rfl (r_op E (op := .add) rfl (r_k E (by kernel_rfl)) (r_bi E .str rfl (by kernel_rfl) (by kernel_rfl) rfl (.cons rfl (r_v E (i := 0) (by kernel_rfl)) .nil))) .nil))) (s_cons B (s_for B rfl (i_of E (r_v E (i := 1) (by kernel_rfl))) (p_tp E rfl rfl (pts_cons rfl (p_nmB B (by kernel_rfl)) (pts_cons rfl (p_nmB B (by kernel_rfl)) (pts_cons rfl (p_nmB B (by kernel_rfl)) pts_nil)))) (s_cons B (s_app B (i := 2) (by kernel_rfl) rfl rfl (r_op E (op := .add) rfl (r_op E (op := .add) rfl (r_op E (op := .add) rfl (r_op E (op := .add) rfl (r_v E (i := 3) (by kernel_rfl)) (r_k E (by kernel_rfl))) (r_bi E .str rfl (by kernel_rfl) (by kernel_rfl) rfl (.cons rfl (r_v E (i := 4) (by kernel_rfl)) .nil))) (r_k E (by kernel_rfl))) (r_bi E .str rfl (by kernel_rfl) (by kernel_rfl) rfl (.cons rfl (r_v E (i := 5) (by kernel_rfl)) .nil)))) (s_nil B))) (s_cons B (s_ret B rfl (r_join E [10] (by kernel_rfl) rfl rfl (r_pk E (i := 2) (by kernel_rfl)))) (s_nil B))), fun h => Bool.noConfusion (show false = true from h)⟩
theorem ok_52 : DfOk pt d52 := ⟨⟨rfl, rfl, rfl, by decide +kernel, rfl, by decide +kernel, by decide +kernel⟩, fun _ _ _ _ _ _ us hl => match us, hl with | [_, _, _], _ => rfl, fun _ Y Γ k X W Ow0 fr hfr F CS M Z => by
  obtain rfl : fr = false := not_fr rfl hfr
  have E : En pt Y Γ k d52.N X W d52.scope := ⟨F, M⟩
  have B : Eb pt Y Γ k d52.N X W d52.scope Ow0 false := ⟨E, CS⟩
  show JSs X B.w d52.body (m_changed Γ (Γ.call 46) (Γ.call 48) (Γ.call 49)); delta m_changed
  exact s_cons B (s_par2 B (i := 3) (j := 4) (by kernel_rfl) (by kernel_rfl) (by decide) (by kernel_rfl) (by kernel_rfl) (by kernel_rfl) (.val rfl (r_call E 46 at_46 rfl (by kernel_rfl) (by kernel_rfl) rfl (.cons rfl (r_v E (i := 0) (by kernel_rfl)) (.cons rfl (r_k E (by rfl)) .nil))) (.own rfl (f_list E (by kernel_rfl) (by kernel_rfl) rfl (.cons rfl (r_v E (i := 2) (by kernel_rfl)) .nil)) ls_sh .nil))) (s_cons B (s_par2 B (i := 5) (j := 6) (by kernel_rfl) (by kernel_rfl) (by decide) (by kernel_rfl) (by kernel_rfl) (by kernel_rfl) (.val rfl (r_call E 46 at_46 rfl (by kernel_rfl) (by kernel_rfl) rfl (.cons rfl (r_v E (i := 0) (by kernel_rfl)) (.cons rfl (r_bi E .len rfl (by kernel_rfl) (by kernel_rfl) rfl (.cons rfl (r_v E (i := 2) (by kernel_rfl)) .nil)) .nil))) (.val rfl (r_op E (op := .add) rfl (r_k E (by kernel_rfl)) (r_bi E .str rfl (by kernel_rfl) (by kernel_rfl) rfl (.cons rfl (r_call E 46 at_46 rfl (by kernel_rfl) (by kernel_rfl) rfl (.cons rfl (r_v E (i := 0) (by kernel_rfl)) (.cons rfl (r_k E (by rfl)) .nil))) .nil))) .nil))) (s_cons B (s_if B (r_cmp E (op := .mem) rfl rfl (r_v E (i := 6) (by kernel_rfl)) (r_lc E (lc_ok E (rI := true) (own := [("_law_row", 7)]) (p := .nm 7) rfl (by kernel_rfl) (by kernel_rfl) (i_of E (r_v E (i := 2) (by kernel_rfl))) (fun _ E' hfE' => p_nm E' (by kernel_rfl)) (fun _ E' => .nil) (fun _ E' => r_ix E' rfl (r_v E' (i := 7) (by kernel_rfl)) (r_k E' (by rfl)))))) (s_cons B (s_nm B (i := 6) (by kernel_rfl) rfl (r_ix E rfl (r_ix E rfl (r_v E (i := 2) (by kernel_rfl)) (r_v E (i := 5) (by kernel_rfl))) (r_k E (by rfl)))) (s_nil B)) (s_nil B)) (s_cons B (s_if B (r_cmp E (op := .eq) rfl rfl (r_v E (i := 3) (by kernel_rfl)) (r_k E (by rfl))) (s_frzs B 4 (s_cons B (s_ret B rfl (r_lst E (by kernel_rfl) (.cons rfl (r_op E (op := .add) rfl (r_k E (by rfl)) (r_call E 46 at_46 rfl (by kernel_rfl) (by kernel_rfl) rfl (.cons rfl (r_v E (i := 0) (by kernel_rfl)) (.cons rfl (r_k E (by rfl)) .nil)))) (.cons rfl (r_v E (i := 4) (by kernel_rfl)) .nil)))) (s_nil B))) (s_nil B)) (s_cons B (s_if B (r_cmp E (op := .eq) rfl rfl (r_v E (i := 3) (by kernel_rfl)) (r_k E (by rfl))) (s_cons B (s_tg B rfl (.inl rfl) rfl (r_tup E (by kernel_rfl) (.cons rfl (r_v E (i := 6) (by kernel_rfl)) (.cons rfl (r_ix E rfl (r_ix E rfl (r_v E (i := 2) (by kernel_rfl)) (r_v E (i := 5) (by kernel_rfl))) (r_k E (by rfl))) (.cons rfl (r_ix E rfl (r_ix E rfl (r_v E (i := 2) (by kernel_rfl)) (r_v E (i := 5) (by kernel_rfl))) (r_k E (by rfl))) .nil)))) (t_osub B (i := 4) (by kernel_rfl) rfl (r_v E (i := 5) (by kernel_rfl)))) (s_nil B)) (s_cons B (s_if B (r_cmp E (op := .eq) rfl rfl (r_v E (i := 3) (by kernel_rfl)) (r_k E (by rfl))) (s_cons B (s_tg B rfl (.inl rfl) rfl (r_tup E (by kernel_rfl) (.cons rfl (r_ix E rfl (r_ix E rfl (r_v E (i := 2) (by kernel_rfl)) (r_v E (i := 5) (by kernel_rfl))) (r_k E (by rfl))) (.cons rfl (r_call E 48 at_48 rfl (by kernel_rfl) (by kernel_rfl) rfl (.cons rfl (r_v E (i := 0) (by kernel_rfl)) .nil)) (.cons rfl (r_ix E rfl (r_ix E rfl (r_v E (i := 2) (by kernel_rfl)) (r_v E (i := 5) (by kernel_rfl))) (r_k E (by rfl))) .nil)))) (t_osub B (i := 4) (by kernel_rfl) rfl (r_v E (i := 5) (by kernel_rfl)))) (s_nil B)) (s_cons B (s_if B (r_cmp E (op := .eq) rfl rfl (r_v E (i := 3) (by kernel_rfl)) (r_k E (by rfl))) (s_cons B (s_tg B rfl (.inl rfl) rfl (r_tup E (by kernel_rfl) (.cons rfl (r_ix E rfl (r_ix E rfl (r_v E (i := 2) (by kernel_rfl)) (r_v E (i := 5) (by kernel_rfl))) (r_k E (by rfl))) (.cons rfl (r_ix E rfl (r_ix E rfl (r_v E (i := 2) (by kernel_rfl)) (r_v E (i := 5) (by kernel_rfl))) (r_k E (by rfl))) (.cons rfl (r_call E 49 at_49 rfl (by kernel_rfl) (by kernel_rfl) rfl (.cons rfl (r_v E (i := 0) (by kernel_rfl)) .nil)) .nil)))) (t_osub B (i := 4) (by kernel_rfl) rfl (r_v E (i := 5) (by kernel_rfl)))) (s_nil B)) (s_cons B (s_if B (r_cmp E (op := .eq) rfl rfl (r_v E (i := 3) (by kernel_rfl)) (r_k E (by rfl))) (s_cons B (s_asgn B (by kernel_rfl) (by kernel_rfl) rfl (.cons rfl (r_ix E rfl (r_pk E (i := 4) (by kernel_rfl)) (r_k E (by rfl))) (.cons rfl (r_ix E rfl (r_pk E (i := 4) (by kernel_rfl)) (r_v E (i := 5) (by kernel_rfl))) .nil)) (.cons rfl (t_osub B (i := 4) (by kernel_rfl) rfl (r_v E (i := 5) (by kernel_rfl))) (.cons rfl (t_osub B (i := 4) (by kernel_rfl) rfl (r_k E (by rfl))) .nil))) (s_nil B)) (s_cons B (s_if B (r_and E rfl (.cons rfl (r_cmp E (op := .eq) rfl rfl (r_v E (i := 3) (by kernel_rfl)) (r_k E (by rfl))) (.cons rfl (r_cmp E (op := .ne) rfl rfl (r_v E (i := 6) (by kernel_rfl)) (r_ix E rfl (r_ix E rfl (r_v E (i := 2) (by kernel_rfl)) (r_v E (i := 5) (by kernel_rfl))) (r_k E (by rfl)))) .nil))) (s_cons B (s_ins B (i := 4) (by kernel_rfl) rfl rfl rfl (r_call E 46 at_46 rfl (by kernel_rfl) (by kernel_rfl) rfl (.cons rfl (r_v E (i := 0) (by kernel_rfl)) (.cons rfl (r_op E (op := .add) rfl (r_bi E .len rfl (by kernel_rfl) (by kernel_rfl) rfl (.cons rfl (r_pk E (i := 4) (by kernel_rfl)) .nil)) (r_k E (by rfl))) .nil))) (r_tup E (by kernel_rfl) (.cons rfl (r_v E (i := 6) (by kernel_rfl)) (.cons rfl (r_call E 48 at_48 rfl (by kernel_rfl) (by kernel_rfl) rfl (.cons rfl (r_v E (i := 0) (by kernel_rfl)) .nil)) (.cons rfl (r_call E 49 at_49 rfl (by kernel_rfl) (by kernel_rfl) rfl (.cons rfl (r_v E (i := 0) (by kernel_rfl)) .nil)) .nil))))) (s_nil B)) (s_cons B (s_if B (r_and E rfl (.cons rfl (r_cmp E (op := .eq) rfl rfl (r_v E (i := 3) (by kernel_rfl)) (r_k E (by rfl))) (.cons rfl (r_cmp E (op := .gt) rfl rfl (r_bi E .len rfl (by kernel_rfl) (by kernel_rfl) rfl (.cons rfl (r_pk E (i := 4) (by kernel_rfl)) .nil)) (r_k E (by rfl))) .nil))) (s_cons B (s_own B (i := 4) (by kernel_rfl) rfl (f_cat E (r_sl E (r_pk E (i := 4) (by kernel_rfl)) .none (.some (r_v E (i := 5) (by kernel_rfl)))) (r_sl E (r_pk E (i := 4) (by kernel_rfl)) (.some (r_op E (op := .add) rfl (r_v E (i := 5) (by kernel_rfl)) (r_k E (by rfl)))) .none))) (s_nil B)) (s_nil B)) (s_nil B))) (s_nil B))) (s_nil B))) (s_nil B))) (s_nil B))) (s_frzs B 4 (s_cons B (s_ret B rfl (r_lst E (by kernel_rfl) (.cons rfl (r_v E (i := 1) (by kernel_rfl)) (.cons rfl (r_v E (i := 4) (by kernel_rfl)) .nil)))) (s_nil B))))))), fun h => Bool.noConfusion (show false = true from h)⟩
theorem ok_53 : DfOk pt d53 := ⟨⟨rfl, rfl, rfl, by decide +kernel, rfl, by decide +kernel, by decide +kernel⟩, fun _ _ _ _ _ _ us hl => match us, hl with | [_, _], _ => rfl, fun _ Y Γ k X W Ow0 fr hfr F CS M Z => by
  obtain rfl : fr = false := not_fr rfl hfr
  have E : En pt Y Γ k d53.N X W d53.scope := ⟨F, M⟩
  have B : Eb pt Y Γ k d53.N X W d53.scope Ow0 false := ⟨E, CS⟩
  show JSs X B.w d53.body (m_alike Γ 0); delta m_alike
  exact s_cons B (s_nm B (i := 2) (by kernel_rfl) rfl (r_cmp E (op := .eq) rfl rfl (r_strO E 0 25 (by rfl) (by rfl) (by rfl) (by rfl) (by rfl) (by kernel_rfl) (by kernel_rfl) rfl (r_v E (i := 0) (by kernel_rfl))) (r_strO E 0 25 (by rfl) (by rfl) (by rfl) (by rfl) (by rfl) (by kernel_rfl) (by kernel_rfl) rfl (r_v E (i := 1) (by kernel_rfl))))) (s_cons B (s_ret B rfl (r_cmp E (op := .eq) rfl rfl (r_repr E (by kernel_rfl) (by kernel_rfl) rfl (.cons rfl (r_lst E (by kernel_rfl) (.cons rfl (r_eqO E 0 false 24 4 (by rfl) (by rfl) (by rfl) (by rfl) (by rfl) (by rfl) rfl (r_v E (i := 0) (by kernel_rfl)) (r_v E (i := 1) (by kernel_rfl))) (.cons rfl (r_eqO E 0 false 24 4 (by rfl) (by rfl) (by rfl) (by rfl) (by rfl) (by rfl) rfl (r_v E (i := 1) (by kernel_rfl)) (r_v E (i := 0) (by kernel_rfl))) (.cons rfl (r_eqO E 0 true 24 4 (by rfl) (by rfl) (by rfl) (by rfl) (by rfl) (by rfl) rfl (r_v E (i := 0) (by kernel_rfl)) (r_v E (i := 1) (by kernel_rfl))) (.cons rfl (r_eqO E 0 true 24 4 (by rfl) (by rfl) (by rfl) (by rfl) (by rfl) (by rfl) rfl (r_v E (i := 1) (by kernel_rfl)) (r_v E (i := 0) (by kernel_rfl))) .nil))))) .nil)) (r_repr E (by kernel_rfl) (by kernel_rfl) rfl (.cons rfl (r_lst E (by kernel_rfl) (.cons rfl (r_v E (i := 2) (by kernel_rfl)) (.cons rfl (r_v E (i := 2) (by kernel_rfl)) (.cons rfl (r_no E (r_v E (i := 2) (by kernel_rfl))) (.cons rfl (r_no E (r_v E (i := 2) (by kernel_rfl))) .nil))))) .nil)))) (s_nil B)), fun h => Bool.noConfusion (show false = true from h)⟩
theorem ok_54 : DfOk pt d54 := ⟨⟨rfl, rfl, rfl, by decide +kernel, rfl, by decide +kernel, by decide +kernel⟩, fun _ _ _ _ _ _ us hl => match us, hl with | [_], _ => rfl, fun _ Y Γ k X W Ow0 fr hfr F CS M Z => by
  obtain rfl : fr = false := not_fr rfl hfr
  have E : En pt Y Γ k d54.N X W d54.scope := ⟨F, M⟩
  have B : Eb pt Y Γ k d54.N X W d54.scope Ow0 false := ⟨E, CS⟩
  show JSs X B.w d54.body (m_right_k05 Γ (Γ.call 46) (Γ.call 50) 0 (Γ.call 51) (Γ.call 16) (Γ.call 53) (Γ.call 52) 1); delta m_right_k05
  exact s_cons B (s_par2 B (i := 6) (j := 7) (by kernel_rfl) (by kernel_rfl) (by decide) (by kernel_rfl) (by kernel_rfl) (by kernel_rfl) (.val rfl (r_op E (op := .add) rfl (r_k E (by rfl)) (r_call E 46 at_46 rfl (by kernel_rfl) (by kernel_rfl) rfl (.cons rfl (r_v E (i := 0) (by kernel_rfl)) (.cons rfl (r_k E (by rfl)) .nil)))) (.val rfl (r_call E 50 at_50 rfl (by kernel_rfl) (by kernel_rfl) rfl (.cons rfl (r_v E (i := 0) (by kernel_rfl)) (.cons rfl (r_k E (by rfl)) .nil))) .nil))) (s_cons B (s_par2 B (i := 8) (j := 9) (by kernel_rfl) (by kernel_rfl) (by decide) (by kernel_rfl) (by kernel_rfl) (by kernel_rfl) (.val rfl (r_mk E 0 (by rfl) (by rfl) (by rfl) (by rfl) (by kernel_rfl) (by kernel_rfl) rfl (.cons rfl (r_v E (i := 6) (by kernel_rfl)) (.cons rfl (r_bi E .tuple rfl (by kernel_rfl) (by kernel_rfl) rfl (.cons rfl (r_v E (i := 7) (by kernel_rfl)) .nil)) .nil))) (.val rfl (r_mk E 0 (by rfl) (by rfl) (by rfl) (by rfl) (by kernel_rfl) (by kernel_rfl) rfl (.cons rfl (r_v E (i := 6) (by kernel_rfl)) (.cons rfl (r_bi E .tuple rfl (by kernel_rfl) (by kernel_rfl) rfl (.cons rfl (r_bi E .list rfl (by kernel_rfl) (by kernel_rfl) rfl (.cons rfl (r_v E (i := 7) (by kernel_rfl)) .nil)) .nil)) .nil))) .nil))) (s_cons B (s_nm B (i := 1) (by kernel_rfl) rfl (r_cm E 0 16 (by rfl) (by rfl) (by rfl) at_16 rfl (by kernel_rfl) (by kernel_rfl) (.cons rfl (r_call E 51 at_51 rfl (by kernel_rfl) (by kernel_rfl) rfl (.cons rfl (r_v E (i := 6) (by kernel_rfl)) (.cons rfl (r_v E (i := 7) (by kernel_rfl)) .nil))) .nil) rfl)) (s_cons B (s_for B rfl (i_of E (r_lst E (by kernel_rfl) (.cons rfl (r_v E (i := 8) (by kernel_rfl)) (.cons rfl (r_v E (i := 9) (by kernel_rfl)) (.cons rfl (r_v E (i := 1) (by kernel_rfl)) .nil))))) (p_nmB B (by kernel_rfl)) (s_cons B (s_if B (r_or E rfl (.cons rfl (r_cmp E (op := .ne) rfl rfl (r_strO E 0 25 (by rfl) (by rfl) (by rfl) (by rfl) (by rfl) (by kernel_rfl) (by kernel_rfl) rfl (r_v E (i := 2) (by kernel_rfl))) (r_call E 51 at_51 rfl (by kernel_rfl) (by kernel_rfl) rfl (.cons rfl (r_v E (i := 6) (by kernel_rfl)) (.cons rfl (r_v E (i := 7) (by kernel_rfl)) .nil)))) (.cons rfl (r_cmp E (op := .ne) rfl rfl (r_strO E 0 25 (by rfl) (by rfl) (by rfl) (by rfl) (by rfl) (by kernel_rfl) (by kernel_rfl) rfl (r_cm E 0 16 (by rfl) (by rfl) (by rfl) at_16 rfl (by kernel_rfl) (by kernel_rfl) (.cons rfl (r_strO E 0 25 (by rfl) (by rfl) (by rfl) (by rfl) (by rfl) (by kernel_rfl) (by kernel_rfl) rfl (r_v E (i := 2) (by kernel_rfl))) .nil) rfl)) (r_strO E 0 25 (by rfl) (by rfl) (by rfl) (by rfl) (by rfl) (by kernel_rfl) (by kernel_rfl) rfl (r_v E (i := 2) (by kernel_rfl)))) .nil))) (s_cons B (s_ret B rfl (r_k E (by rfl))) (s_nil B)) (s_nil B)) (s_cons B (s_if B (r_or E rfl (.cons rfl (r_no E (r_call E 53 at_53 rfl (by kernel_rfl) (by kernel_rfl) rfl (.cons rfl (r_v E (i := 2) (by kernel_rfl)) (.cons rfl (r_v E (i := 8) (by kernel_rfl)) .nil)))) (.cons rfl (r_no E (r_call E 53 at_53 rfl (by kernel_rfl) (by kernel_rfl) rfl (.cons rfl (r_v E (i := 2) (by kernel_rfl)) (.cons rfl (r_v E (i := 9) (by kernel_rfl)) .nil)))) (.cons rfl (r_cmp E (op := .ne) rfl rfl (r_repr E (by kernel_rfl) (by kernel_rfl) rfl (.cons rfl (r_eqO E 0 false 24 4 (by rfl) (by rfl) (by rfl) (by rfl) (by rfl) (by rfl) rfl (r_v E (i := 2) (by kernel_rfl)) (r_v E (i := 8) (by kernel_rfl))) .nil)) (r_k E (by kernel_rfl))) .nil)))) (s_cons B (s_ret B rfl (r_k E (by rfl))) (s_nil B)) (s_nil B)) (s_nil B)))) (s_cons B (s_for B rfl (i_rng1 E (by kernel_rfl) (by kernel_rfl) rfl (r_k E (by rfl))) (p_nmB B (by kernel_rfl)) (s_cons B (s_unp B rfl rfl (r_call E 52 at_52 rfl (by kernel_rfl) (by kernel_rfl) rfl (.cons rfl (r_v E (i := 0) (by kernel_rfl)) (.cons rfl (r_v E (i := 6) (by kernel_rfl)) (.cons rfl (r_v E (i := 7) (by kernel_rfl)) .nil)))) (.cons rfl (t_nm B (i := 11) (by kernel_rfl)) (.cons rfl (t_nm B (i := 12) (by kernel_rfl)) .nil))) (s_cons B (s_nm B (i := 10) (by kernel_rfl) rfl (r_mk E 0 (by rfl) (by rfl) (by rfl) (by rfl) (by kernel_rfl) (by kernel_rfl) rfl (.cons rfl (r_v E (i := 11) (by kernel_rfl)) (.cons rfl (r_bi E .tuple rfl (by kernel_rfl) (by kernel_rfl) rfl (.cons rfl (r_v E (i := 12) (by kernel_rfl)) .nil)) .nil)))) (s_cons B (s_if B (r_or E rfl (.cons rfl (r_cmp E (op := .ne) rfl rfl (r_strO E 0 25 (by rfl) (by rfl) (by rfl) (by rfl) (by rfl) (by kernel_rfl) (by kernel_rfl) rfl (r_v E (i := 10) (by kernel_rfl))) (r_call E 51 at_51 rfl (by kernel_rfl) (by kernel_rfl) rfl (.cons rfl (r_v E (i := 11) (by kernel_rfl)) (.cons rfl (r_v E (i := 12) (by kernel_rfl)) .nil)))) (.cons rfl (r_no E (r_call E 53 at_53 rfl (by kernel_rfl) (by kernel_rfl) rfl (.cons rfl (r_v E (i := 8) (by kernel_rfl)) (.cons rfl (r_v E (i := 10) (by kernel_rfl)) .nil)))) (.cons rfl (r_no E (r_call E 53 at_53 rfl (by kernel_rfl) (by kernel_rfl) rfl (.cons rfl (r_v E (i := 10) (by kernel_rfl)) (.cons rfl (r_v E (i := 1) (by kernel_rfl)) .nil)))) .nil)))) (s_cons B (s_ret B rfl (r_k E (by rfl))) (s_nil B)) (s_nil B)) (s_nil B))))) (s_cons B (s_nm B (i := 4) (by kernel_rfl) rfl (r_lst E (by kernel_rfl) (.cons rfl (r_k E (by rfl)) (.cons rfl (r_k E (by rfl)) (.cons rfl (r_k E (by rfl)) (.cons rfl (r_strO E 0 25 (by rfl) (by rfl) (by rfl) (by rfl) (by rfl) (by kernel_rfl) (by kernel_rfl) rfl (r_v E (i := 8) (by kernel_rfl))) (.cons rfl (r_bi E .tuple rfl (by kernel_rfl) (by kernel_rfl) rfl (.cons rfl (r_v E (i := 7) (by kernel_rfl)) .nil)) (.cons rfl (r_bi E .list rfl (by kernel_rfl) (by kernel_rfl) rfl (.cons rfl (r_v E (i := 7) (by kernel_rfl)) .nil)) (.cons rfl (r_tup E (by kernel_rfl) (.cons rfl (r_v E (i := 6) (by kernel_rfl)) (.cons rfl (r_bi E .tuple rfl (by kernel_rfl) (by kernel_rfl) rfl (.cons rfl (r_v E (i := 7) (by kernel_rfl)) .nil)) .nil))) (.cons rfl (r_dct0 E) (.cons rfl (r_at E 18 (by rfl) rfl (r_v E (i := 8) (by kernel_rfl))) .nil))))))))))) (s_cons B (s_for B rfl (i_of E (r_op E (op := .add) rfl (r_v E (i := 4) (by kernel_rfl)) (r_lst E (by kernel_rfl) (.cons rfl (r_mk E 1 (by rfl) (by rfl) (by rfl) (by rfl) (by kernel_rfl) (by kernel_rfl) rfl (.cons rfl (r_v E (i := 6) (by kernel_rfl)) (.cons rfl (r_bi E .tuple rfl (by kernel_rfl) (by kernel_rfl) rfl (.cons rfl (r_v E (i := 7) (by kernel_rfl)) .nil)) (.cons rfl (r_tup E (by kernel_rfl) .nil) .nil)))) .nil)))) (p_nmB B (by kernel_rfl)) (s_cons B (s_if B (r_cmp E (op := .ne) rfl rfl (r_repr E (by kernel_rfl) (by kernel_rfl) rfl (.cons rfl (r_lst E (by kernel_rfl) (.cons rfl (r_eqO E 0 false 24 4 (by rfl) (by rfl) (by rfl) (by rfl) (by rfl) (by rfl) rfl (r_v E (i := 8) (by kernel_rfl)) (r_v E (i := 5) (by kernel_rfl))) (.cons rfl (r_eqO E 0 true 24 4 (by rfl) (by rfl) (by rfl) (by rfl) (by rfl) (by rfl) rfl (r_v E (i := 8) (by kernel_rfl)) (r_v E (i := 5) (by kernel_rfl))) .nil))) .nil)) (r_k E (by kernel_rfl))) (s_cons B (s_ret B rfl (r_k E (by rfl))) (s_nil B)) (s_nil B)) (s_nil B))) (s_cons B (s_ret B rfl (r_k E (by rfl))) (s_nil B)))))))), fun h => Bool.noConfusion (show false = true from h)⟩
theorem ok_55 : DfOk pt d55 := ⟨⟨rfl, rfl, rfl, by decide +kernel, rfl, by decide +kernel, by decide +kernel⟩, fun _ _ _ _ _ _ us hl => match us, hl with | [_], _ => rfl, fun _ Y Γ k X W Ow0 fr hfr F CS M Z => by
  obtain rfl : fr = false := not_fr rfl hfr
  have E : En pt Y Γ k d55.N X W d55.scope := ⟨F, M⟩
  have B : Eb pt Y Γ k d55.N X W d55.scope Ow0 false := ⟨E, CS⟩
  show JSs X B.w d55.body (m_law Γ (Γ.call 54) (Γ.call 45)); delta m_law
  exact s_cons B (s_for B rfl (i_rng1 E (by kernel_rfl) (by kernel_rfl) rfl (r_bi E .max rfl (by kernel_rfl) (by kernel_rfl) rfl (.cons rfl (r_k E (by rfl)) (.cons rfl (r_bi E .min rfl (by kernel_rfl) (by kernel_rfl) rfl (.cons rfl (r_bi E .len rfl (by kernel_rfl) (by kernel_rfl) rfl (.cons rfl (r_v E (i := 0) (by kernel_rfl)) .nil)) (.cons rfl (r_k E (by rfl)) .nil))) .nil)))) (p_nmB B (by kernel_rfl)) (s_cons B (s_if B (r_no E (r_call E 54 at_54 rfl (by kernel_rfl) (by kernel_rfl) rfl (.cons rfl (r_call E 45 at_45 rfl (by kernel_rfl) (by kernel_rfl) rfl (.cons rfl (r_v E (i := 0) (by kernel_rfl)) (.cons rfl (r_v E (i := 1) (by kernel_rfl)) .nil))) .nil))) (s_cons B (s_ret B rfl (r_k E (by rfl))) (s_nil B)) (s_nil B)) (s_nil B))) (s_cons B (s_ret B rfl (r_k E (by rfl))) (s_nil B)), fun h => Bool.noConfusion (show false = true from h)⟩
theorem ok_all : ∀ d ∈ pt.defs, DfOk pt d := al_cons ok_0 (al_cons ok_1 (al_cons ok_2 (al_cons ok_3 (al_cons ok_4 (al_cons ok_5 (al_cons ok_6 (al_cons ok_7 (al_cons ok_8 (al_cons ok_9 (al_cons ok_10 (al_cons ok_11 (al_cons ok_12 (al_cons ok_13 (al_cons ok_14 (al_cons ok_15 (al_cons ok_16 (al_cons ok_17 (al_cons ok_18 (al_cons ok_19 (al_cons ok_20 (al_cons ok_21 (al_cons ok_22 (al_cons ok_23 (al_cons ok_24 (al_cons ok_25 (al_cons ok_26 (al_cons ok_27 (al_cons ok_28 (al_cons ok_29 (al_cons ok_30 (al_cons ok_31 (al_cons ok_32 (al_cons ok_33 (al_cons ok_34 (al_cons ok_35 (al_cons ok_36 (al_cons ok_37 (al_cons ok_38 (al_cons ok_39 (al_cons ok_40 (al_cons ok_41 (al_cons ok_42 (al_cons ok_43 (al_cons ok_44 (al_cons ok_45 (al_cons ok_46 (al_cons ok_47 (al_cons ok_48 (al_cons ok_49 (al_cons ok_50 (al_cons ok_51 (al_cons ok_52 (al_cons ok_53 (al_cons ok_54 (al_cons ok_55 al_nil)))))))))))))))))))))))))))))))))))))))))))))))))))))))
theorem xok : XOk pt := (al_cons (fun f hf => by cases hf; exact ⟨_, _, _, _, _, _, _, at_1, rfl, rfl, ok_1.sc, by decide, by decide, by decide, by decide⟩) (al_cons (fun f hf => by cases hf; exact ⟨_, _, _, _, _, _, _, at_2, rfl, rfl, ok_2.sc, by decide, by decide, by decide, by decide⟩) (al_cons (fun f hf => by cases hf; exact ⟨_, _, _, _, _, _, _, at_3, rfl, rfl, ok_3.sc, by decide, by decide, by decide, by decide⟩) (al_cons (fun f hf => by cases hf; exact ⟨_, _, _, _, _, _, _, at_4, rfl, rfl, ok_4.sc, by decide, by decide, by decide, by decide⟩) al_nil))))
abbrev RR : PySem.W.OpenRow := PySem.W.OpenLaw.row PySem.Challenge.rw_scorelists_k05_whole_lists_and_texts
def ob (s : PySem.W.SharedT) : AlP := obsPG 5 pt (HandSHeadRun.getT s)
theorem ob_eq (s : PySem.W.SharedT) : ob s = (hookP 5 pt).obs s.abs := obsPG_eq (HandSHeadRun.getT_eq s)
def loose : List PySem.Str := (["_wall", "WrongValue", "InvalidText", "InvalidNumber", "InvalidRows", "InvalidLeft", "MOST_POINTS", "MOST_KINDS", "MOST_PLAYERS", "MOST_SCORE", "MOST_LEFT", "LETTERS", "DIGITS", "LONGEST_NAME", "is_integer", "is_within", "is_name", "check_points", "read_number", "is_row", "wrong_row", "check_rows", "read_row", "read_list", "List", "is_left", "wrong_left", "Season", "_law_well", "_law_dip"] : List PySem.Str) ++ (["_law_names", "_law_number", "_law_end", "_law_rows", "_law_text", "_law_changed", "_law_alike", "_law_right"] : List PySem.Str)
theorem run (w : World) : HandSHeadRun.RunEq RR (PySem.W.view RR.prog [43]) (hookP 5 pt) ob 6000 loose w := by
  intro os
  kernel_rfl
end K05
open PySem PySem.W PySem.Calls PyProof.Rows
theorem PySem.Challenge.cw_scorelists_k05_whole_lists_and_texts_holds : PySem.Challenge.rw_scorelists_k05_whole_lists_and_texts.Holds := by
  w_on; o_law
  refine HandSHeadRun.head_any (r := OpenLaw.row PySem.Challenge.rw_scorelists_k05_whole_lists_and_texts) (q := view (OpenLaw.row PySem.Challenge.rw_scorelists_k05_whole_lists_and_texts).prog [43]) (H := G.hookP 5 K05.pt) (ob := K05.ob) (M := 6000) (loose := K05.loose) (d := HandSHeadRun.topDef (OpenLaw.row PySem.Challenge.rw_scorelists_k05_whole_lists_and_texts).prog 43) (kwd := []) K05.ob_eq
    (by kernel_rfl) (fun s => by kernel_rfl) K05.run (by kernel_rfl) (by kernel_rfl) (by kernel_rfl) (by rfl) (by first | assumption | decide +kernel) (by decide +kernel) ⟨rfl, rfl, rfl, rfl, rfl, by decide +kernel⟩ ?hw ?hc
  case hw => w_witness2
  case hc => exact G.law_glue (l := PySem.Challenge.rw_scorelists_k05_whole_lists_and_texts) (pt := K05.pt) (n := 40) (iL := 55) (k := 0) (x := "_law_script") rfl (by kernel_rfl) ⟨rfl, by decide +kernel, by decide +kernel⟩ K05.at_55 (by rfl) rfl K05.ok_all K05.xok K05.law_true
