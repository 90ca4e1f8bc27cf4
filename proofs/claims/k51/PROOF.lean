import PyProof.Rows.All
import Wide.All
import OpenK.AllK
import Wide.FinOn
import PyProof.ReprReads
import HandS.ForMost
import HandS.Exc
import HandS.TryOnly
import HandS.Wide
import HandS.WideBits
import HandS.Lambda
import HandS.HotCalls
import HandS.TupAny
import PyProof.EqKinds
import PyProof.FactsAll.dict_1
import HandS.Deep
import PyProof.SeqIndex
import HandS.Flow
import HandS.SortInts
import HandS.RaiseMore
import HandS.Text
import HandS.ExcOwn
import HandS.WordsExc
import HandS.Style
import HandS.More
import HandS.AnyAll
import PyProof.ReprRoads
import HandS.Comp
import HandS.Iter
import HandS.Zip
import KE.GoesEnum
import KE.GoesZip
import HandS.Property
import HandS.ClsMeth
import HandS.IsInst
import HandS.FStr
import HandS.Codes
import HandS.Strs
import HandS.ReCall
import OpenK.KMeth
import OpenK.KOps
import KE.KCallOwn
import PyProof.Conv_bool
import HandS.Star
import KE.KExcInit
import HandS.ExcInit
import HandS.SortKw
import KE.SortKeyHeap
import HandS.Ends
import HandS.HeadEnd
import HandS.Conv
import KE.KExcIs
import HandS.ExcField
import KE.KNestM
import HandS.HeadHook4
import HandS.ExcIs
import HandS.MakeKwOnly
import HandS.Head2
import KE.KRevSl
import HandS.Dict
import PyProof.StrLawsRepr
import PySem.Challenge.RW_scorelists_k51_whole_ranges_mirrored
set_option autoImplicit false
set_option linter.all false
set_option Elab.async false
set_option maxRecDepth 100000
set_option maxHeartbeats 4000000
namespace G
abbrev Nm := Nat
/-- data: what a Python value is, without addresses; loc: a changeable object of the store -/
inductive D where
  | non | bl (b : Bool) | int (i : Int) | str (s : List Nat)
  | tup (xs : List D) | lst (xs : List D) | dct (ks vs : List D)
  | loc (l : Nat)
  | obj (c : Nat) (fs : List D)
  | exc (c : Nat) (fs : List D)
  | cls (c : Nat)
  | fl (xs : List D)
instance : Inhabited D := ⟨.non⟩
inductive Obj where
  | lst (xs : List D)
  | ins (c : Nat) (fs : List (Nm × D))
  /-- a dict whose keys are tuples, whose values are True; whether it is locked -/
  | dic (z : Bool) (ks : List (List D))
abbrev Store := List Obj
/-- a slot of a frame: empty, a value, a list that the slot alone holds -/
inductive Sl where
  | em | v (d : D) | own (xs : List D) | xc (c : Nat) (fs : List D)
abbrev Env := List Sl
inductive O (α : Type) where
  | ok (a : α) (st : Store)
  | ex (c : Nat) (fs : List D) (st : Store)
  | bad
def O.bind {α β : Type} (x : O α) (f : α → Store → O β) : O β := match x with
  | .ok a st => f a st
  | .ex c fs st => .ex c fs st
  | .bad => .bad
def O.of {α : Type} (x : Option α) (st : Store) : O α := match x with
  | some a => .ok a st
  | none => .bad
inductive Op2 where
  | add | sub | mul | fdiv | mod | pow | eq | ne | lt | le | gt | ge | is | isnot | mem | nmem | idx
inductive Bi where
  | len | int | str | repr | abs | bool | min | max | sum | sorted | tuple | list | all | any | divmod
inductive Mt where
  | split | join | index | count | upper | replace
inductive Ty where
  | int | bool | str | tuple | own (c : Nat) | exc (c : Nat) | value | lookup | arith
inductive Pt where
  | nm (i : Nat) | tp (ps : List Pt)
/-- code points -/
def okCode (c : Nat) : Bool := decide (c < 1114112)
def b2i (b : Bool) : Int := if b then 1 else 0
mutual
def pyEq : D → D → Bool
  | .non, .non => true
  | .bl a, .bl b => a == b
  | .bl a, .int j => b2i a == j
  | .int i, .bl b => i == b2i b
  | .int i, .int j => i == j
  | .str x, .str y => x == y
  | .tup xs, .tup ys => pyEqs xs ys
  | .lst xs, .lst ys => pyEqs xs ys
  | _, _ => false
def pyEqs : List D → List D → Bool
  | [], [] => true
  | x :: xs, y :: ys => pyEq x y && pyEqs xs ys
  | _, _ => false
end
def isStr : D → Bool
  | .str _ => true
  | _ => false
mutual
/-- plain data, nested to a depth -/
def okEq : Nat → D → Bool
  | _, .non => true
  | _, .bl _ => true
  | _, .int _ => true
  | _, .str _ => true
  | n, .tup xs => match n with
    | 0 => false
    | n + 1 => okEqs n xs
  | n, .lst xs => match n with
    | 0 => false
    | n + 1 => okEqs n xs
  | _, _ => false
def okEqs : Nat → List D → Bool
  | _, [] => true
  | n, x :: xs => okEq n x && okEqs n xs
end
/-- the most items of a list, signs of a text -/
@[irreducible] def LIM : Nat := 16777216
/-- numbers that may be multiplied -/
@[irreducible] def BIG : Nat := 2 ^ 4000
def okMul (i j : Int) : Bool := decide (i.natAbs < BIG) && decide (j.natAbs < BIG)
@[irreducible] def DIV : Nat := 2 ^ 4000
def okDiv (j : Int) : Bool := decide (0 < j) && decide (j.natAbs < DIV)
def ixN (n : Nat) (i : Int) : Option Nat := if 0 ≤ i then (if i < n then some i.toNat else none) else if -(n : Int) ≤ i then some (i + n).toNat else none
def atI {α : Type} (xs : List α) (i : Int) : Option α := (ixN xs.length i).bind fun j => xs[j]?
/-- a sequence's items -/
def seqv (st : Store) : D → Option (List D)
  | .tup xs => some xs
  | .lst xs => some xs
  | .fl xs => some xs
  | .loc l => match st[l]? with
    | some (.lst xs) => some xs
    | _ => none
  | _ => none
def view (st : Store) : D → D
  | .loc l => match st[l]? with
    | some (.lst xs) => .lst xs
    | _ => .loc l
  | d => d
/-- a tuple of anything, and () -/
def tupNil : D → D → Option Bool
  | .tup xs, .tup [] => some xs.isEmpty
  | _, _ => none
def op2 (o : Op2) (st : Store) (x y : D) : Option D := match o with
  | .add => match view st x, view st y with
    | .int i, .int j => some (.int (i + j))
    | .str a, .str b => if a.length + b.length ≤ LIM then some (.str (a ++ b)) else none
    | .tup a, .tup b => if a.length + b.length ≤ LIM then some (.tup (a ++ b)) else none
    | .lst a, .lst b => if a.length + b.length ≤ LIM then some (.lst (a ++ b)) else none
    | _, _ => none
  | .sub => match x, y with
    | .int i, .int j => some (.int (i - j))
    | _, _ => none
  | .mul => match view st x, y with
    | .int i, .int j => if okMul i j then some (.int (i * j)) else none
    | .lst a, .int j => if 0 ≤ j ∧ j ≤ 4096 ∧ a.length * j.toNat ≤ LIM then some (.lst (List.replicate j.toNat a).flatten) else none
    | _, _ => none
  | .fdiv => match x, y with
    | .int i, .int j => if okDiv j then some (.int (i / j)) else none
    | _, _ => none
  | .mod => match x, y with
    | .int i, .int j => if okDiv j then some (.int (i % j)) else none
    | _, _ => none
  | .pow => match x, y with
    | .int i, .int j => if 0 ≤ j ∧ j ≤ 1000 ∧ i.natAbs < 1000 then some (.int (i ^ j.toNat)) else none
    | _, _ => none
  | .eq => let x := view st x; let y := view st y; if okEq 64 x && okEq 64 y then some (.bl (pyEq x y)) else (tupNil x y).map .bl
  | .ne => let x := view st x; let y := view st y; if okEq 64 x && okEq 64 y then some (.bl (!pyEq x y)) else none
  | .lt => match x, y with
    | .int i, .int j => some (.bl (decide (i < j)))
    | _, _ => none
  | .le => match x, y with
    | .int i, .int j => some (.bl (decide (i ≤ j)))
    | _, _ => none
  | .gt => match x, y with
    | .int i, .int j => some (.bl (decide (j < i)))
    | _, _ => none
  | .ge => match x, y with
    | .int i, .int j => some (.bl (decide (j ≤ i)))
    | _, _ => none
  | .is => match x, y with
    | .non, .non => some (.bl true)
    | .bl a, .bl b => some (.bl (a == b))
    | _, .non => some (.bl false)
    | _, _ => none
  | .isnot => match x, y with
    | .non, .non => some (.bl false)
    | .bl a, .bl b => some (.bl (a != b))
    | _, .non => some (.bl true)
    | _, _ => none
  | .mem => match x, y with
    | .str a, .str b => (match a with
      | [c] => some (.bl (b.contains c))
      | _ => none)
    | .dct _ _, y => (match seqv st y with
      | some ys => if ys.all isStr then some (.bl false) else none
      | none => none)
    | _, _ => match seqv st y with
      | some ys => let x := view st x; if okEq 64 x && okEqs 64 ys then some (.bl (ys.any fun z => pyEq z x)) else none
      | none => none
  | .nmem => match x, y with
    | .str a, .str b => (match a with
      | [c] => some (.bl (!b.contains c))
      | _ => none)
    | .dct _ _, y => (match seqv st y with
      | some ys => if ys.all isStr then some (.bl true) else none
      | none => none)
    | _, _ => match seqv st y with
      | some ys => let x := view st x; if okEq 64 x && okEqs 64 ys then some (.bl (!ys.any fun z => pyEq z x)) else none
      | none => none
  | .idx => match y with
    | .int i => match x with
      | .str a => (atI a i).map fun c => .str [c]
      | _ => (seqv st x).bind fun xs => atI xs i
    | _ => none
def isDig (c : Nat) : Bool := decide (48 ≤ c) && decide (c ≤ 57)
def digVal (s : List Nat) : Nat := s.foldl (fun n c => 10 * n + (c - 48)) 0
def natStr (n : Nat) : List Nat := (Nat.toDigits 10 n).map Char.toNat
def intStr (i : Int) : List Nat := match i with
  | .ofNat n => natStr n
  | .negSucc n => 45 :: natStr (n + 1)
def splitOn (c : Nat) : List Nat → List (List Nat)
  | [] => [[]]
  | x :: r => if x = c then [] :: splitOn c r else match splitOn c r with
    | [] => [[x]]
    | w :: ws => (x :: w) :: ws
def joinS (sep : List Nat) : List (List Nat) → List Nat
  | [] => []
  | [x] => x
  | x :: y :: r => x ++ sep ++ joinS sep (y :: r)
def dStrs : List D → Option (List (List Nat))
  | [] => some []
  | .str s :: r => (dStrs r).map (s :: ·)
  | _ => none
def dInts : List D → Option (List Int)
  | [] => some []
  | .int i :: r => (dInts r).map (i :: ·)
  | _ => none
def bls : List D → Option (List Bool)
  | [] => some []
  | .bl b :: r => (bls r).map (b :: ·)
  | _ => none
def lenSum : List (List Nat) → Nat
  | [] => 0
  | x :: r => x.length + lenSum r
mutual
/-- as the kit's plain data -/
def toPy : D → PySem.PyData
  | .non => .none
  | .bl b => .bool b
  | .int i => .int i
  | .str s => .str ⟨s.toArray⟩
  | .tup xs => .tuple (toPys xs)
  | .lst xs => .list (toPys xs)
  | _ => .none
def toPys : List D → List PySem.PyData
  | [] => []
  | x :: xs => toPy x :: toPys xs
end
/-- repr -/
def reprD (d : D) : List Nat := (toPy d).shown.cps.toList
/-- what repr may be asked of, nested to a depth -/
def okRep (n : Nat) (d : D) : Bool := okEq n d && (toPy d).showable && decide ((reprD d).length ≤ LIM) && (reprD d).all okCode
def leI (a b : Int) : Bool := decide (a ≤ b)
def maxI : List Int → Option Int
  | [] => none
  | [x] => some x
  | x :: r => (maxI r).map fun m => if m < x then x else m
def minI : List Int → Option Int
  | [] => none
  | [x] => some x
  | x :: r => (minI r).map fun m => if x < m then x else m
/-- a list's items -/
def listv (st : Store) : D → Option (List D)
  | .tup _ => none
  | d => seqv st d
/-- a built-in by its name; the third is whether the list is new -/
def bi (f : Bi) (st : Store) (ds : List D) : Option D := match f, ds with
  | .len, [.str s] => some (.int s.length)
  | .len, [d] => (seqv st d).map fun xs => .int xs.length
  | .int, [.int i] => some (.int i)
  | .int, [.bl b] => some (.int (b2i b))
  | .int, [.str s] => if s ≠ [] ∧ s.length ≤ 40 ∧ s.all isDig = true then some (.int (digVal s)) else none
  | .str, [.int i] => if i.natAbs < 2 ^ 1900 then some (.str (intStr i)) else none
  | .str, [.str s] => some (.str s)
  | .repr, [d] => let x := view st d
    if okRep 32 x then some (.str (reprD x)) else match x with
      | .dct [] [] => some (.str [123, 125])
      | _ => none
  | .abs, [.int i] => some (.int i.natAbs)
  | .bool, [.bl b] => some (.bl b)
  | .bool, [.int i] => some (.bl (i != 0))
  | .min, [.int i, .int j] => some (.int (if j < i then j else i))
  | .max, [.int i, .int j] => some (.int (if j > i then j else i))
  | .min, [d] => (listv st d).bind fun xs => (dInts xs).bind fun is => (minI is).map .int
  | .max, [d] => (listv st d).bind fun xs => (dInts xs).bind fun is => (maxI is).map .int
  | .sum, [d] => (listv st d).bind fun xs => (dInts xs).map fun is => .int is.sum
  | .sorted, [d] => (listv st d).bind fun xs => (dInts xs).map fun is => .lst ((is.mergeSort leI).map .int)
  | .tuple, [d] => (seqv st d).map .tup
  | .list, [d] => (seqv st d).map .lst
  | .all, [d] => (listv st d).bind fun xs => (bls xs).map fun bs => .bl (bs.all id)
  | .any, [d] => (listv st d).bind fun xs => (bls xs).map fun bs => .bl (bs.any id)
  | .divmod, [.int i, .int j] => if okDiv j then some (.tup [.int (i / j), .int (i % j)]) else none
  | _, _ => none
def mt (m : Mt) (st : Store) (x : D) (ds : List D) : Option D := match m, x, ds with
  | .split, .str s, [.str [c]] => if s.length + 2 ≤ LIM then some (.lst ((splitOn c s).map .str)) else none
  | .join, .str s, [d] => (seqv st d).bind fun xs => (dStrs xs).bind fun ss => if lenSum ss + s.length * ss.length ≤ LIM then some (.str (joinS s ss)) else none
  | .index, x, [y] => (seqv st x).bind fun xs => if okEq 64 y && okEqs 63 xs then (xs.findIdx? fun z => pyEq z y).map fun (k : Nat) => .int (k : Int) else none
  | .count, x, [y] => (seqv st x).bind fun xs => if okEq 64 y && okEqs 63 xs then some (.int (xs.countP fun z => pyEq z y)) else none
  | _, _, _ => none
/-- truth -/
def truth (st : Store) : D → Option Bool
  | .non => some false
  | .bl b => some b
  | .int i => some (i != 0)
  | .str s => some (!s.isEmpty)
  | d => (seqv st d).map fun xs => !xs.isEmpty
mutual
/-- all changeable objects in it are older than the n-th -/
def ltLoc (n : Nat) : D → Bool
  | .tup xs => ltLocs n xs
  | .lst xs => ltLocs n xs
  | .dct ks vs => ltLocs n ks && ltLocs n vs
  | .loc l => decide (l < n)
  | .fl xs => ltLocs n xs
  | .obj _ fs => ltLocs n fs
  | .exc _ fs => ltLocs n fs
  | _ => true
def ltLocs (n : Nat) : List D → Bool
  | [] => true
  | x :: xs => ltLoc n x && ltLocs n xs
end
structure Cl where
  fields : List Nm
  init : Nat
  props : List (Nm × Nat)
  meths : List (Nm × Nat)
  frozen : Bool
structure Xc where
  field : List Nm
  base : Nat        -- 0 ValueError, 1 LookupError, 2 ArithmeticError
  own : Nat         -- the base class's number
structure Ctx where
  call : Nat → List D → Store → O D
  cls : Nat → Option Cl
  exs : Nat → Option Xc
  glob : Nat → Option D
def n_len : Nm := 1
def n_contains : Nm := 2
def n_eq : Nm := 3
def n_str : Nm := 4
def n_bool : Nm := 5
/-- an object's class and fields -/
def objv (st : Store) : D → Option (Nat × List D)
  | .obj c fs => some (c, fs)
  | .loc l => match st[l]? with
    | some (.ins c fs) => some (c, fs.map (·.2))
    | _ => none
  | _ => none
def fldv (Γ : Ctx) (st : Store) (f : Nm) : D → Option D
  | .obj c fs => (Γ.cls c).bind fun k => ((k.fields.zip fs).lookup f)
  | .loc l => match st[l]? with
    | some (.ins c fs) => (Γ.cls c).bind fun k => if f ∈ k.fields then fs.lookup f else none
    | _ => none
  | _ => none
def Env.get (env : Env) (i : Nat) : Option D := match env[i]? with
  | some (.v d) => some d
  | _ => none
def Env.pk (env : Env) (i : Nat) : Option D := match env[i]? with
  | some (.own xs) => some (.lst xs)
  | some (.v d) => some d
  | _ => none
def wipe (env : Env) : List Nat → Env
  | [] => env
  | i :: r => (wipe env r).set i .em
mutual
/-- the slots of a pattern -/
def ptSlots : Pt → List Nat
  | .nm i => [i]
  | .tp ps => ptsSlots ps
def ptsSlots : List Pt → List Nat
  | [] => []
  | p :: ps => ptSlots p ++ ptsSlots ps
end
mutual
def setPt : Pt → D → Env → Option Env
  | .nm i, d, env => some (env.set i (.v d))
  | .tp ps, .tup ds, env => setPts ps ds env
  | .tp ps, .lst ds, env => setPts ps ds env
  | .tp ps, .exc _ ds, env => setPts ps ds env
  | _, _, _ => none
def setPts : List Pt → List D → Env → Option Env
  | [], [], env => some env
  | p :: ps, d :: ds, env => (setPt p d env).bind (setPts ps ds)
  | _, _, _ => none
end
/-- the items of lo .. hi - 1 -/
def rangeD (lo hi : Int) : List D := (List.range (hi - lo).toNat).map fun (k : Nat) => D.int (lo + (k : Int))
/-- .exc 0: a tuple that is taken apart at once -/
def enumD (xs : List D) : List D := xs.zipIdx.map fun p => .exc 0 [.int p.2, p.1]
def zipD (xs ys : List D) : List D := (xs.zip ys).map fun p => .exc 0 [p.1, p.2]
def zipV : D → D → Option (List D)
  | .lst xs, .lst ys => some (zipD xs ys)
  | .tup xs, .tup ys => some (zipD xs ys)
  | .lst xs, .tup ys => some (zipD xs ys)
  | .tup xs, .lst ys => some (zipD xs ys)
  | _, _ => none
/-- a slice's end, clipped -/
def clip (n d : Nat) : Option Int → Nat
  | none => d
  | some v => if v < 0 then (max (v + n) 0).toNat else (min v n).toNat
def cut {α : Type} (xs : List α) (lo hi : Option Int) : List α := (xs.drop (clip xs.length 0 lo)).take (clip xs.length xs.length hi - clip xs.length 0 lo)
def slice (st : Store) (d : D) (lo hi : Option Int) : Option D := match view st d with
  | .str s => some (.str (cut s lo hi))
  | .tup xs => some (.tup (cut xs lo hi))
  | .lst xs => some (.lst (cut xs lo hi))
  | .fl xs => some (.lst (cut xs lo hi))
  | _ => none
/-- the turns of a comprehension: what it has so far -/
def compL (f : D → Store → O (Option D)) : List D → List D → Store → O (List D)
  | [], acc, st => .ok acc st
  | x :: r, acc, st => match f x st with
    | .ok (some y) st' => if acc.length < LIM then compL f r (acc ++ [y]) st' else .bad
    | .ok none st' => compL f r acc st'
    | _ => .bad
def optI : List D → Option (Option Int)
  | [] => some none
  | [.int i] => some (some i)
  | _ => none
/-- an instance is made: __init__ runs over a new place of the store; a frozen class's instance is taken out of it -/
def mkObj (Γ : Ctx) (c : Nat) (ds : List D) (st : Store) : O D := match Γ.cls c with
  | none => .bad
  | some k => match Γ.call k.init (.loc st.length :: ds) (st ++ [.ins c []]) with
    | .ok .non st' => if k.frozen then (match st'[st.length]? with
        | some (.ins b fs) => if b = c ∧ fs.map (·.1) = k.fields ∧ st'.length = st.length + 1 then .ok (.obj c (fs.map (·.2))) (st'.take st.length) else .bad
        | _ => .bad) else .ok (.loc st.length) st'
    | .ex b fs st' => .ex b fs st'
    | _ => .bad
/-- the items of a sequence that does not change -/
def seqF : D → Option (List D)
  | .tup xs => some xs
  | .lst xs => some xs
  | _ => none
/-- what may be walked: texts, too -/
def seqI : D → Option (List D)
  | .str s => some (s.map fun c => .str [c])
  | d => seqF d
structure Sem where
  val : Env → Store → O D
  test : Env → Store → O Bool
  items : Env → Store → O (List D)
def Sem.of (v : Env → Store → O D) : Sem where
  val := v
  test := fun env st => (v env st).bind fun x st => .of (truth st x) st
  items := fun env st => (v env st).bind fun x st => .of (seqI x) st
def Sem.walk (w : Env → Store → O (List D)) : Sem where
  val := fun _ _ => .bad
  test := fun _ _ => .bad
  items := w
def Sem.ife (c a b : Sem) : Sem where
  val := fun env st => (c.test env st).bind fun t st => if t then a.val env st else b.val env st
  test := fun env st => (c.test env st).bind fun t st => if t then a.test env st else b.test env st
  items := fun env st => ((c.test env st).bind fun t st => if t then a.val env st else b.val env st).bind fun x st => .of (seqI x) st
def Sem.no (a : Sem) : Sem where
  val := fun env st => (a.val env st).bind fun x st => (O.of (truth st x) st).bind fun b st => .ok (.bl (!b)) st
  test := fun env st => (a.test env st).bind fun b st => .ok (!b) st
  items := fun _ _ => .bad
/-- arguments from the left -/
def args : List Sem → Env → Store → O (List D)
  | [], _, st => .ok [] st
  | e :: r, env, st => (e.val env st).bind fun x st => (args r env st).bind fun xs st => .ok (x :: xs) st
/-- a and b .., a or b .. as values (all but the last are bools) -/
def bopV (and : Bool) : List Sem → Env → Store → O D
  | [], _, _ => .bad
  | [e], env, st => e.val env st
  | e :: r, env, st => (e.val env st).bind fun x st => match x with
    | .bl b => if b = and then bopV and r env st else .ok (.bl b) st
    | _ => .bad
def bopT (and : Bool) : List Sem → Env → Store → O Bool
  | [], _, _ => .bad
  | [e], env, st => e.test env st
  | e :: r, env, st => (e.test env st).bind fun b st => if b = and then bopT and r env st else .ok b st
def Sem.bop (and : Bool) (es : List Sem) : Sem where
  val := bopV and es
  test := bopT and es
  items := fun _ _ => .bad
/-- two values, then an operation -/
def two (sa sb : Sem) (f : D → D → Store → O D) : Env → Store → O D := fun env st => (sa.val env st).bind fun x st => (sb.val env st).bind fun y st => f x y st
def one (sa : Sem) (f : D → Store → O D) : Env → Store → O D := fun env st => (sa.val env st).bind f
def many (es : List Sem) (f : List D → Store → O D) : Env → Store → O D := fun env st => (args es env st).bind f
def chain (o p : Op2) (sa sb sc : Sem) : Env → Store → O D := fun env st => (sa.val env st).bind fun x st => (sb.val env st).bind fun y st => (O.of (op2 o st x y) st).bind fun r st => match r with
  | .bl true => (sc.val env st).bind fun z st => .of (op2 p st y z) st
  | .bl false => .ok (.bl false) st
  | _ => .bad
/-- a comprehension's tests: at most one -/
def testsV : List Sem → Env → Store → O Bool
  | [], _, st => .ok true st
  | [e], env, st => e.test env st
  | _, _, _ => .bad
/-- nothing is let out -/
def O.hush {α : Type} : O α → O α
  | .ok a st => .ok a st
  | _ => .bad
/-- len(x), str(x), bool(x) of an own class (one class is meant) -/
def dunV (Γ : Ctx) (c : Nat) (m : Nm) (x : D) (st : Store) : O D := match objv st x with
  | some (b, _) => if b = c then (match (Γ.cls c).bind fun k => k.meths.lookup m with
    | some f => (Γ.call f [x] st).hush.bind fun r st => (match r with
      | .int i => if m = n_len ∧ 0 ≤ i ∧ i ≤ 1000 then .ok (.int i) st else .bad
      | .str s => if m = n_str then .ok (.str s) st else .bad
      | .bl b => if m = n_bool then .ok (.bl b) st else .bad
      | _ => .bad)
    | none => .bad) else .bad
  | none => .bad
/-- x in y, y of an own class -/
def hasV (Γ : Ctx) (c : Nat) (neg : Bool) (x y : D) (st : Store) : O D := match objv st y with
  | some (b, _) => if b = c then (match (Γ.cls c).bind fun k => k.meths.lookup n_contains with
    | some f => (Γ.call f [y, x] st).hush.bind fun r st => (match r with
      | .bl b => .ok (.bl (b != neg)) st
      | _ => .bad)
    | none => .bad) else .bad
  | none => .bad
def neg1 : D → Option D
  | .int i => some (.int (-i))
  | _ => none
def atV (Γ : Ctx) (f : Nm) (x : D) (st : Store) : O D := match fldv Γ st f x with
  | some d => .ok d st
  | none => match (objv st x).bind fun p => (Γ.cls p.1).bind fun k => k.props.lookup f with
    | some g => (Γ.call g [x] st).hush
    | none => .bad
def rngI (ds : List D) (st : Store) : O (List D) := match ds with
  | [.int j] => if -LIM ≤ j ∧ j ≤ LIM then .ok (rangeD 0 j) st else .bad
  | [.int i, .int j] => if -LIM ≤ i ∧ i ≤ LIM ∧ -LIM ≤ j ∧ j ≤ LIM then .ok (rangeD i j) st else .bad
  | _ => .bad
/-- a new changeable list -/
def newV (ds : List D) (st : Store) : O D := if ltLocs st.length ds = true ∧ ds.length ≤ LIM then .ok (.loc st.length) (st ++ [.lst ds]) else .bad
/-- one turn of a comprehension -/
def turnV (own : List Nat) (elt : Sem) (p : Pt) (ifs : List Sem) (env : Env) (x : D) (st : Store) : O (Option D) := match setPt p x (wipe env own) with
  | none => .bad
  | some env => (testsV ifs env st).bind fun t st => if t then (elt.val env st).bind fun y st => .ok (some y) st else .ok none st
/-- two fors: the inner one's turns go on with the same list -/
def compL2 (f : D → List D → Store → O (List D)) : List D → List D → Store → O (List D)
  | [], acc, st => .ok acc st
  | x :: r, acc, st => match f x acc st with
    | .ok acc' st' => compL2 f r acc' st'
    | _ => .bad
def noFld (st : Store) (m : Nm) : D → Bool
  | .loc l => match st[l]? with
    | some (.ins _ fs) => fs.all fun p => p.1 != m
    | _ => true
  | _ => true
/-- o.m(..), a def of o's class (one class is meant) -/
def meV (Γ : Ctx) (c : Nat) (m : Nm) (so : Sem) (ss : List Sem) : Env → Store → O D := fun env st => (so.val env st).bind fun x st => match objv st x with
  | some (b, _) => if b = c ∧ noFld st m x = true then (match (Γ.cls c).bind fun k => k.meths.lookup m with
    | some f => (args ss env st).bind fun ds st => Γ.call f (x :: ds) st
    | none => .bad) else .bad
  | none => .bad
def optV (ss : List Sem) : Env → Store → O (Option Int) := fun env st => (args ss env st).bind fun ds st => .of (optI ds) st
def slV (s : Sem) (lo hi : List Sem) : Env → Store → O D := fun env st => (s.val env st).bind fun x st => (optV lo env st).bind fun l st => (optV hi env st).bind fun h st => .of (slice st x l h) st
inductive R where
  | nx (env : Env) (st : Store) | rt (d : D) (st : Store) | bk (env : Env) (st : Store) | ct (env : Env) (st : Store)
  | ex (env : Env) (c : Nat) (fs : List D) (st : Store)
  | bad
def O.run {α : Type} (x : O α) (env : Env) (f : α → Store → R) : R := match x with
  | .ok a st => f a st
  | .ex c fs st => .ex env c fs st
  | .bad => .bad
def putF (f : Nm) (d : D) : List (Nm × D) → List (Nm × D)
  | [] => [(f, d)]
  | (g, e) :: r => if g = f then (f, d) :: r else (g, e) :: putF f d r
def isFld (Γ : Ctx) (c : Nat) (f : Nm) : Bool := match Γ.cls c with
  | some k => k.fields.contains f
  | none => false
abbrev StS := Env → Store → R
def forL (body : StS) (p : Pt) : List D → Env → Store → R
  | [], env, st => .nx env st
  | x :: r, env, st => match setPt p x env with
    | none => .bad
    | some env => match body env st with
      | .nx env st => forL body p r env st
      | .ct env st => forL body p r env st
      | .bk env st => .nx env st
      | o => o
def whileL (t : Env → Store → O Bool) (body : StS) : Nat → Env → Store → R
  | 0, _, _ => .bad
  | n + 1, env, st => (t env st).run env fun b st => if b then (match body env st with
      | .nx env st => whileL t body n env st
      | .ct env st => whileL t body n env st
      | .bk env st => .nx env st
      | o => o) else .nx env st
/-- the slot of an except clause's name is emptied behind the suite -/
def Sl.cool : Sl → Sl
  | .xc _ _ => .em
  | s => s
def coolE (i : Nat) (env : Env) : Env := (env.set i .em).map Sl.cool
def R.cool (i : Nat) : R → R
  | .nx env st => .nx (coolE i env) st
  | .bk env st => .bk (coolE i env) st
  | .ct env st => .ct (coolE i env) st
  | .rt d st => .rt d st
  | _ => .bad
def Ty.isInt : Ty → Bool
  | .int => true
  | _ => false
def Ty.isBl : Ty → Bool
  | .int => true
  | .bool => true
  | _ => false
def Ty.isStr : Ty → Bool
  | .str => true
  | _ => false
def Ty.isTup : Ty → Bool
  | .tuple => true
  | _ => false
def Ty.isOwn (c : Nat) : Ty → Bool
  | .own b => c == b
  | _ => false
/-- plain isinstance: instances' classes are known -/
def isiV (Γ : Ctx) (st : Store) (d : D) (τ : Ty) : Option Bool := match d with
  | .non => some false
  | .bl _ => some τ.isBl
  | .int _ => some τ.isInt
  | .str _ => some τ.isStr
  | .tup _ => some τ.isTup
  | .lst _ => some false
  | .fl _ => some false
  | .dct _ _ => some false
  | .loc l => match st[l]? with
    | some (.lst _) => some false
    | some (.ins c _) => if (Γ.cls c).isSome = true then some (τ.isOwn c) else none
    | some (.dic _ _) => none
    | none => none
  | .obj c _ => if (Γ.cls c).isSome = true then some (τ.isOwn c) else none
  | _ => none
def fmtD : D → Option D
  | .str x => some (.str x)
  | .int i => if i.natAbs < 2 ^ 1900 then some (.str (intStr i)) else none
  | _ => none
/-- the parts one behind another -/
def joinedV : List Sem → List Nat → Env → Store → O D
  | [], acc, _, st => .ok (.str acc) st
  | s :: ss, acc, env, st => (s.val env st).bind fun d st => match d with
    | .str y => if acc.length + y.length ≤ LIM then joinedV ss (acc ++ y) env st else .bad
    | _ => .bad
def lcV (sI sE : Sem) (own : List Nat) (p : Pt) (ss : List Sem) : Env → Store → O D := fun env st => (sI.items env st).bind fun items st => (compL (turnV own sE p ss env) items [] st).bind fun ds st => .ok (.lst ds) st
/-- [elt for p in sI if .. for p1 in sI1 if ..] -/
def turn2V (sI1 elt : Sem) (own1 : List Nat) (p1 : Pt) (ifs1 : List Sem) (own : List Nat) (p : Pt) (ifs : List Sem) (env : Env) (x : D) (acc : List D) (st : Store) : O (List D) := match setPt p x (wipe env own) with
  | none => .bad
  | some env => (testsV ifs env st).bind fun t st => if t then (sI1.items env st).bind fun ys st => compL (turnV own1 elt p1 ifs1 env) ys acc st else .ok acc st
def lc2V (sI sI1 elt : Sem) (own1 : List Nat) (p1 : Pt) (ifs1 : List Sem) (own : List Nat) (p : Pt) (ifs : List Sem) : Env → Store → O D := fun env st => (sI.items env st).bind fun items st => (compL2 (turn2V sI1 elt own1 p1 ifs1 own p ifs env) items [] st).bind fun ds st => .ok (.lst ds) st
def lc2E (sI sI1 elt : Sem) (own1 : List Nat) (p1 : Pt) (ifs1 : List Sem) (own : List Nat) (p : Pt) (ifs : List Sem) : Sem := .of (lc2V sI sI1 elt own1 p1 ifs1 own p ifs)
/-- one after another -/
def seqR (r : R) (f : StS) : R := match r with
  | .nx env st => f env st
  | o => o
def R.pl : R → Bool
  | .nx _ _ => true
  | .ex _ _ _ _ => true
  | .bad => true
  | _ => false
/-- name = a new list, which the name alone will hold -/
def ownR (i : Nat) (d : D) (env : Env) (st : Store) : R := match d with
  | .lst xs => .nx (env.set i (.own xs)) st
  | _ => .bad
def putO : List (Bool × Nat) → List D → Env → Option Env
  | [], [], env => some env
  | (false, i) :: ts, d :: ds, env => putO ts ds (env.set i (.v d))
  | (true, i) :: ts, .lst xs :: ds, env => putO ts ds (env.set i (.own xs))
  | _, _, _ => none
def ofPut (o : Option Env) (st : Store) : R := match o with
  | some env => .nx env st
  | none => .bad
/-- x[b] = .., of a slot's own list -/
def osubR (i : Nat) (sb : Sem) (d : D) : StS := fun env st => match env[i]? with
  | some (.own xs) => (sb.val env st).run env fun k st => match k with
    | .int k => match ixN xs.length k with
      | some j => .nx (env.set i (.own (xs.set j d))) st
      | none => .bad
    | _ => .bad
  | _ => .bad
/-- a[b] = .., of a list of the store -/
def subR (sa sb : Sem) (d : D) : StS := fun env st => (sa.val env st).run env fun x st => (sb.val env st).run env fun k st => match x, k with
    | .loc l, .int k => (match st[l]? with
      | some (.lst xs) => match ixN xs.length k with
        | some j => if ltLoc l d then .nx env (st.set l (.lst (xs.set j d))) else .bad
        | none => .bad
      | _ => .bad)
    | _, _ => .bad
def setAll : List (D → StS) → List D → StS
  | [], [], env, st => .nx env st
  | f :: fs, d :: ds, env, st => seqR (f d env st) (setAll fs ds)
  | _, _, _, _ => .bad
def appR (i : Nat) (se : Sem) : StS := fun env st => match env[i]? with
  | some (.own xs) => (se.val env st).run env fun d st => if xs.length < LIM then .nx (env.set i (.own (xs ++ [d]))) st else .bad
  | _ => .bad
def aug1 (o : Op2) (i : Nat) (x : Int) (d : D) (env : Env) (st : Store) : R := match o, d with
  | .add, .int y => .nx (env.set i (.v (.int (x + y)))) st
  | .sub, .int y => .nx (env.set i (.v (.int (x - y)))) st
  | _, _ => .bad
def augR (i : Nat) (o : Op2) (se : Sem) : StS := fun env st => match env.get i with
  | some (.int x) => (se.val env st).run env fun y st => aug1 o i x y env st
  | _ => .bad
/-- o.f = e, of an object of the store -/
def fldR (Γ : Ctx) (f : Nm) (so : Sem) (d : D) : StS := fun env st => (so.val env st).run env fun x st => match x with
    | .loc l => (match st[l]? with
      | some (.ins c fs) => if ltLoc l d = true ∧ fs.length < 100 ∧ isFld Γ c f = true then .nx env (st.set l (.ins c (putF f d fs))) else .bad
      | _ => .bad)
    | _ => .bad
def frzS (i : Nat) (f : StS) : StS := fun env st => match env[i]? with
  | some (.own xs) => f (env.set i (.v (.lst xs))) st
  | _ => .bad
/-- the meaning of a def: data in, an outcome -/
abbrev Fd := List D → Store → O D
def pick {α : Type} (d : α) (is : List Nat) (xs : List α) : List α := is.map fun i => xs.getD i d
def passS : StS := fun env st => .nx env st
def brkS : StS := fun env st => .bk env st
def contS : StS := fun env st => .ct env st
def ret0S : StS := fun _ st => .rt .non st
def badS : StS := fun _ _ => .bad
def retS (s : Sem) : StS := fun env st => (s.val env st).run env fun d st => .rt d st
def exS (s : Sem) : StS := fun env st => (s.val env st).run env fun _ st => .nx env st
def ifS (c : Sem) (a b : StS) : StS := fun env st => (c.test env st).run env fun t st => if t then a env st else b env st
def seqS (a b : StS) : StS := fun env st => seqR (a env st) b
def nmS (i : Nat) (s : Sem) : StS := fun env st => (s.val env st).run env fun d st => .nx (env.set i (.v d)) st
def ownS (i : Nat) (s : Sem) : StS := fun env st => (s.val env st).run env fun d st => ownR i d env st
def tgS (f : D → StS) (s : Sem) : StS := fun env st => (s.val env st).run env fun d st => f d env st
def parS (ts : List (Bool × Nat)) (ss : List Sem) : StS := fun env st => (args ss env st).run env fun ds st => ofPut (putO ts ds env) st
def asgnS (fs : List (D → StS)) (ss : List Sem) : StS := fun env st => (args ss env st).run env fun ds st => setAll fs ds env st
def unpS (fs : List (D → StS)) (s : Sem) : StS := fun env st => (s.val env st).run env fun d st => match d with
  | .tup ds => if ds.length = fs.length then setAll fs ds env st else .bad
  | .lst ds => if ds.length = fs.length then setAll fs ds env st else .bad
  | _ => .bad
def forS (p : Pt) (s : Sem) (f : StS) : StS := fun env st => (s.items env st).run env fun xs st => forL f p xs env st
def whlS (c : Sem) (f : StS) : StS := whileL c.test f 2000
def raiseS (Γ : Ctx) (c : Nat) (ss : List Sem) : StS := fun env st => (args ss env st).run env fun ds st => match Γ.exs c with
  | some k => if k.field.length = ds.length then .ex env c ds st else .bad
  | none => .bad
def kE (d : D) : Sem := .of fun _ st => .ok d st
def vE (i : Nat) : Sem := .of fun env st => .of (env.get i) st
def pkE (i : Nat) : Sem := .of fun env st => .of (env.pk i) st
def opE (o : Op2) (a b : Sem) : Sem := .of (two a b fun x y st => .of (op2 o st x y) st)
def tupE (es : List Sem) : Sem := .of (many es fun ds st => .ok (.tup ds) st)
def lstE (es : List Sem) : Sem := .of (many es fun ds st => .ok (.lst ds) st)
def newE (es : List Sem) : Sem := .of (many es newV)
def biE (f : Bi) (es : List Sem) : Sem := .of (many es fun ds st => .of (bi f st ds) st)
def callE (c : Fd) (es : List Sem) : Sem := .of (many es c)
def mkE (Γ : Ctx) (c : Nat) (es : List Sem) : Sem := .of (many es (mkObj Γ c))
def isiE (Γ : Ctx) (s : Sem) (τ : Ty) : Sem := .of (one s fun d st => .of ((isiV Γ st d τ).map .bl) st)
def atE (Γ : Ctx) (f : Nm) (s : Sem) : Sem := .of (one s fun d st => atV Γ f d st)
def meE (Γ : Ctx) (c : Nat) (m : Nm) (s : Sem) (es : List Sem) : Sem := .of (meV Γ c m s es)
def cmE (call : Fd) (c : Nat) (es : List Sem) : Sem := .of (many es fun ds st => call (.cls c :: ds) st)
def hasE (Γ : Ctx) (c : Nat) (neg : Bool) (a b : Sem) : Sem := .of (two a b (hasV Γ c neg))
def lenOE (Γ : Ctx) (c : Nat) (a : Sem) : Sem := .of (one a (dunV Γ c n_len))
def lcE (s e : Sem) (own : List Nat) (p : Pt) (ifs : List Sem) : Sem := .of (lcV s e own p ifs)
def slE (s : Sem) (lo hi : List Sem) : Sem := .of (slV s lo hi)
def splitE (s : Sem) (c : Nat) : Sem := .of (one s fun d st => .of (mt .split st d [.str [c]]) st)
def joinE (x : List Nat) (s : Sem) : Sem := .of (one s fun d st => .of (mt .join st (.str x) [d]) st)
def fmtE (s : Sem) : Sem := .of (one s fun d st => .of (fmtD d) st)
def joinedE (ss : List Sem) : Sem := .of (joinedV ss [])
def negE (s : Sem) : Sem := .of (one s fun x st => .of (neg1 x) st)
def rngE (es : List Sem) : Sem := .walk fun env st => (args es env st).bind fun ds st => rngI ds st
def enumE (s : Sem) : Sem := .walk fun env st => (s.val env st).bind fun x st => .of ((seqF x).map enumD) st
def zipE (s t : Sem) : Sem := .walk fun env st => (s.val env st).bind fun x st => (t.val env st).bind fun y st => .of (zipV x y) st
def chE (o p : Op2) (a b c : Sem) : Sem := .of (chain o p a b c)
def mkcE (Γ : Ctx) (i c : Nat) (es : List Sem) : Sem := .of fun env st => match env.get i with
  | some (.cls d) => if d = c then many es (mkObj Γ c) env st else .bad
  | _ => .bad
def callKE (c : Fd) (is : List Nat) (es : List Sem) : Sem := .of (many es fun ds st => c (pick .non is ds) st)
def mkKE (Γ : Ctx) (c : Nat) (is : List Nat) (es : List Sem) : Sem := .of (many es fun ds st => mkObj Γ c (pick .non is ds) st)
def appS (i : Nat) (s : Sem) : StS := appR i s
def augS (i : Nat) (o : Op2) (s : Sem) : StS := augR i o s
def fldS (Γ : Ctx) (f : Nm) (so s : Sem) : StS := fun env st => (s.val env st).run env fun d st => fldR Γ f so d env st
def nmT (i : Nat) (d : D) : StS := fun env st => .nx (env.set i (.v d)) st
/-- [x, *ys] -/
def consV (x y : D) (st : Store) : O D := match seqv st y with
  | some ys => if ys.length < LIM then .ok (.lst (x :: ys)) st else .bad
  | none => .bad
def consE (a b : Sem) : Sem := .of (two a b consV)
def strOE (Γ : Ctx) (c : Nat) (a : Sem) : Sem := .of (one a (dunV Γ c n_str))
def boolOE (Γ : Ctx) (c : Nat) (a : Sem) : Sem := .of (one a (dunV Γ c n_bool))
def upC (c : Nat) : Nat := if 97 ≤ c ∧ c ≤ 122 then c - 32 else c
def upD : D → Option D
  | .str x => if x.length ≤ 1000000 ∧ x.all (fun c => decide (c < 128)) = true then some (.str (x.map upC)) else none
  | _ => none
def upE (s : Sem) : Sem := .of (one s fun d st => .of (upD d) st)
/-- {k: v}, a text or an int for the key -/
def keyOk : D → Bool
  | .str _ => true
  | .int _ => true
  | _ => false
def dct1V (x y : D) (st : Store) : O D := if keyOk x then .ok (.dct [x] [y]) st else .bad
def dct1E (a b : Sem) : Sem := .of (two a b dct1V)
def dct0E : Sem := .of fun _ st => .ok (.dct [] []) st
/-- a value that is a list -/
def lsE (s : Sem) : Sem := .of fun env st => (s.val env st).bind fun d st => match d with
  | .lst xs => .ok (.lst xs) st
  | _ => .bad
/-- x.insert(i, e), of a slot's own list -/
def insS (i : Nat) (a b : Sem) : StS := fun env st => match env[i]? with
  | some (.own xs) => (a.val env st).run env fun k st => (b.val env st).run env fun d st => match k with
    | .int k => if 0 ≤ k ∧ k ≤ xs.length ∧ xs.length < LIM then .nx (env.set i (.own (xs.take k.toNat ++ d :: xs.drop k.toNat))) st else .bad
    | _ => .bad
  | _ => .bad
/-- what a key may be: the item, a captured name, a number, a subscript -/
inductive KX where
  | p | c (i : Nat) | k (z : Int) | ix (a b : KX)
def KX.val (env : Env) (x : D) : KX → Option D
  | .p => some x
  | .c i => env.get i
  | .k z => some (.int z)
  | .ix a b => (KX.val env x a).bind fun u => (KX.val env x b).bind fun j => match j with
    | .int j => (seqF u).bind fun xs => atI xs j
    | _ => none
def dInt : Option D → Option Int
  | some (.int i) => some i
  | _ => none
def dStr : Option D → Option (List Nat)
  | some (.str i) => some i
  | _ => none
/-- by whole numbers, or by texts -/
def sortK (f : D → Option D) (xs : List D) : Option (List D) :=
  if xs.all (fun x => (dInt (f x)).isSome) = true then some (xs.mergeSort fun a b => decide ((dInt (f a)).getD 0 ≤ (dInt (f b)).getD 0))
  else if xs.all (fun x => (dStr (f x)).isSome) = true then some (xs.mergeSort fun a b => decide ((dStr (f a)).getD [] ≤ (dStr (f b)).getD []))
  else none
def sortKE (kx : KX) (s : Sem) : Sem := .of fun env st => (s.val env st).bind fun d st => .of (((listv st d).bind fun xs => sortK (fun x => kx.val env x) xs).map .lst) st
/-- x.index(e), x.count(e) of a list -/
def isLs : D → Bool
  | .lst _ => true
  | _ => false
def idxV (f : Mt) (s t : Sem) : Env → Store → O D := fun env st => (s.val env st).bind fun x st => if isLs x then (t.val env st).bind fun y st => .of (mt f st x [y]) st else .bad
def indexE (s t : Sem) : Sem := .of (idxV .index s t)
/-- t.index(e), of a tuple -/
def isTp : D → Bool
  | .tup _ => true
  | _ => false
def tidxV (s t : Sem) : Env → Store → O D := fun env st => (s.val env st).bind fun x st => if isTp x then (t.val env st).bind fun y st => .of (mt .index st x [y]) st else .bad
def tindexE (s t : Sem) : Sem := .of (tidxV s t)
def countE (s t : Sem) : Sem := .of (idxV .count s t)
/-- list(range(..)) -/
def lrngE (es : List Sem) : Sem := .of fun env st => (args es env st).bind fun ds st => (rngI ds st).bind fun xs st => .ok (.lst xs) st
/-- try: .., its except clauses by their classes, the name's slot -/
def tryS (f : StS) (i : Nat) (hs : List (Nat × StS)) : StS := fun env st => match f env st with
  | .ex env1 c fs st1 => (match hs.lookup c with
    | some g => if i < env1.length then (g (env1.set i (.xc c fs)) st1).cool i else .bad
    | none => .bad)
  | r => r
/-- e.f, isinstance(e, T), f(e, ..) of an exception in a slot -/
def xatE (Γ : Ctx) (f : Nm) (i : Nat) : Sem := .of fun env st => match env[i]? with
  | some (.xc c [d]) => (match Γ.exs c with
    | some k => if k.field = [f] then .ok d st else .bad
    | none => .bad)
  | _ => .bad
def xisX (k : Xc) (c : Nat) : Ty → Option Bool
  | .exc j => some (decide (j = c) || decide (j = k.own))
  | .value => some (decide (k.base = 0))
  | .lookup => some (decide (k.base = 1))
  | .arith => some (decide (k.base = 2))
  | _ => none
def xisV (Γ : Ctx) (c : Nat) (τ : Ty) : Option Bool := (Γ.exs c).bind fun k => xisX k c τ
def xisE (Γ : Ctx) (i : Nat) (τ : Ty) : Sem := .of fun env st => match env[i]? with
  | some (.xc c _) => .of ((xisV Γ c τ).map .bl) st
  | _ => .bad
def xcallE (call : Fd) (i : Nat) (es : List Sem) : Sem := .of fun env st => match env[i]? with
  | some (.xc c fs) => (args es env st).bind fun ds st => call (.exc (c + 1) fs :: ds) st
  | _ => .bad
/-- a def that an exception is passed to, first -/
def runH (np ns : Nat) (s : StS) : Fd := fun ds st => match ds with
  | .exc (c + 1) fs :: ds => if ds.length + 1 = np then (match s (.xc c fs :: (ds.map Sl.v ++ List.replicate (ns - (ds.length + 1)) .em)) st with
    | .rt d st => .ok d st
    | .nx _ st => .ok .non st
    | _ => .bad) else .bad
  | _ => .bad
def eqOV (Γ : Ctx) (c : Nat) (neg : Bool) (x y : D) (st : Store) : O D := match objv st x with
  | some (b, _) => if b = c then (match (Γ.cls c).bind fun k => k.meths.lookup n_eq with
    | some f => if isiV Γ st y (.own c) = some false ∨ (objv st y).map (·.1) = some c then (Γ.call f [x, y] st).hush.bind fun r st => (match r with
        | .bl b => .ok (.bl (b != neg)) st
        | _ => .bad) else .bad
    | none => .bad) else .bad
  | none => .bad
def eqOE (Γ : Ctx) (c : Nat) (neg : Bool) (s t : Sem) : Sem := .of (two s t (eqOV Γ c neg))
def newO (d : D) (st : Store) : O D := match d with
  | .lst xs => newV xs st
  | _ => .bad
def nwE (s : Sem) : Sem := Sem.of fun env st => (s.val env st).bind newO
def runF (np ns : Nat) (s : StS) : Fd := fun ds st => if ds.length = np then (match s (ds.map Sl.v ++ List.replicate (ns - ds.length) .em) st with
    | .rt d st => .ok d st
    | .nx _ st => .ok .non st
    | .ex _ c fs st => .ex c fs st
    | _ => .bad) else .bad
end G
namespace G
/-- a dict's key -/
def keyL : D → Option (List D)
  | .tup xs => if xs.all keyOk = true then some xs else none
  | _ => none
def putK (ks : List (List D)) (k : List D) : List (List D) := if (ks.any fun z => pyEqs z k) = true then ks else ks ++ [k]
/-- {} -/
def dicE : Sem := .of fun _ st => .ok (.loc st.length) (st ++ [.dic false []])
/-- k in d -/
def dhasV (neg : Bool) (x y : D) (st : Store) : O D := match keyL x, y with
  | some k, .loc l => (match st[l]? with
    | some (.dic _ ks) => .ok (.bl ((ks.any fun z => pyEqs z k) != neg)) st
    | _ => .bad)
  | _, _ => .bad
/-- what is a key -/
def keyV (a : Sem) : Env → Store → O D := fun env st => (a.val env st).bind fun d st => if (keyL d).isSome = true then .ok d st else .bad
def dhasE (neg : Bool) (a b : Sem) : Sem := .of fun env st => (keyV a env st).bind fun x st => (b.val env st).bind fun y st => dhasV neg x y st
/-- d[k] = True -/
def dputV (x k : D) (env : Env) (st : Store) : R := match keyL k, x with
  | some k, .loc l => (match st[l]? with
    | some (.dic false ks) => if ks.length < LIM then .nx env (st.set l (.dic false (putK ks k))) else .bad
    | _ => .bad)
  | _, _ => .bad
def dputS (a b : Sem) : StS := fun env st => (a.val env st).run env fun x st => (keyV b env st).run env fun k st => dputV x k env st
end G
namespace G
open PySem PySem.Spec PyProof.Rows
open L2 (V Hp HO upd SqL SqT Rd)
/-- where the classes stand, what the names are called -/
structure Tb where
  K : PySem.W.Frag
  cls : Nat → Addr
  exc : Nat → Addr
  nm : Nm → PySem.Str
  flds : Nat → List Nm
  tabs : List (Addr × PySem.Str)
  /-- the exception that is handled: where, its dict, its class, its attributes -/
  hx : Option (Addr × Option Addr × Nat × List Nm)
/-- a code object's table, at P: what it tells bears the name q -/
def TabG (H : Hp) (ρ : List Addr) (P : Addr) (q : PySem.Str) : Prop := ∃ ps : Array Value, H P = some (.tbl ps) ∧ TriplesOk ps.toList ∧ ∀ (pos : Pos) (cv : Value), codeAmong pos ps.toList = some cv → ∃ c, cv = .ref c ∧ H c = some (LamX.CodeO c q) ∧ c ∉ ρ
/-- a list of another's: the script -/
def StL (K : PySem.W.Frag) (H : Hp) (ρ : List Addr) (a : Addr) (vs : List V) : Prop := ((∃ o, H a = some (.frz o (.lst vs))) ∧ a ∉ ρ) ∨ ∀ H' : Hp, SqL K H' a vs
/-- a tuple: its object is known, without a dict of its own -/
def StT (K : PySem.W.Frag) (H : Hp) (ρ : List Addr) (a : Addr) (vs : List V) : Prop := ((∃ o : PySem.Obj, H a = some (.frz o (.tup vs)) ∧ o.dict = none) ∧ a ∉ ρ) ∨
  ∃ (o : PySem.Obj) (its : Array Value) (n : Nat), K.lookup a = some o ∧ o.dict = none ∧ o.cls = .type "tuple" ∧ o.data = .seq its n ∧ its.size ≤ sizeLine ∧ L2.Vals vs its.toList
theorem StL.sq {K : PySem.W.Frag} {H : Hp} {ρ : List Addr} {a : Addr} {vs : List V} (h : StL K H ρ a vs) : SqL K H a vs := h.elim (fun x => .inl (.inr x.1)) fun x => x H
theorem StT.sq {K : PySem.W.Frag} {H : Hp} {ρ : List Addr} {a : Addr} {vs : List V} (h : StT K H ρ a vs) : SqT K H a vs := by
  rcases h with ⟨⟨o, h, _⟩, _⟩ | ⟨o, its, n, h1, _, h3, h4, h5, h6⟩
  · exact .inl (.inr ⟨o, h⟩)
  · exact .inr ⟨o, its, n, h1, h3, h4, h5, h6⟩
/-- a dict's key -/
def keyD : L2.Key → D
  | .inl i => .int i
  | .inr x => .str x.cps.toList
mutual
/-- v stands for the data d: nothing in it is changed while neither the places ρ of the store nor those of Ow are -/
inductive RV (T : Tb) (H : Hp) (ρ Ow : List Addr) : V → D → Prop
  | non : RV T H ρ Ow .non .non
  | bl (b : Bool) : RV T H ρ Ow (.bl b) (.bl b)
  | int (i : Int) : RV T H ρ Ow (.int i) (.int i)
  | str (s : List Nat) (h : s.length ≤ LIM) (c : s.all okCode = true) : RV T H ρ Ow (.str ⟨s.toArray⟩) (.str s)
  | tup {a : Addr} {vs : List V} {ds : List D} (q : StT T.K H ρ a vs) (z : vs.length ≤ LIM) (r : RVs T H ρ Ow vs ds) : RV T H ρ Ow (.ref a) (.tup ds)
  | lst {a : Addr} {vs : List V} {ds : List D} (q : H a = some (.lst vs)) (n1 : a ∉ ρ) (n2 : a ∉ Ow) (z : vs.length ≤ LIM) (r : RVs T H ρ Ow vs ds) : RV T H ρ Ow (.ref a) (.lst ds)
  | fl {a : Addr} {vs : List V} {ds : List D} (q : StL T.K H ρ a vs) (z : vs.length ≤ LIM) (r : RVs T H ρ Ow vs ds) : RV T H ρ Ow (.ref a) (.fl ds)
  | loc {a : Addr} {l : Nat} (h : ρ[l + T.tabs.length]? = some a) : RV T H ρ Ow (.ref a) (.loc l)
  | obj {a dx : Addr} {c : Nat} {vs : List V} {ds : List D} (q : H a = some (.ins (T.cls c) dx (((T.flds c).map T.nm).zip vs))) (n1 : a ∉ ρ) (n2 : a ∉ Ow) (z : vs.length = (T.flds c).length) (r : RVs T H ρ Ow vs ds) : RV T H ρ Ow (.ref a) (.obj c ds)
  | dct {a : Addr} {kvs : List (L2.Key × V)} {ks vs : List D} (q : H a = some (.dK kvs)) (n1 : a ∉ ρ) (n2 : a ∉ Ow) (hk : ks = kvs.map fun p => keyD p.1) (r : RVs T H ρ Ow (kvs.map (·.2)) vs) : RV T H ρ Ow (.ref a) (.dct ks vs)
  | cls (c : Nat) : RV T H ρ Ow (.ref (T.cls c)) (.cls c)
  | raw {a : Addr} {vs : List V} {ds : List D} (q : Rd H a (.tup vs)) (n : a ∉ ρ) (z : vs.length ≤ LIM) (r : RVs T H ρ Ow vs ds) : RV T H ρ Ow (.ref a) (.exc 0 ds)
inductive RVs (T : Tb) (H : Hp) (ρ Ow : List Addr) : List V → List D → Prop
  | nil : RVs T H ρ Ow [] []
  | cons {v : V} {vs : List V} {d : D} {ds : List D} (r : RV T H ρ Ow v d) (rs : RVs T H ρ Ow vs ds) : RVs T H ρ Ow (v :: vs) (d :: ds)
end
/-- from one heap to a later one: what stands outside the store is kept -/
structure Ext (H : Hp) (ρ : List Addr) (H' : Hp) (ρ' : List Addr) : Prop where
  keep : ∀ a o, H a = some o → a ∉ ρ → H' a = some o ∧ a ∉ ρ'
  pre : ∃ more, ρ' = ρ ++ more
  frz : ∀ a o u, H a = some (.frz o u) → H' a = some (.frz o u)
theorem Ext.refl (H : Hp) (ρ : List Addr) : Ext H ρ H ρ := ⟨fun _ _ h n => ⟨h, n⟩, ⟨[], by simp⟩, fun _ _ _ h => h⟩
theorem Ext.trans {H H1 H2 : Hp} {ρ ρ1 ρ2 : List Addr} (a : Ext H ρ H1 ρ1) (b : Ext H1 ρ1 H2 ρ2) : Ext H ρ H2 ρ2 := by
  refine ⟨fun c o h n => ?_, ?_, fun c o u h => b.frz c o u (a.frz c o u h)⟩
  · obtain ⟨h1, n1⟩ := a.keep c o h n
    exact b.keep c o h1 n1
  · obtain ⟨m1, rfl⟩ := a.pre
    obtain ⟨m2, rfl⟩ := b.pre
    exact ⟨m1 ++ m2, by simp⟩
/-- a new object -/
theorem Ext.new {H : Hp} {ρ : List Addr} {p : Addr} {o : HO} (hp : H p = none) : Ext H ρ (upd H p o) ρ :=
  ⟨fun a u h n => ⟨by rw [L2.upd_ne (L2.ne_of_none h hp)]; exact h, n⟩, ⟨[], by simp⟩, fun a ob u h => by rw [L2.upd_ne (L2.ne_of_none h hp)]; exact h⟩
theorem Ext.newS {H : Hp} {ρ : List Addr} {p : Addr} {o : HO} (hp : H p = none) : Ext H ρ (upd H p o) (ρ ++ [p]) :=
  ⟨fun a u h n => ⟨by rw [L2.upd_ne (L2.ne_of_none h hp)]; exact h, by
    intro hm
    rcases List.mem_append.mp hm with hm | hm
    · exact n hm
    · rw [List.mem_singleton.mp hm, hp] at h; cases h⟩, ⟨[p], rfl⟩, fun a ob u h => by rw [L2.upd_ne (L2.ne_of_none h hp)]; exact h⟩
/-- an object of the store is changed -/
theorem Ext.set {H : Hp} {ρ : List Addr} {a : Addr} {o : HO} (ha : a ∈ ρ) (hf : ∀ ob u, H a ≠ some (.frz ob u)) : Ext H ρ (upd H a o) ρ :=
  ⟨fun b u h n => ⟨by rw [L2.upd_ne (fun e => n (by rw [e]; exact ha))]; exact h, n⟩, ⟨[], by simp⟩, fun b ob u h => by rw [L2.upd_ne (fun e => hf ob u (by rw [← e]; exact h))]; exact h⟩
section
variable {T : Tb} {H H' : Hp} {ρ ρ' Ow Ow' : List Addr}
theorem Rd.ext (e : Ext H ρ H' ρ') {a : Addr} {u : HO} (q : Rd H a u) (n : a ∉ ρ) : Rd H' a u ∧ a ∉ ρ' := by
  rcases q with q | ⟨o, q⟩
  · exact ⟨.inl (e.keep _ _ q n).1, (e.keep _ _ q n).2⟩
  · exact ⟨.inr ⟨o, (e.keep _ _ q n).1⟩, (e.keep _ _ q n).2⟩
theorem StL.ext {K : PySem.W.Frag} (e : Ext H ρ H' ρ') {a : Addr} {vs : List V} (q : StL K H ρ a vs) : StL K H' ρ' a vs := by
  rcases q with ⟨⟨o, q⟩, n⟩ | q
  · obtain ⟨q', n'⟩ := e.keep _ _ q n
    exact .inl ⟨⟨o, q'⟩, n'⟩
  · exact .inr q
theorem StT.ext {K : PySem.W.Frag} (e : Ext H ρ H' ρ') {a : Addr} {vs : List V} (q : StT K H ρ a vs) : StT K H' ρ' a vs := by
  rcases q with ⟨⟨o, q, hd⟩, n⟩ | q
  · exact .inl ⟨⟨o, (e.keep _ _ q n).1, hd⟩, (e.keep _ _ q n).2⟩
  · exact .inr q
mutual
theorem RV.ext (e : Ext H ρ H' ρ') : ∀ {d : D} {v : V}, RV T H ρ Ow v d → RV T H' ρ' Ow v d
  | _, _, .non => .non
  | _, _, .bl b => .bl b
  | _, _, .int i => .int i
  | _, _, .str s h c => .str s h c
  | _, _, .tup q z r => .tup (q.ext e) z (RVs.ext e r)
  | _, _, .lst q n1 n2 z r => .lst (e.keep _ _ q n1).1 (e.keep _ _ q n1).2 n2 z (RVs.ext e r)
  | _, _, .fl q z r => .fl (q.ext e) z (RVs.ext e r)
  | _, _, .loc h => .loc (by
      obtain ⟨m, rfl⟩ := e.pre
      rw [List.getElem?_append_left (List.getElem?_eq_some_iff.mp h).1]; exact h)
  | _, _, .obj q n1 n2 z r => .obj (e.keep _ _ q n1).1 (e.keep _ _ q n1).2 n2 z (RVs.ext e r)
  | _, _, .dct q n1 n2 hk r => .dct (e.keep _ _ q n1).1 (e.keep _ _ q n1).2 n2 hk (RVs.ext e r)
  | _, _, .cls c => .cls c
  | _, _, .raw q n z r => .raw (Rd.ext e q n).1 (Rd.ext e q n).2 z (RVs.ext e r)
theorem RVs.ext (e : Ext H ρ H' ρ') : ∀ {ds : List D} {vs : List V}, RVs T H ρ Ow vs ds → RVs T H' ρ' Ow vs ds
  | _, _, .nil => .nil
  | _, _, .cons r rs => .cons (RV.ext e r) (RVs.ext e rs)
end
mutual
/-- fewer, or other, places of slots: none of them is in it -/
theorem RV.ow (h : ∀ a, H a ≠ none → a ∉ ρ → a ∉ Ow → a ∉ Ow') : ∀ {d : D} {v : V}, RV T H ρ Ow v d → RV T H ρ Ow' v d
  | _, _, .non => .non
  | _, _, .bl b => .bl b
  | _, _, .int i => .int i
  | _, _, .str s h c => .str s h c
  | _, _, .tup q z r => .tup q z (RVs.ow h r)
  | _, _, .lst q n1 n2 z r => .lst q n1 (h _ (by rw [q]; simp) n1 n2) z (RVs.ow h r)
  | _, _, .fl q z r => .fl q z (RVs.ow h r)
  | _, _, .loc q => .loc q
  | _, _, .obj q n1 n2 z r => .obj q n1 (h _ (by rw [q]; simp) n1 n2) z (RVs.ow h r)
  | _, _, .dct q n1 n2 hk r => .dct q n1 (h _ (by rw [q]; simp) n1 n2) hk (RVs.ow h r)
  | _, _, .cls c => .cls c
  | _, _, .raw q n z r => .raw q n z (RVs.ow h r)
theorem RVs.ow (h : ∀ a, H a ≠ none → a ∉ ρ → a ∉ Ow → a ∉ Ow') : ∀ {ds : List D} {vs : List V}, RVs T H ρ Ow vs ds → RVs T H ρ Ow' vs ds
  | _, _, .nil => .nil
  | _, _, .cons r rs => .cons (RV.ow h r) (RVs.ow h rs)
end
/-- a place that is new is in nothing -/
theorem RV.new {d : D} {v : V} {p : Addr} (hp : H p = none) (r : RV T H ρ Ow v d) : RV T H ρ (p :: Ow) v d := r.ow fun a h _ n hm => by
  rcases List.mem_cons.mp hm with e | hm
  · rw [e] at h; exact h hp
  · exact n hm
theorem RVs.new {d : List D} {v : List V} {p : Addr} (hp : H p = none) (r : RVs T H ρ Ow v d) : RVs T H ρ (p :: Ow) v d := r.ow fun a h _ n hm => by
  rcases List.mem_cons.mp hm with e | hm
  · rw [e] at h; exact h hp
  · exact n hm
theorem RVs.length : ∀ {ds : List D} {vs : List V}, RVs T H ρ Ow vs ds → vs.length = ds.length
  | _, _, .nil => rfl
  | _, _, .cons _ rs => by simp [RVs.length rs]
theorem RVs.get : ∀ {ds : List D} {vs : List V} {i : Nat} {d : D}, RVs T H ρ Ow vs ds → ds[i]? = some d → ∃ v, vs[i]? = some v ∧ RV T H ρ Ow v d
  | _, _, 0, _, .cons r _, e => by simp at e; subst e; exact ⟨_, rfl, r⟩
  | _, _, i + 1, _, .cons _ rs, e => by
    obtain ⟨v, h, r⟩ := RVs.get (i := i) rs (by simpa using e)
    exact ⟨v, by simpa using h, r⟩
theorem RVs.append : ∀ {ds es : List D} {vs us : List V}, RVs T H ρ Ow vs ds → RVs T H ρ Ow us es → RVs T H ρ Ow (vs ++ us) (ds ++ es)
  | _, _, _, _, .nil, s => s
  | _, _, _, _, .cons r rs, s => .cons r (RVs.append rs s)
theorem RVs.set {v : V} {d : D} (r : RV T H ρ Ow v d) : ∀ {ds : List D} {vs : List V} (i : Nat), RVs T H ρ Ow vs ds → RVs T H ρ Ow (vs.set i v) (ds.set i d)
  | _, _, _, .nil => .nil
  | _, _, 0, .cons _ rs => .cons r rs
  | _, _, i + 1, .cons q rs => .cons q (RVs.set r i rs)
theorem RVs.take : ∀ {ds : List D} {vs : List V} (i : Nat), RVs T H ρ Ow vs ds → RVs T H ρ Ow (vs.take i) (ds.take i)
  | _, _, 0, _ => by simp only [List.take_zero]; exact .nil
  | _, _, _ + 1, .nil => .nil
  | _, _, i + 1, .cons q rs => .cons q (RVs.take i rs)
theorem RVs.drop : ∀ {ds : List D} {vs : List V} (i : Nat), RVs T H ρ Ow vs ds → RVs T H ρ Ow (vs.drop i) (ds.drop i)
  | _, _, 0, r => r
  | _, _, _ + 1, .nil => .nil
  | _, _, i + 1, .cons _ rs => RVs.drop i rs
theorem RVs.reverse {ds : List D} {vs : List V} (h : RVs T H ρ Ow vs ds) : RVs T H ρ Ow vs.reverse ds.reverse := by
  induction ds generalizing vs with
  | nil => cases h; exact .nil
  | cons d ds ih =>
    cases h with
    | cons r rs =>
      rw [List.reverse_cons, List.reverse_cons]
      exact (ih rs).append (.cons r .nil)
end
/-- from one heap to a later one, where slots hold lists of their own -/
structure Keeps (H : Hp) (ρ Ow : List Addr) (H' : Hp) (ρ' Ow' : List Addr) : Prop where
  keep : ∀ a o, H a = some o → a ∉ ρ → a ∉ Ow → H' a = some o ∧ a ∉ ρ' ∧ a ∉ Ow'
  pre : ∃ more, ρ' = ρ ++ more
  frz : ∀ a o u, H a = some (.frz o u) → H' a = some (.frz o u)
section
variable {T : Tb} {H H' H1 H2 : Hp} {ρ ρ' ρ1 ρ2 Ow Ow' Ow1 Ow2 : List Addr}
theorem Keeps.refl (H : Hp) (ρ Ow : List Addr) : Keeps H ρ Ow H ρ Ow := ⟨fun _ _ h n m => ⟨h, n, m⟩, ⟨[], by simp⟩, fun _ _ _ h => h⟩
theorem Keeps.trans (a : Keeps H ρ Ow H1 ρ1 Ow1) (b : Keeps H1 ρ1 Ow1 H2 ρ2 Ow2) : Keeps H ρ Ow H2 ρ2 Ow2 := by
  refine ⟨fun c o h n m => ?_, ?_, fun c o u h => b.frz c o u (a.frz c o u h)⟩
  · obtain ⟨h1, n1, m1⟩ := a.keep c o h n m
    exact b.keep c o h1 n1 m1
  · obtain ⟨m1, rfl⟩ := a.pre
    obtain ⟨m2, rfl⟩ := b.pre
    exact ⟨m1 ++ m2, by simp⟩
theorem Ext.keeps (e : Ext H ρ H' ρ') (Ow : List Addr) : Keeps H ρ Ow H' ρ' Ow := ⟨fun a o h n m => ⟨(e.keep a o h n).1, (e.keep a o h n).2, m⟩, e.pre, e.frz⟩
theorem Rd.keeps (e : Keeps H ρ Ow H' ρ' Ow') {a : Addr} {u : HO} (q : Rd H a u) (n : a ∉ ρ) (m : a ∉ Ow) : Rd H' a u ∧ a ∉ ρ' ∧ a ∉ Ow' := by
  rcases q with q | ⟨o, q⟩
  · exact ⟨.inl (e.keep _ _ q n m).1, (e.keep _ _ q n m).2⟩
  · exact ⟨.inr ⟨o, (e.keep _ _ q n m).1⟩, (e.keep _ _ q n m).2⟩
theorem Rd.notList (hl : ∀ a ∈ Ow, ∃ vs, H a = some (.lst vs)) {a : Addr} {vs : List V} (q : Rd H a (.tup vs)) : a ∉ Ow := fun h => by
  obtain ⟨us, z⟩ := hl a h
  rcases q with q | ⟨o, q⟩ <;> rw [z] at q <;> cases q
mutual
theorem RV.keeps (e : Keeps H ρ Ow H' ρ' Ow') (hl : ∀ a ∈ Ow, ∃ vs, H a = some (.lst vs)) : ∀ {d : D} {v : V}, RV T H ρ Ow v d → RV T H' ρ' Ow' v d
  | _, _, .non => .non
  | _, _, .bl b => .bl b
  | _, _, .int i => .int i
  | _, _, .str s h c => .str s h c
  | _, _, .tup q z r => .tup (by
      rcases q with ⟨⟨o, q, hd⟩, n⟩ | q
      · obtain ⟨q1, q2, _⟩ := e.keep _ _ q n (Rd.notList hl (.inr ⟨o, q⟩))
        exact .inl ⟨⟨o, q1, hd⟩, q2⟩
      · exact .inr q) z (RVs.keeps e hl r)
  | _, _, .lst q n1 n2 z r => .lst (e.keep _ _ q n1 n2).1 (e.keep _ _ q n1 n2).2.1 (e.keep _ _ q n1 n2).2.2 z (RVs.keeps e hl r)
  | _, _, .fl q z r => .fl (by
      rcases q with ⟨⟨o, q⟩, n⟩ | q
      · have m : _ ∉ Ow := fun hm => by
          obtain ⟨us, z⟩ := hl _ hm
          rw [q] at z; cases z
        exact .inl ⟨⟨o, (e.keep _ _ q n m).1⟩, (e.keep _ _ q n m).2.1⟩
      · exact .inr q) z (RVs.keeps e hl r)
  | _, _, .loc h => .loc (by
      obtain ⟨m, rfl⟩ := e.pre
      rw [List.getElem?_append_left (List.getElem?_eq_some_iff.mp h).1]; exact h)
  | _, _, .obj q n1 n2 z r => .obj (e.keep _ _ q n1 n2).1 (e.keep _ _ q n1 n2).2.1 (e.keep _ _ q n1 n2).2.2 z (RVs.keeps e hl r)
  | _, _, .dct q n1 n2 hk r => .dct (e.keep _ _ q n1 n2).1 (e.keep _ _ q n1 n2).2.1 (e.keep _ _ q n1 n2).2.2 hk (RVs.keeps e hl r)
  | _, _, .cls c => .cls c
  | _, _, .raw q n z r => by
    obtain ⟨q1, q2, _⟩ := Rd.keeps e q n (Rd.notList hl q)
    exact .raw q1 q2 z (RVs.keeps e hl r)
theorem RVs.keeps (e : Keeps H ρ Ow H' ρ' Ow') (hl : ∀ a ∈ Ow, ∃ vs, H a = some (.lst vs)) : ∀ {ds : List D} {vs : List V}, RVs T H ρ Ow vs ds → RVs T H' ρ' Ow' vs ds
  | _, _, .nil => .nil
  | _, _, .cons r rs => .cons (RV.keeps e hl r) (RVs.keeps e hl rs)
end
end
/-- what a dict of tuples holds -/
def dicKV (kk : List (List L2.Key)) : List (List L2.Key × V) := kk.map fun k => (k, .bl true)
def dicD (kk : List (List L2.Key)) : List (List D) := kk.map fun k => k.map keyD
def dicO (H : Hp) (a : Addr) (z : Bool) (kk : List (List L2.Key)) : Prop := match z with
  | false => H a = some (.dT (dicKV kk))
  | true => ∃ o, H a = some (.frz o (.dT (dicKV kk)))
/-- an object of the store, l-th, stands at a -/
def ObR (T : Tb) (H : Hp) (ρ Ow : List Addr) (l : Nat) (a : Addr) : Obj → Prop
  | .lst ds => ltLocs l ds = true ∧ ∃ vs, H a = some (.lst vs) ∧ vs.length ≤ LIM ∧ RVs T H ρ Ow vs ds
  | .ins c fs => ltLocs l (fs.map (·.2)) = true ∧ ∃ dx vs, H a = some (.ins (T.cls c) dx ((fs.map fun p => T.nm p.1).zip vs)) ∧ vs.length = fs.length ∧ fs.length ≤ 100 ∧ RVs T H ρ Ow vs (fs.map (·.2))
  | .dic z ks => ∃ kk : List (List L2.Key), ks = dicD kk ∧ ks.length ≤ LIM ∧ dicO H a z kk
theorem dicO.at {H H' : Hp} {a : Addr} {z : Bool} {kk : List (List L2.Key)} (k : H' a = H a) (h : dicO H a z kk) : dicO H' a z kk := by
  cases z with
  | false => exact k.trans h
  | true => obtain ⟨o, h⟩ := h; exact ⟨o, k.trans h⟩
theorem dicO.ne {H : Hp} {a : Addr} {z : Bool} {kk : List (List L2.Key)} (h : dicO H a z kk) : H a ≠ none := by
  cases z with
  | false => exact fun e => by rw [show H a = _ from h] at e; cases e
  | true => obtain ⟨o, h⟩ := h; rw [h]; simp
structure StR (T : Tb) (H : Hp) (ρ Ow : List Addr) (st : Store) : Prop where
  len : ρ.length = st.length + T.tabs.length
  nd : ρ.Nodup
  apart : ∀ a ∈ ρ, a ∉ Ow
  lists : ∀ a ∈ Ow, ∃ vs, H a = some (.lst vs)
  at_ : ∀ (l : Nat) (a : Addr) (o : Obj), ρ[l + T.tabs.length]? = some a → st[l]? = some o → ObR T H ρ Ow l a o
  tab : ∀ (i : Nat) (p : Addr × PySem.Str), T.tabs[i]? = some p → ρ[i]? = some p.1 ∧ TabG H ρ p.1 p.2
/-- what an exception keeps -/
def XcR (T : Tb) (H : Hp) (ρ Ow : List Addr) (dx : Option Addr) (fl : List Nm) (fs : List D) : Prop := match fl, fs, dx with
  | [], [], none => True
  | [f], [d], some x => ∃ v, H x = some (.xd [(T.nm f, v)]) ∧ x ∉ ρ ∧ x ∉ Ow ∧ RV T H ρ Ow v d
  | _, _, _ => False
/-- a slot -/
def SlR (T : Tb) (H : Hp) (ρ Ow : List Addr) : Option (Option V) → Sl → Prop
  | _, .em => True
  | some (some v), .v d => RV T H ρ Ow v d
  | some (some (.ref a)), .own ds => a ∈ Ow ∧ ∃ vs, H a = some (.lst vs) ∧ vs.length ≤ LIM ∧ RVs T H ρ Ow vs ds
  | some (some (.ref a)), .xc c fs => ∃ dx fl, T.hx = some (a, dx, c, fl) ∧ XcR T H ρ Ow dx fl fs
  | _, _ => False
section
variable {T : Tb} {H H' : Hp} {ρ ρ' Ow Ow' : List Addr} {dx : Option Addr} {fl : List Nm} {fs : List D} {z : Option (Addr × Option Addr × Nat × List Nm)}
theorem XcR.imp {T' : Tb} (hn : T'.nm = T.nm) (h : ∀ x u, H x = some u → (∀ vs, u ≠ .lst vs) → x ∉ ρ → x ∉ Ow → H' x = some u ∧ x ∉ ρ' ∧ x ∉ Ow') (hr : ∀ v d, RV T H ρ Ow v d → RV T' H' ρ' Ow' v d) (q : XcR T H ρ Ow dx fl fs) : XcR T' H' ρ' Ow' dx fl fs := by
  unfold XcR at q ⊢
  split at q
  · trivial
  · obtain ⟨v, h1, h2, h3, r⟩ := q
    obtain ⟨g1, g2, g3⟩ := h _ _ h1 (fun vs e => by cases e) h2 h3
    exact ⟨v, by rw [hn]; exact g1, g2, g3, hr _ _ r⟩
  · exact q.elim
theorem XcR.ext (e : Ext H ρ H' ρ') (q : XcR T H ρ Ow dx fl fs) : XcR T H' ρ' Ow dx fl fs := q.imp rfl (fun x u h _ n1 n2 => ⟨(e.keep _ _ h n1).1, (e.keep _ _ h n1).2, n2⟩) fun _ _ r => r.ext e
theorem XcR.ow (h : ∀ a, H a ≠ none → a ∉ ρ → a ∉ Ow → a ∉ Ow') (q : XcR T H ρ Ow dx fl fs) : XcR T H ρ Ow' dx fl fs := q.imp rfl (fun x u e _ n1 n2 => ⟨e, n1, h _ (by rw [e]; simp) n1 n2⟩) fun _ _ r => r.ow h
theorem XcR.keeps (e : Keeps H ρ Ow H' ρ' Ow') (hl : ∀ a ∈ Ow, ∃ vs, H a = some (.lst vs)) (q : XcR T H ρ Ow dx fl fs) : XcR T H' ρ' Ow' dx fl fs := q.imp rfl (fun x u h _ n1 n2 => e.keep _ _ h n1 n2) fun _ _ r => r.keeps e hl
mutual
/-- another exception is handled -/
theorem RV.hx : ∀ {d : D} {v : V}, RV T H ρ Ow v d → RV { T with hx := z } H ρ Ow v d
  | _, _, .non => .non
  | _, _, .bl b => .bl b
  | _, _, .int i => .int i
  | _, _, .str s h c => .str s h c
  | _, _, .tup q z r => .tup q z (RVs.hx r)
  | _, _, .lst q n1 n2 z r => .lst q n1 n2 z (RVs.hx r)
  | _, _, .fl q z r => .fl q z (RVs.hx r)
  | _, _, .loc h => .loc (T := { T with hx := _ }) h
  | _, _, .obj q n1 n2 z r => .obj (T := { T with hx := _ }) q n1 n2 z (RVs.hx r)
  | _, _, .dct q n1 n2 hk r => .dct q n1 n2 hk (RVs.hx r)
  | _, _, .cls c => .cls (T := { T with hx := _ }) c
  | _, _, .raw q n z r => .raw q n z (RVs.hx r)
theorem RVs.hx : ∀ {ds : List D} {vs : List V}, RVs T H ρ Ow vs ds → RVs { T with hx := z } H ρ Ow vs ds
  | _, _, .nil => .nil
  | _, _, .cons r rs => .cons (RV.hx r) (RVs.hx rs)
end
theorem RV.unhx {d : D} {v : V} (r : RV { T with hx := z } H ρ Ow v d) : RV T H ρ Ow v d := RV.hx (T := { T with hx := z }) (z := T.hx) r
theorem RVs.unhx {d : List D} {v : List V} (r : RVs { T with hx := z } H ρ Ow v d) : RVs T H ρ Ow v d := RVs.hx (T := { T with hx := z }) (z := T.hx) r
theorem XcR.hx (q : XcR T H ρ Ow dx fl fs) : XcR { T with hx := z } H ρ Ow dx fl fs := XcR.imp (T := T) (T' := { T with hx := z }) rfl (fun x u h _ n1 n2 => ⟨h, n1, n2⟩) (fun _ _ r => r.hx) q
theorem StR.hx {st : Store} (s : StR T H ρ Ow st) : StR { T with hx := z } H ρ Ow st :=
  ⟨s.len, s.nd, s.apart, s.lists, fun l a o h1 h2 => by
    have q := s.at_ l a o h1 h2
    cases o with
    | lst ds =>
      obtain ⟨p, vs, h, z, r⟩ := q
      exact ⟨p, vs, h, z, r.hx⟩
    | ins c fs =>
      obtain ⟨p, dx, vs, h, z, z2, r⟩ := q
      exact ⟨p, dx, vs, h, z, z2, r.hx⟩
    | dic z ks => exact q, s.tab⟩
theorem StR.unhx {st : Store} (s : StR { T with hx := z } H ρ Ow st) : StR T H ρ Ow st := StR.hx (T := { T with hx := z }) (z := T.hx) s
end
structure EnR (T : Tb) (H : Hp) (ρ Ow : List Addr) (σ : L2.St) (env : Env) : Prop where
  len : env.length = σ.length
  at_ : ∀ (i : Nat) (s : Sl), env[i]? = some s → SlR T H ρ Ow σ[i]? s
  apart : ∀ (i j : Nat) (xs ys : List D) (a : Addr), env[i]? = some (.own xs) → env[j]? = some (.own ys) → σ[i]? = some (some (.ref a)) → σ[j]? = some (some (.ref a)) → i = j
end G
namespace G
open PySem PySem.Spec PyProof.Rows
open L2 (V Hp HO upd SqL SqT Rd VK TE TT TA TI WX XK Cx PE PT PA PI)
section
variable {T : Tb} {H H' : Hp} {ρ ρ' Ow Ow' : List Addr}
theorem ObR.ext (e : Ext H ρ H' ρ') {l : Nat} {a : Addr} {o : Obj} (k : H' a = H a) (r : ObR T H ρ Ow l a o) : ObR T H' ρ' Ow l a o := by
  cases o with
  | lst ds =>
    obtain ⟨p, vs, h, z, r⟩ := r
    exact ⟨p, vs, by rw [k]; exact h, z, r.ext e⟩
  | ins c fs =>
    obtain ⟨p, dx, vs, h, z, z2, r⟩ := r
    exact ⟨p, dx, vs, by rw [k]; exact h, z, z2, r.ext e⟩
  | dic z ks =>
    obtain ⟨kk, e1, e2, h⟩ := r
    exact ⟨kk, e1, e2, h.at k⟩
theorem TabG.ext {P : Addr} {q : PySem.Str} (e : Ext H ρ H' ρ') (k : H' P = H P) (t : TabG H ρ P q) : TabG H' ρ' P q := by
  obtain ⟨ps, h1, h2, h3⟩ := t
  refine ⟨ps, by rw [k]; exact h1, h2, fun pos cv h => ?_⟩
  obtain ⟨c, e1, e2, e3⟩ := h3 pos cv h
  exact ⟨c, e1, (e.keep c _ e2 e3).1, (e.keep c _ e2 e3).2⟩
theorem codeO_list {c : Addr} {q : PySem.Str} {vs : List V} : some (LamX.CodeO c q) ≠ some (HO.lst vs) := fun z => by
  unfold LamX.CodeO at z
  cases z
theorem TabG.keeps {P : Addr} {q : PySem.Str} (e : Keeps H ρ Ow H' ρ' Ow') (hl : ∀ a ∈ Ow, ∃ vs, H a = some (.lst vs)) (k : H' P = H P) (t : TabG H ρ P q) : TabG H' ρ' P q := by
  obtain ⟨ps, h1, h2, h3⟩ := t
  refine ⟨ps, by rw [k]; exact h1, h2, fun pos cv h => ?_⟩
  obtain ⟨c, e1, e2, e3⟩ := h3 pos cv h
  have n : c ∉ Ow := fun hm => by
    obtain ⟨vs, z⟩ := hl c hm
    rw [e2] at z
    exact codeO_list z
  exact ⟨c, e1, (e.keep c _ e2 e3 n).1, (e.keep c _ e2 e3 n).2.1⟩
theorem TabG.there {P : Addr} {q : PySem.Str} (t : TabG H ρ P q) : H P ≠ none := by
  obtain ⟨ps, h1, _⟩ := t
  rw [h1]; simp
theorem TabG.notList {P : Addr} {q : PySem.Str} (t : TabG H ρ P q) {vs : List V} : H P ≠ some (.lst vs) := by
  obtain ⟨ps, h1, _⟩ := t
  rw [h1]; exact fun z => by cases z
/-- a new object beside the store -/
theorem StR.new {st : Store} {p : Addr} {o : HO} (hp : H p = none) (r : StR T H ρ Ow st) : StR T (upd H p o) ρ Ow st :=
  ⟨r.len, r.nd, r.apart, fun a ha => by
    obtain ⟨vs, q⟩ := r.lists a ha
    exact ⟨vs, by rw [L2.upd_ne (L2.ne_of_none q hp)]; exact q⟩, fun l a ob h1 h2 => (r.at_ l a ob h1 h2).ext (Ext.new hp) (by
    have q := r.at_ l a ob h1 h2
    have hn : H a ≠ none := by
      cases ob with
      | lst ds => obtain ⟨_, vs, h, _⟩ := q; rw [h]; simp
      | ins c fs => obtain ⟨_, dx, vs, h, _⟩ := q; rw [h]; simp
      | dic z ks => obtain ⟨kk, _, _, h⟩ := q; exact h.ne
    exact L2.upd_ne (fun e => hn (by rw [e]; exact hp))), fun i q h => by
    obtain ⟨h1, h2⟩ := r.tab i q h
    exact ⟨h1, h2.ext (Ext.new hp) (L2.upd_ne fun e => h2.there (by rw [e]; exact hp))⟩⟩
theorem StR.there {st : Store} (r : StR T H ρ Ow st) {l : Nat} {a : Addr} (h : ρ[l]? = some a) : ∃ o, H a = some o := by
  have hl0 := (List.getElem?_eq_some_iff.mp h).1
  rw [r.len] at hl0
  by_cases hk : l < T.tabs.length
  · obtain ⟨h1, ps, h2, _⟩ := r.tab l _ (List.getElem?_eq_getElem hk)
    rw [h] at h1
    cases h1
    exact ⟨_, h2⟩
  obtain ⟨l, rfl⟩ : ∃ m, l = m + T.tabs.length := ⟨l - T.tabs.length, by omega⟩
  have hl : l < st.length := by omega
  have q := r.at_ l a _ h (List.getElem?_eq_getElem hl)
  cases e : st[l] with
  | lst ds => rw [e] at q; obtain ⟨_, vs, h, _⟩ := q; exact ⟨_, h⟩
  | ins c fs => rw [e] at q; obtain ⟨_, dx, vs, h, _⟩ := q; exact ⟨_, h⟩
  | dic z ks => rw [e] at q; obtain ⟨kk, _, _, h⟩ := q; exact Option.ne_none_iff_exists'.mp h.ne
theorem StR.mem {st : Store} (r : StR T H ρ Ow st) {a : Addr} (h : a ∈ ρ) : ∃ o, H a = some o := by
  obtain ⟨l, hl⟩ := List.getElem?_of_mem h
  exact r.there hl
/-- places of slots that are none of the store's -/
theorem StR.ow {st : Store} (r : StR T H ρ Ow st) (h : ∀ a, H a ≠ none → a ∉ ρ → a ∉ Ow → a ∉ Ow') (h2 : ∀ a ∈ ρ, a ∉ Ow') (h3 : ∀ a ∈ Ow', ∃ vs, H a = some (.lst vs)) : StR T H ρ Ow' st :=
  ⟨r.len, r.nd, h2, h3, fun l a ob h1 q => by
    have z := r.at_ l a ob h1 q
    cases ob with
    | lst ds => obtain ⟨p, vs, h', z, r⟩ := z; exact ⟨p, vs, h', z, r.ow h⟩
    | ins c fs => obtain ⟨p, dx, vs, h', z, z2, r⟩ := z; exact ⟨p, dx, vs, h', z, z2, r.ow h⟩
    | dic z2 ks => exact z, r.tab⟩
theorem ObR.new {l : Nat} {a p : Addr} {o : Obj} (hp : H p = none) (r : ObR T H ρ Ow l a o) : ObR T H ρ (p :: Ow) l a o := by
  cases o with
  | lst ds =>
    obtain ⟨q, vs, h, z, r⟩ := r
    exact ⟨q, vs, h, z, r.new hp⟩
  | ins c fs =>
    obtain ⟨q, dx, vs, h, z, z2, r⟩ := r
    exact ⟨q, dx, vs, h, z, z2, r.new hp⟩
  | dic z ks => exact r
theorem ObR.there {l : Nat} {a : Addr} {o : Obj} (r : ObR T H ρ Ow l a o) : H a ≠ none := by
  cases o with
  | lst ds => obtain ⟨_, vs, h, _⟩ := r; rw [h]; simp
  | ins c fs => obtain ⟨_, dx, vs, h, _⟩ := r; rw [h]; simp
  | dic z ks => obtain ⟨kk, _, _, h⟩ := r; exact h.ne
/-- a new list that a slot will hold -/
theorem StR.newOw {st : Store} {p : Addr} {vs : List V} (hp : H p = none) (r : StR T H ρ Ow st) : StR T (upd H p (.lst vs)) ρ (p :: Ow) st := by
  refine ⟨r.len, r.nd, fun a ha hm => ?_, fun a hm => ?_, fun l a ob h1 h2 => ?_, (r.new hp).tab⟩
  · rcases List.mem_cons.mp hm with e | hm
    · obtain ⟨o, q⟩ := r.mem ha
      rw [e, hp] at q; cases q
    · exact r.apart a ha hm
  · rcases List.mem_cons.mp hm with e | hm
    · exact ⟨vs, by rw [e, L2.upd_same]⟩
    · exact (r.new hp).lists a hm
  · have q := r.at_ l a ob h1 h2
    exact (q.new hp).ext (Ext.new hp) (L2.upd_ne fun e => q.there (by rw [e]; exact hp))
theorem EnR.ext {σ : L2.St} {env : Env} (e : Ext H ρ H' ρ') (hd : ∀ a ∈ Ow, a ∉ ρ) (r : EnR T H ρ Ow σ env) : EnR T H' ρ' Ow σ env := by
  refine ⟨r.len, fun i s h => ?_, r.apart⟩
  have q := r.at_ i s h
  cases s with
  | em => cases σ[i]? with
    | none => trivial
    | some o => cases o <;> trivial
  | v d =>
    cases hs : σ[i]? with
    | none => rw [hs] at q; exact q.elim
    | some o =>
      rw [hs] at q
      cases o with
      | none => exact q.elim
      | some v =>
        have q' : RV T H ρ Ow v d := q
        exact q'.ext e
  | own ds =>
    cases hs : σ[i]? with
    | none => rw [hs] at q; exact q.elim
    | some o =>
      rw [hs] at q
      cases o with
      | none => exact q.elim
      | some v =>
        cases v with
        | ref a =>
          obtain ⟨m, vs, h1, z, rs⟩ := (q : a ∈ Ow ∧ ∃ vs, H a = some (.lst vs) ∧ vs.length ≤ LIM ∧ RVs T H ρ Ow vs ds)
          exact ⟨m, vs, (e.keep _ _ h1 (hd a m)).1, z, rs.ext e⟩
        | _ => exact q.elim
  | xc c fs =>
    cases hs : σ[i]? with
    | none => rw [hs] at q; exact q.elim
    | some o =>
      rw [hs] at q
      cases o with
      | none => exact q.elim
      | some v =>
        cases v with
        | ref a =>
          obtain ⟨dx, fl, h1, h2⟩ := (q : ∃ dx fl, T.hx = some (a, dx, c, fl) ∧ XcR T H ρ Ow dx fl fs)
          exact ⟨dx, fl, h1, h2.ext e⟩
        | _ => exact q.elim
theorem StR.disj {st : Store} (r : StR T H ρ Ow st) : ∀ a ∈ Ow, a ∉ ρ := fun a h1 h2 => r.apart a h2 h1
theorem EnR.get {σ : L2.St} {env : Env} (r : EnR T H ρ Ow σ env) {i : Nat} {d : D} (h : env.get i = some d) : ∃ v, σ[i]? = some (some v) ∧ RV T H ρ Ow v d := by
  unfold Env.get at h
  cases e : env[i]? with
  | none => rw [e] at h; cases h
  | some s =>
    rw [e] at h
    cases s with
    | v d' =>
      cases h
      have q := r.at_ i _ e
      cases hs : σ[i]? with
      | none => rw [hs] at q; exact q.elim
      | some o =>
        rw [hs] at q
        cases o with
        | none => exact q.elim
        | some v => exact ⟨v, rfl, q⟩
    | em => cases h
    | own xs => cases h
    | xc c fs => cases h
theorem EnR.xc {σ : L2.St} {env : Env} (r : EnR T H ρ Ow σ env) {i : Nat} {c : Nat} {fs : List D} (e : env[i]? = some (.xc c fs)) : ∃ a dx fl, σ[i]? = some (some (.ref a)) ∧ T.hx = some (a, dx, c, fl) ∧ XcR T H ρ Ow dx fl fs := by
  have q := r.at_ i _ e
  cases hs : σ[i]? with
  | none => rw [hs] at q; exact q.elim
  | some o =>
    rw [hs] at q
    cases o with
    | none => exact q.elim
    | some v =>
      cases v with
      | ref a =>
        obtain ⟨dx, fl, h1, h2⟩ := (q : ∃ dx fl, T.hx = some (a, dx, c, fl) ∧ XcR T H ρ Ow dx fl fs)
        exact ⟨a, dx, fl, rfl, h1, h2⟩
      | _ => exact q.elim
theorem EnR.own {σ : L2.St} {env : Env} (r : EnR T H ρ Ow σ env) {i : Nat} {xs : List D} (e : env[i]? = some (.own xs)) : ∃ a vs, σ[i]? = some (some (.ref a)) ∧ a ∈ Ow ∧ H a = some (.lst vs) ∧ vs.length ≤ LIM ∧ RVs T H ρ Ow vs xs := by
  have q := r.at_ i _ e
  cases hs : σ[i]? with
  | none => rw [hs] at q; exact q.elim
  | some o =>
    rw [hs] at q
    cases o with
    | none => exact q.elim
    | some v =>
      cases v with
      | ref a =>
        obtain ⟨m, vs, h1, z, rs⟩ := (q : a ∈ Ow ∧ ∃ vs, H a = some (.lst vs) ∧ vs.length ≤ LIM ∧ RVs T H ρ Ow vs xs)
        exact ⟨a, vs, rfl, m, h1, z, rs⟩
      | _ => exact q.elim
/-- a value in use, not kept: it may be a slot's own list -/
def RW (T : Tb) (H : Hp) (ρ Ow : List Addr) (v : V) (d : D) : Prop := RV T H ρ Ow v d ∨ ∃ a vs ds, v = .ref a ∧ d = .lst ds ∧ H a = some (.lst vs) ∧ a ∉ ρ ∧ vs.length ≤ LIM ∧ RVs T H ρ Ow vs ds
def RX (str : Bool) (T : Tb) (H : Hp) (ρ Ow : List Addr) (v : V) (d : D) : Prop := match str with
  | true => RV T H ρ Ow v d
  | false => RW T H ρ Ow v d
theorem RX.w {str : Bool} {v : V} {d : D} (r : RX str T H ρ Ow v d) : RW T H ρ Ow v d := by
  cases str with
  | true => exact .inl r
  | false => exact r
theorem RV.x {str : Bool} {v : V} {d : D} (r : RV T H ρ Ow v d) : RX str T H ρ Ow v d := by
  cases str with
  | true => exact r
  | false => exact .inl r
theorem RW.ext {v : V} {d : D} (e : Ext H ρ H' ρ') (r : RW T H ρ Ow v d) : RW T H' ρ' Ow v d := by
  rcases r with r | ⟨a, vs, ds, h1, h2, h3, h4, h5, h6⟩
  · exact .inl (r.ext e)
  · exact .inr ⟨a, vs, ds, h1, h2, (e.keep _ _ h3 h4).1, (e.keep _ _ h3 h4).2, h5, h6.ext e⟩
theorem RX.ext {str : Bool} {v : V} {d : D} (e : Ext H ρ H' ρ') (r : RX str T H ρ Ow v d) : RX str T H' ρ' Ow v d := by
  cases str with
  | true => exact RV.ext e r
  | false => exact RW.ext e r
theorem EnR.pk {σ : L2.St} {env : Env} {st : Store} (r : EnR T H ρ Ow σ env) (s : StR T H ρ Ow st) {i : Nat} {d : D} (h : env.pk i = some d) : ∃ v, σ[i]? = some (some v) ∧ RW T H ρ Ow v d := by
  unfold Env.pk at h
  cases e : env[i]? with
  | none => rw [e] at h; cases h
  | some sl =>
    rw [e] at h
    cases sl with
    | v d' =>
      cases h
      obtain ⟨v, h1, h2⟩ := r.get (i := i) (d := d) (by unfold Env.get; rw [e])
      exact ⟨v, h1, .inl h2⟩
    | em => cases h
    | xc c fs => cases h
    | own xs =>
      cases h
      obtain ⟨a, vs, h1, m, h2, z, rs⟩ := r.own e
      exact ⟨.ref a, h1, .inr ⟨a, vs, xs, rfl, rfl, h2, s.disj a m, z, rs⟩⟩
end
/-- the exception's class and dict -/
def ExR (T : Tb) (xf : Nat → List Nm) (H : Hp) (ρ Ow : List Addr) (cls : Value) (dx : Option Addr) (c : Nat) (fs : List D) : Prop :=
  cls = .ref (T.exc c) ∧ match xf c, fs, dx with
    | [], [], none => True
    | [f], [d], some x => ∃ v, H x = some (.xd [(T.nm f, v)]) ∧ x ∉ ρ ∧ x ∉ Ow ∧ RV T H ρ Ow v d
    | _, _, _ => False
structure Wo where
  T : Tb
  xf : Nat → List Nm
  W : WX
  σ : L2.St
def Post {α : Type} (w : Wo) (H : Hp) (ρ Ow : List Addr) (Q : α → Store → Hp → List Addr → Prop) : O α → Prop
  | .ok a st => ∀ H' ρ', Ext H ρ H' ρ' → StR w.T H' ρ' Ow st → Q a st H' ρ'
  | .ex c fs st => ∀ cls dx H' ρ', Ext H ρ H' ρ' → StR w.T H' ρ' Ow st → ExR w.T w.xf H' ρ' Ow cls dx c fs → w.W cls dx w.σ H'
  | .bad => False
section
variable {w : Wo} {H H1 : Hp} {ρ ρ1 Ow : List Addr} {α β : Type}
theorem Post.later {Q : α → Store → Hp → List Addr → Prop} {o : O α} (e : Ext H ρ H1 ρ1) (h : Post w H ρ Ow Q o) : Post w H1 ρ1 Ow Q o := by
  cases o with
  | ok a st => exact fun H' ρ' e' s => h H' ρ' (e.trans e') s
  | ex c fs st => exact fun cls dx H' ρ' e' s => h cls dx H' ρ' (e.trans e') s
  | bad => exact h
theorem Post.bind {Q : β → Store → Hp → List Addr → Prop} {x : O α} {f : α → Store → O β} (h : Post w H ρ Ow Q (x.bind f)) :
    Post w H ρ Ow (fun a st H1 ρ1 => Post w H1 ρ1 Ow Q (f a st)) x := by
  cases x with
  | ok a st => exact fun H' ρ' e s => Post.later e h
  | ex c fs st => exact h
  | bad => exact h
theorem Post.eqn {Q : α → Store → Hp → List Addr → Prop} {o : O α} (h : Post w H ρ Ow Q o) : Post w H ρ Ow (fun a st H' ρ' => o = .ok a st ∧ Q a st H' ρ') o := by
  cases o with
  | ok a st => exact fun H' ρ' e s => ⟨rfl, h H' ρ' e s⟩
  | ex c fs st => exact h
  | bad => exact h
theorem Post.mono {Q Q' : α → Store → Hp → List Addr → Prop} {o : O α} (h : Post w H ρ Ow Q o) (i : ∀ a st H' ρ', Ext H ρ H' ρ' → StR w.T H' ρ' Ow st → Q a st H' ρ' → Q' a st H' ρ') : Post w H ρ Ow Q' o := by
  cases o with
  | ok a st => exact fun H' ρ' e s => i _ _ _ _ e s (h H' ρ' e s)
  | ex c fs st => exact h
  | bad => exact h
/-- an answer of plain data: nothing happened -/
theorem Post.of {Q : α → Store → Hp → List Addr → Prop} {x : Option α} {st : Store} (s : StR w.T H ρ Ow st) (h : Post w H ρ Ow Q (O.of x st)) : ∃ a, x = some a ∧ Q a st H ρ := by
  cases x with
  | none => exact h.elim
  | some a => exact ⟨a, rfl, h H ρ (Ext.refl _ _) s⟩
theorem Post.ok {Q : α → Store → Hp → List Addr → Prop} {a : α} {st : Store} (s : StR w.T H ρ Ow st) (h : Post w H ρ Ow Q (O.ok a st)) : Q a st H ρ := h H ρ (Ext.refl _ _) s
end
/-- what the readings start from -/
def At {α : Type} (T : Tb) (xf : Nat → List Nm) (W : WX) (f : Env → Store → O α) (Q : α → List Addr → List Addr → Hp → Prop) : L2.St → Hp → Prop := fun σ H =>
  ∃ env st ρ Ow, EnR T H ρ Ow σ env ∧ StR T H ρ Ow st ∧ Post ⟨T, xf, W, σ⟩ H ρ Ow (fun a _ H' ρ' => Q a ρ' Ow H') (f env st)
def tVal (T : Tb) (xf : Nat → List Nm) (W : WX) (str : Bool) (f : Env → Store → O D) : TE := fun σ H Q => At T xf W f (fun d ρ Ow H' => ∀ v, RX str T H' ρ Ow v d → Q v H') σ H
def tTst (T : Tb) (xf : Nat → List Nm) (W : WX) (f : Env → Store → O Bool) : TT := fun σ H Q => At T xf W f (fun b _ _ H' => Q b H') σ H
def tArg (T : Tb) (xf : Nat → List Nm) (W : WX) (f : Env → Store → O (List D)) : TA := fun σ H Q => At T xf W f (fun ds ρ Ow H' => ∀ vs, RVs T H' ρ Ow vs ds → Q vs H') σ H
/-- from a walk's start to a turn -/
def Per (str : Bool) (H : Hp) (ρ Ow : List Addr) (H' : Hp) (ρ' Ow' : List Addr) : Prop := match str with
  | true => Keeps H ρ Ow H' ρ' Ow'
  | false => Ext H ρ H' ρ' ∧ ∀ a, H a ≠ none → a ∉ Ow → a ∉ Ow'
theorem Ext.per {H H' : Hp} {ρ ρ' : List Addr} (e : Ext H ρ H' ρ') (str : Bool) (Ow : List Addr) : Per str H ρ Ow H' ρ' Ow := by
  cases str with
  | true => exact e.keeps Ow
  | false => exact ⟨e, fun _ _ h => h⟩
/-- nothing, or a new tuple -/
def New (H H' : Hp) : Prop := H' = H ∨ ∃ p xs, H p = none ∧ H' = upd H p (.tup xs)
theorem New.ext {H H' : Hp} (n : New H H') (ρ : List Addr) : Ext H ρ H' ρ := by
  rcases n with rfl | ⟨p, xs, hp, rfl⟩
  · exact Ext.refl _ _
  · exact Ext.new hp
theorem New.st {T : Tb} {H H' : Hp} {ρ Ow : List Addr} {st : Store} (n : New H H') (s : StR T H ρ Ow st) : StR T H' ρ Ow st := by
  rcases n with rfl | ⟨p, xs, hp, rfl⟩
  · exact s
  · exact s.new hp
/-- what an iteration gives: the items, made when they are met -/
structure Walk (str : Bool) (T : Tb) (J : L2.It) (H0 : Hp) (ρ0 Ow0 : List Addr) (ds : List D) : Prop where
  step : ∀ (i : Nat) (d : D) (H : Hp) (ρ Ow : List Addr) (st : Store), ds[i]? = some d → Per str H0 ρ0 Ow0 H ρ Ow → StR T H ρ Ow st → J.go i H ∧ ∀ x H', J.yld i H x H' → New H H' ∧ RV T H' ρ Ow x d
  stop : ∀ (H : Hp) (ρ Ow : List Addr), Per str H0 ρ0 Ow0 H ρ Ow → J.stop ds.length H
def tIt (T : Tb) (xf : Nat → List Nm) (W : WX) (str : Bool) (f : Env → Store → O (List D)) : TI := fun σ H R => At T xf W f (fun ds ρ Ow H' => ∀ J, Walk str T J H' ρ Ow ds → R J H') σ H
end G
namespace G
open PySem PySem.Spec PyProof.Rows
open L2 (V Hp HO upd SqL SqT Rd VK TE TT TA TI WX XK Cx PE PT PA PI Inv OpR CallR RelV Vals)
/-- a weaker reading -/
theorem PE.imp {X : Cx} {e : Expr} {t t' : TE} (h : PE X e t) (i : ∀ σ H Q, t' σ H Q → t σ H Q) : PE X e t' := ⟨fun pins s σ H Q I q => h.run pins s σ H Q I (i σ H Q q)⟩
theorem PT.imp {X : Cx} {e : Expr} {t t' : TT} (h : PT X e t) (i : ∀ σ H Q, t' σ H Q → t σ H Q) : PT X e t' := ⟨fun pins s σ H Q I q => h.run pins s σ H Q I (i σ H Q q)⟩
theorem PA.imp {X : Cx} {e : List Expr} {t t' : TA} (h : PA X e t) (i : ∀ σ H Q, t' σ H Q → t σ H Q) : PA X e t' := ⟨fun pos pins s σ H Q I q => h.run pos pins s σ H Q I (i σ H Q q)⟩
theorem PI.imp {X : Cx} {tg e : Expr} {t t' : TI} (h : PI X tg e t) (i : ∀ σ H Q, t' σ H Q → t σ H Q) : PI X tg e t' := ⟨fun pins s σ H Q I q => h.run pins s σ H Q I (i σ H Q q)⟩
/-- the context of a body's expressions -/
structure CxG (X : Cx) (T : Tb) (N : List PySem.Str) (sc : Scope) (n : Nat) : Prop where
  eK : X.K = T.K
  eN : X.N = N
  nd : N.Nodup
  eS : X.env.scope = sc
  rm : L2H.RoomH n X.A
  guards : X.A.guards = some []
/-- outside of except suites -/
structure CxC (X : Cx) (T : Tb) (N : List PySem.Str) (sc : Scope) (n : Nat) : Prop extends CxG X T N sc n where
  calm : X.calm = true
  room : L2.Room n X.A
  hx0 : T.hx = none
structure JE (X : Cx) (T : Tb) (xf : Nat → List Nm) (W : WX) (e : Expr) (s : Sem) (str : Bool) : Prop where
  val : PE X e (tVal T xf W str s.val)
  test : PT X e (tTst T xf W s.test)
  items : ∀ tg, PI X tg e (tIt T xf W str s.items)
section
variable {X : Cx} {T : Tb} {xf : Nat → List Nm} {W : WX} {N : List PySem.Str} {sc : Scope} {n : Nat}
theorem lim_line : LIM = sizeLine := by rw [sizeLine_eq, LIM]
theorem RW.ow {H : Hp} {ρ Ow Ow' : List Addr} {v : V} {d : D} (h : ∀ a, H a ≠ none → a ∉ ρ → a ∉ Ow → a ∉ Ow') (r : RW T H ρ Ow v d) : RW T H ρ Ow' v d := by
  rcases r with r | ⟨a, vs, ds, h1, h2, h3, h4, h5, h6⟩
  · exact .inl (r.ow h)
  · exact .inr ⟨a, vs, ds, h1, h2, h3, h4, h5, h6.ow h⟩
theorem truth_ok {H : Hp} {ρ Ow : List Addr} {st : Store} {v : V} {d : D} {b : Bool} (s : StR T H ρ Ow st) (r : RW T H ρ Ow v d) (h : truth st d = some b) : L2.TruV T.K v H b := by
  rcases r with r | ⟨a, vs, ds, rfl, rfl, h1, h2, z, rs⟩
  · cases r with
    | non => cases h; rfl
    | bl k => cases h; rfl
    | int i => cases h; rfl
    | str x hx hc =>
      cases h
      refine ⟨by rw [← lim_line]; simpa [Str.length] using hx, ?_⟩
      cases x <;> simp [Str.length] <;> omega
    | tup q z rs =>
      cases h
      refine .inr (.inl ⟨_, q.sq, ?_⟩)
      cases rs <;> rfl
    | lst q n1 n2 z rs =>
      cases h
      refine .inl ⟨_, .inl (.inl q), ?_⟩
      cases rs <;> rfl
    | fl q z rs =>
      cases h
      refine .inl ⟨_, q.sq, ?_⟩
      cases rs <;> rfl
    | loc q =>
      rename_i a l
      unfold truth seqv at h
      cases e : st[l]? with
      | none => simp [e] at h
      | some o =>
        cases o with
        | ins c fs => simp [e] at h
        | dic z ks => simp [e] at h
        | lst ds =>
          have hb : b = !ds.isEmpty := by
            simp [e] at h
            cases b <;> simp_all
          subst hb
          obtain ⟨_, vs, h1, z, rs⟩ := s.at_ l a _ q e
          refine .inl ⟨vs, .inl (.inl h1), ?_⟩
          cases rs <;> rfl
    | obj q n1 n2 z rs => cases h
    | cls c => cases h
    | dct q n1 n2 hk r => cases h
    | raw q n z rs => cases h
  · cases h
    refine .inl ⟨_, .inl (.inl h1), ?_⟩
    cases rs <;> rfl
theorem test_of {e : Expr} {f : Env → Store → O D} {str : Bool} (C : CxG X T N sc n) (he : ∀ whole, isTrue e X.env whole = (do let v ← whole; standAt e.pos; holding [v] (truthy v))) (h : PE X e (tVal T xf W str f)) :
    PT X e (tTst T xf W (Sem.of f).test) := by
  refine PT.imp (L2.pt_truth h he) fun σ H Q q => ?_
  obtain ⟨env, st, ρ, Ow, en, sr, p⟩ := q
  refine ⟨env, st, ρ, Ow, en, sr, (Post.bind p).mono fun d st1 H1 ρ1 e1 s1 q v r => ?_⟩
  obtain ⟨b, e2, q⟩ := Post.of s1 q
  exact ⟨b, by rw [C.eK]; exact truth_ok s1 r.w e2, q⟩
/-- a list, a tuple -/
theorem walk_lst {str : Bool} {H : Hp} {ρ Ow : List Addr} {st : Store} {a : Addr} {ds : List D} (s : StR T H ρ Ow st) (r : RX str T H ρ Ow (.ref a) (.lst ds)) : Walk str T (L2.Itl T.K a) H ρ Ow ds := by
  have key : ∀ H' ρ' Ow', Per str H ρ Ow H' ρ' Ow' → ∃ vs, SqL T.K H' a vs ∧ RVs T H' ρ' Ow' vs ds := fun H' ρ' Ow' p => by
    cases str with
    | true =>
      have r' : RV T H ρ Ow (.ref a) (.lst ds) := r
      have r2 := r'.keeps p s.lists
      cases r2 with
      | lst q n1 n2 z rs => exact ⟨_, .inl (.inl q), rs⟩
    | false =>
      obtain ⟨e, ho⟩ := p
      rcases RW.ext e (RW.ow (fun a h _ n => ho a h n) r) with r2 | ⟨b, vs, es, e1, e2, h1, h2, z, rs⟩
      · cases r2 with
        | lst q n1 n2 z rs => exact ⟨_, .inl (.inl q), rs⟩
      · cases e1; cases e2
        exact ⟨vs, .inl (.inl h1), rs⟩
  refine ⟨fun i d H' ρ' Ow' st' hd p s' => ?_, fun H' ρ' Ow' p => ?_⟩
  · obtain ⟨vs, q, rs⟩ := key H' ρ' Ow' p
    obtain ⟨v, hv, rv⟩ := rs.get hd
    refine ⟨⟨vs, v, q, hv⟩, fun x H2 y => ?_⟩
    obtain ⟨rfl, y⟩ := y
    have e := y vs q
    rw [hv] at e; cases e
    exact ⟨.inl rfl, rv⟩
  · obtain ⟨vs, q, rs⟩ := key H' ρ' Ow' p
    exact ⟨vs, q, Nat.le_of_eq rs.length⟩
theorem walk_tup {str : Bool} {H : Hp} {ρ Ow : List Addr} {st : Store} {a : Addr} {ds : List D} (s : StR T H ρ Ow st) (r : RX str T H ρ Ow (.ref a) (.tup ds)) : Walk str T (L2.Itt T.K a) H ρ Ow ds := by
  have key : ∀ H' ρ' Ow', Per str H ρ Ow H' ρ' Ow' → ∃ vs, SqT T.K H' a vs ∧ RVs T H' ρ' Ow' vs ds := fun H' ρ' Ow' p => by
    cases str with
    | true =>
      have r' : RV T H ρ Ow (.ref a) (.tup ds) := r
      have r2 := r'.keeps p s.lists
      cases r2 with
      | tup q z rs => exact ⟨_, q.sq, rs⟩
    | false =>
      obtain ⟨e, ho⟩ := p
      rcases RW.ext e (RW.ow (fun a h _ n => ho a h n) r) with r2 | ⟨b, vs, es, e1, e2, h1, h2, z, rs⟩
      · cases r2 with
        | tup q z rs => exact ⟨_, q.sq, rs⟩
      · cases e2
  refine ⟨fun i d H' ρ' Ow' st' hd p s' => ?_, fun H' ρ' Ow' p => ?_⟩
  · obtain ⟨vs, q, rs⟩ := key H' ρ' Ow' p
    obtain ⟨v, hv, rv⟩ := rs.get hd
    refine ⟨⟨vs, v, q, hv⟩, fun x H2 y => ?_⟩
    obtain ⟨rfl, y⟩ := y
    have e := y vs q
    rw [hv] at e; cases e
    exact ⟨.inl rfl, rv⟩
  · obtain ⟨vs, q, rs⟩ := key H' ρ' Ow' p
    exact ⟨vs, q, Nat.le_of_eq rs.length⟩
/-- an expression whose value is walked -/
def iSeq (K : PySem.W.Frag) (tl : TE) : TI := fun σ H R => tl σ H fun x H1 => (∃ a, x = .ref a ∧ (((∃ xs, SqL K H1 a xs) ∧ R (L2.Itl K a) H1) ∨ ((∃ xs, SqT K H1 a xs) ∧ R (L2.Itt K a) H1))) ∨ ∃ y, x = .str y ∧ R (L2.Its y) H1
theorem pi_seq {tg l : Expr} {tl : TE} (hl : PE X l tl) : PI X tg l (iSeq X.K tl) := by
  refine ⟨fun pins s σ H R I h => ?_⟩
  refine L2.thn (hl.run pins s σ H _ I h) fun v s1 ⟨x, H1, I1, r1, q⟩ => ?_
  rcases q with ⟨a, e, q⟩ | ⟨x, ex, q⟩
  rotate_left
  · subst ex
    obtain ⟨t, rfl⟩ := r1
    cases ha : x.cps.all (· < 128)
    · exact wpAny_pyIter_wide ha (L2.pi_one (tk := s1.toks) I1 _ (L2.turn_str _ x t "str_iterator" (.inr rfl)) ⟨_, Heap.get?_push_size _ rfl, rfl, rfl⟩ q)
    · exact wpAny_pyIter_ascii ha (L2.pi_one (tk := s1.toks) I1 _ (L2.turn_str _ x t "str_ascii_iterator" (.inl rfl)) ⟨_, Heap.get?_push_size _ rfl, rfl, rfl⟩ q)
  subst e
  cases r1
  have fp : ∀ b ∈ [s1.heap.objs.size], L2.FpOk X pins H1 b := fun b hb => by
    rw [List.mem_singleton.mp hb]
    exact I1.fpOk (Nat.le_refl _) (I1.hok.fresh (Nat.le_refl _))
  rcases q with ⟨⟨xs, hq⟩, q⟩ | ⟨⟨xs, hq⟩, q⟩
  · obtain ⟨its, rv, p, hz⟩ := I1.list hq
    exact wpAny_pyIter_list p.isList ⟨_, [s1.heap.objs.size], _, _, H1, rfl, I1.kept (t' := s1.toks) fun b o e => Heap.get?_push_of_some _ e, L2.turn_list a _, ⟨_, Heap.get?_push_size _ rfl, rfl, rfl⟩, fp, q⟩
  · obtain ⟨its, rv, p, hz⟩ := I1.tuple hq
    exact wpAny_pyIter_tuple (show s1.heap.IsTuple a its.toArray from p) ⟨_, [s1.heap.objs.size], _, _, H1, rfl, I1.kept (t' := s1.toks) fun b o e => Heap.get?_push_of_some _ e, L2.turn_tuple a _, ⟨_, Heap.get?_push_size _ rfl, rfl, rfl⟩, fp, q⟩
/-- a text's signs -/
theorem walk_str {str : Bool} {H : Hp} {ρ Ow : List Addr} {xs : List Nat} (hz : xs.length ≤ LIM) (hc : xs.all okCode = true) : Walk str T (L2.Its ⟨xs.toArray⟩) H ρ Ow (xs.map fun c => .str [c]) := by
  refine ⟨fun i d H1 ρ1 Ow1 st hd _ _ => ?_, fun H1 ρ1 Ow1 _ => ?_⟩
  · rw [List.getElem?_map, Option.map_eq_some_iff] at hd
    obtain ⟨c, h1, rfl⟩ := hd
    have hi : i < xs.length := (List.getElem?_eq_some_iff.mp h1).1
    refine ⟨by show i < xs.toArray.size; simpa using hi, fun x H' ⟨e, c', hc', ex⟩ => ?_⟩
    subst e
    have e2 : c' = c := by
      have : xs.toArray[i]? = some c' := hc'
      rw [List.getElem?_toArray, h1] at this
      exact (Option.some.inj this).symm
    subst e2
    subst ex
    have ho : okCode c' = true := List.all_eq_true.mp hc c' (List.mem_of_getElem? h1)
    have h1 : 1 ≤ LIM := by rw [lim_line]; decide
    exact ⟨.inl rfl, .str [c'] h1 (by simp [ho])⟩
  · show xs.toArray.size ≤ (xs.map _).length
    simp
theorem items_of {tg e : Expr} {f : Env → Store → O D} {str : Bool} (C : CxG X T N sc n) (h : PE X e (tVal T xf W str f)) : PI X tg e (tIt T xf W str (Sem.of f).items) := by
  refine PI.imp (pi_seq h) fun σ H R q => ?_
  obtain ⟨env, st, ρ, Ow, en, sr, p⟩ := q
  refine ⟨env, st, ρ, Ow, en, sr, (Post.bind p).mono fun d st1 H1 ρ1 e1 s1 q0 v r => ?_⟩
  obtain ⟨ds, e2, q⟩ := Post.of s1 q0
  clear q0
  rw [C.eK]
  have w := r
  cases d with
  | lst xs =>
    cases e2
    rcases r.w with r2 | ⟨a, vs, es, rfl, e2, h1, h2, z, rs⟩
    · cases r2 with
      | lst q2 n1 n2 z rs => exact .inl ⟨_, rfl, .inl ⟨⟨_, .inl (.inl q2)⟩, q _ (walk_lst s1 w)⟩⟩
    · cases e2
      exact .inl ⟨_, rfl, .inl ⟨⟨_, .inl (.inl h1)⟩, q _ (walk_lst s1 w)⟩⟩
  | tup xs =>
    cases e2
    rcases r.w with r2 | ⟨a, vs, es, rfl, e2, h1, h2, z, rs⟩
    · cases r2 with
      | tup q2 z rs => exact .inl ⟨_, rfl, .inr ⟨⟨_, q2.sq⟩, q _ (walk_tup s1 w)⟩⟩
    · cases e2
  | str xs =>
    cases e2
    rcases r.w with r2 | ⟨a, vs, es, rfl, e2, h1, h2, z, rs⟩
    · cases r2 with
      | str _ hz hc => exact .inr ⟨_, rfl, q _ (walk_str hz hc)⟩
    · cases e2
  | _ => cases e2
/-- most expressions: the value's rule is enough -/
theorem JE.of {e : Expr} {f : Env → Store → O D} {str : Bool} (C : CxG X T N sc n) (h : PE X e (tVal T xf W str f)) (he : ∀ whole, isTrue e X.env whole = (do let v ← whole; standAt e.pos; holding [v] (truthy v)) := by intro _; rfl) :
    JE X T xf W e (Sem.of f) str := ⟨h, test_of C he h, fun _ => items_of C h⟩
theorem je_v {i : Nat} {x : PySem.Str} {pos : Pos} (C : CxG X T N sc n) (h1 : N[i]? = some x) (h2 : L2.Vis sc x) (h3 : (x == ("__debug__" : PySem.Str)) = false) (h4 : (x == ("__classdict__" : PySem.Str)) = false) :
    JE X T xf W (.Name x pos) (Sem.of fun env st => .of (env.get i) st) true := by
  refine .of C (PE.imp (L2.pe_var (i := i) (by rw [C.eN]; exact h1) (by rw [C.eS]; exact h2) h3 h4) fun σ H Q q => ?_)
  obtain ⟨env, st, ρ, Ow, en, sr, p⟩ := q
  obtain ⟨d, e, q⟩ := Post.of sr p
  obtain ⟨v, hv, r⟩ := en.get e
  exact ⟨v, hv, q v r⟩
theorem je_pk {i : Nat} {x : PySem.Str} {pos : Pos} (C : CxG X T N sc n) (h1 : N[i]? = some x) (h2 : L2.Vis sc x) (h3 : (x == ("__debug__" : PySem.Str)) = false) (h4 : (x == ("__classdict__" : PySem.Str)) = false) :
    JE X T xf W (.Name x pos) (Sem.of fun env st => .of (env.pk i) st) false := by
  refine .of C (PE.imp (L2.pe_var (i := i) (by rw [C.eN]; exact h1) (by rw [C.eS]; exact h2) h3 h4) fun σ H Q q => ?_)
  obtain ⟨env, st, ρ, Ow, en, sr, p⟩ := q
  obtain ⟨d, e, q⟩ := Post.of sr p
  obtain ⟨v, hv, r⟩ := en.pk sr e
  exact ⟨v, hv, q v r⟩
/-- a constant of the text -/
def conD : Const → Option D
  | .none => some .non
  | .bool b => some (.bl b)
  | .int i => some (.int i)
  | .str s => if s.cps.toList.length ≤ LIM ∧ s.cps.toList.all okCode = true then some (.str s.cps.toList) else none
  | _ => none
theorem je_k {c : Const} {d : D} {j : Nat} {pos : Pos} (C : CxG X T N sc n) (h : conD c = some d) : JE X T xf W (.Constant c j pos) (Sem.of fun _ st => .ok d st) true := by
  have key : ∀ {v : V} {p : Pos}, PE X (.Constant c j p) (L2.tC v) → (∀ H ρ Ow, RV T H ρ Ow v d) → PE X (.Constant c j p) (tVal T xf W true fun _ st => .ok d st) := fun hp r => PE.imp hp fun σ H Q q => by
    obtain ⟨env, st, ρ, Ow, en, sr, p⟩ := q
    exact Post.ok sr p _ (r _ _ _)
  cases c with
  | none => cases h; exact .of C (key L2.pe_non fun _ _ _ => .non)
  | bool b => cases h; exact .of C (key L2.pe_bl fun _ _ _ => .bl b)
  | int i => cases h; exact .of C (key L2.pe_int fun _ _ _ => .int i)
  | str s =>
    have h' : (if s.cps.toList.length ≤ LIM ∧ s.cps.toList.all okCode = true then some (D.str s.cps.toList) else none) = some d := h
    split at h'
    · rename_i hl
      cases h'
      refine .of C (key L2.pe_str fun H ρ Ow => ?_)
      have := RV.str (T := T) (H := H) (ρ := ρ) (Ow := Ow) s.cps.toList hl.1 hl.2
      simpa using this
    · cases h'
  | _ => cases h
end
end G
namespace G
open PySem PySem.Spec PyProof.Rows
open L2 (V Hp HO upd SqL SqT Rd VK TE TT TA TI WX XK Cx PE PT PA PI Inv OpR CallR RelV Vals R2)
section
variable {X : Cx} {pins : List (Addr × PySem.Obj)} {σ : L2.St} {H : Hp}
/-- what a new tuple is told as -/
def newT (xs : List V) (H : Hp) (Q : VK) : Prop := ∀ (p : Addr) (o : PySem.Obj), H p = none → o.dict = none → Q (.ref p) (upd H p (.frz o (.tup xs)))
theorem laidT {s : Shared} {Q : VK} {xs : List V} {its : List Value} (I : Inv X pins σ H s) (tk : Tok) (hz : xs.length ≤ sizeLine) (r : Vals xs its) (q : newT xs H Q) :
    L2.EP X pins σ Q (.ref s.heap.objs.size) { s with heap := s.heap.push { cls := .type "tuple", data := .seq its.toArray }, toks := tk } := by
  have hg : (s.heap.push { cls := .type "tuple", data := .seq its.toArray }).get? s.heap.objs.size = some { cls := .type "tuple", data := .seq its.toArray } := Heap.get?_push_size s.heap rfl
  have ok : L2.ObjOk X.prog X.w (upd H s.heap.objs.size (.frz { cls := .type "tuple", data := .seq its.toArray } (.tup xs))) (s.heap.push { cls := .type "tuple", data := .seq its.toArray }) s.heap.objs.size (.frz { cls := .type "tuple", data := .seq its.toArray } (.tup xs)) :=
    ⟨hg, hz, its, r, ⟨_, hg, rfl, _, rfl⟩⟩
  exact ⟨.ref s.heap.objs.size, _, I.laid (t' := tk) (fun b u h => Heap.get?_push_of_some _ h) (Nat.le_refl _) ok, rfl, q _ _ (I.hok.fresh (Nat.le_refl _)) rfl⟩
end
section
variable {X : Cx}
def tTupF (t : TA) : TE := fun σ H Q => t σ H fun xs H1 => xs.length ≤ sizeLine ∧ newT xs H1 Q
theorem pe_tupF {es : List Expr} {k : Nat} {pos : Pos} {t : TA} (h : PA X es t) : PE X (.Tuple es k pos) (tTupF t) :=
  ⟨fun pins s σ H Q I hq => wpAny_Tuple_spliced (L2.thn (h.run pos pins s σ H _ I hq) fun _ s1 ⟨_, _, I1, r, z, q⟩ => ⟨by rw [← r.length]; exact z, laidT I1 s1.toks z r q⟩)⟩
theorem call_tupleF : CallR X (.type "tuple") (fun xs H Q => ∃ p ys, xs = [.ref p] ∧ ((SqL X.K H p ys ∧ newT ys H Q) ∨ (SqT X.K H p ys ∧ Q (.ref p) H))) := by
  rintro pins s σ H xs us Q I r ⟨p, ys, rfl, h⟩
  match us, r with
  | [u], .cons ru .nil =>
    obtain rfl : u = .ref p := ru
    rcases h with ⟨hq, q⟩ | ⟨hq, q⟩
    · obtain ⟨its, rv, pl, hz⟩ := I.list hq
      have e1 := rv.length
      refine call_tuple_list pl.isList (fun h' kp => ?_) (by rw [List.size_toArray, ← e1]; exact hz)
      exact laidT (s := { s with heap := h' }) (I.kept (t' := s.toks) kp) s.toks hz rv q
    · obtain ⟨its, rv, pl, hz⟩ := I.tuple hq
      exact call_tuple_same pl ⟨.ref p, H, I, rfl, q⟩
theorem call_divmodF : CallR X (.builtin "divmod") (fun xs H Q => ∃ i j, xs = [.int i, .int j] ∧ L2.CDivP i j ∧ newT [.int (i / j), .int (i % j)] H Q) := by
  rintro pins s σ H xs us Q I r ⟨i, j, rfl, ⟨hj, hw⟩, q⟩
  match us, r with
  | [u1, u2], .cons ⟨t1, h1⟩ (.cons ⟨t2, h2⟩ .nil) =>
    subst h1 h2
    refine divmod_int (by omega) ?_ (.inl hw)
    rw [Int.fdiv_eq_ediv_of_nonneg i (Int.le_of_lt hj), Int.fmod_eq_emod_of_nonneg i (Int.le_of_lt hj)]
    exact laidT (xs := [.int (i / j), .int (i % j)]) (its := [.int (i / j) s.toks, .int (i % j) (s.toks + 1)]) I _ (show 2 ≤ sizeLine by rw [sizeLine_eq]; decide) (.cons ⟨_, rfl⟩ (.cons ⟨_, rfl⟩ .nil)) q
def rCatP (K : PySem.W.Frag) : R2 := fun x y H Q => ∃ a b xs ys, x = .ref a ∧ y = .ref b ∧ SqT K H a xs ∧ SqT K H b ys ∧ xs.length + ys.length ≤ sizeLine ∧
  (xs = [] → Q (.ref b) H) ∧ (ys = [] → Q (.ref a) H) ∧ newT (xs ++ ys) H Q
theorem op_catF : OpR X (binaryOp .Add) (rCatP X.K) := by
  rintro pins s σ H x y v u Q I rx ry ⟨a, b, xs, ys, rfl, rfl, ha, hb, hz, q0, q1, q2⟩
  obtain rfl : v = .ref a := rx
  obtain rfl : u = .ref b := ry
  obtain ⟨i1, r1, p1, _⟩ := I.tuple ha
  obtain ⟨i2, r2, p2, _⟩ := I.tuple hb
  by_cases hx : xs = []
  · subst hx
    cases r1
    exact L2.cat_tup0 p1 p2 ⟨.ref b, H, I, rfl, q0 rfl⟩
  · refine HT.cat_tup p1 p2 (fun z => hx (r1.nil_iff.mp z)) (fun z => ⟨.ref a, H, I, rfl, q1 (r2.nil_iff.mp z)⟩) (fun _ => ?_) ?_
    · exact laidT I s.toks (by rw [List.length_append]; exact hz) (r1.append r2) q2
    · rw [← r1.length, ← r2.length]; exact hz
def rSlF (K : PySem.W.Frag) : V → Option Int → Option Int → Hp → VK → Prop := fun x lo hi H Q => ∃ a xs, x = .ref a ∧ SqT K H a xs ∧
  (HT.sIx xs.length 0 lo = 0 ∧ HT.sIx xs.length xs.length hi = xs.length → Q (.ref a) H) ∧ newT (L2.cutV xs lo hi) H Q
theorem sl_tupF : L2.SlR X (rSlF X.K) := by
  rintro pins s σ H x v vl vu lo hi sl Q I rx hs pl pu ⟨a, xs, rfl, hx, q1, q2⟩
  by_cases hw : HT.sIx xs.length 0 lo = 0 ∧ HT.sIx xs.length xs.length hi = xs.length
  · exact L2.sl_tupA pins s σ H _ v vl vu lo hi sl Q I rx hs pl pu ⟨a, xs, rfl, hx, q1, fun n => absurd hw n⟩
  · obtain rfl : v = .ref a := rx
    obtain ⟨its, rv, ht, hz⟩ := I.tuple hx
    have e1 : its.toArray.size = xs.length := by rw [List.size_toArray]; exact rv.length.symm
    refine ⟨"tuple", _, PyProof.Rows.slot_tuple_getitem.lookup, ht.typeIs, HT.getItem_tuple_cut ht hs pl pu (by rw [e1]; exact hw) ?_ (by rw [e1]; exact hz)⟩
    rw [e1]
    exact laidT I s.toks (Nat.le_trans (L2.cutV_length xs lo hi) hz) ((rv.drop _).take _) q2
end
end G
namespace G
open PySem PySem.Spec PyProof.Rows
open L2 (V Hp HO upd SqL SqT Rd VK TE TT TA TI WX XK Cx PE PT PA PI Inv OpR CallR RelV Vals R2)
/-- nothing, or a new object -/
def New1 (H H' : Hp) : Prop := H' = H ∨ ∃ p o, H p = none ∧ H' = upd H p o
theorem New1.refl (H : Hp) : New1 H H := .inl rfl
theorem New1.ext {H H' : Hp} (n : New1 H H') (ρ : List Addr) : Ext H ρ H' ρ := by
  rcases n with rfl | ⟨p, xs, hp, rfl⟩
  · exact Ext.refl _ _
  · exact Ext.new hp
theorem New1.st {T : Tb} {H H' : Hp} {ρ Ow : List Addr} {st : Store} (n : New1 H H') (s : StR T H ρ Ow st) : StR T H' ρ Ow st := by
  rcases n with rfl | ⟨p, xs, hp, rfl⟩
  · exact s
  · exact s.new hp
section
variable {T : Tb} {H H' : Hp} {ρ ρ' Ow Ow' : List Addr} {st : Store}
/-- a value as an operator takes it -/
def RU (T : Tb) (H : Hp) (ρ Ow : List Addr) (v : V) (d : D) : Prop := RV T H ρ Ow v d ∨ ∃ a vs ds, v = .ref a ∧ d = .lst ds ∧ H a = some (.lst vs) ∧ vs.length ≤ LIM ∧ RVs T H ρ Ow vs ds
theorem RW.u {v : V} {d : D} (r : RW T H ρ Ow v d) : RU T H ρ Ow v d := by
  rcases r with r | ⟨a, vs, ds, h1, h2, h3, h4, h5, h6⟩
  · exact .inl r
  · exact .inr ⟨a, vs, ds, h1, h2, h3, h5, h6⟩
theorem view_lst {l : Nat} {ds : List D} (e : st[l]? = some (.lst ds)) : G.view st (.loc l) = .lst ds := by unfold G.view; simp [e]
theorem view_no {l : Nat} (e : ∀ ds, st[l]? ≠ some (.lst ds)) : G.view st (.loc l) = .loc l := by
  unfold G.view
  cases q : st[l]? with
  | none => simp [q]
  | some o =>
    cases o with
    | ins c fs => simp [q]
    | dic z ks => simp [q]
    | lst ds => exact absurd q (e ds)
theorem RW.view {v : V} {d : D} (s : StR T H ρ Ow st) (r : RW T H ρ Ow v d) : RU T H ρ Ow v (G.view st d) := by
  cases d with
  | loc l =>
    rcases r with r | ⟨_, _, _, _, h, _⟩
    · cases r with
      | loc q =>
        cases e : st[l]? with
        | none => rw [view_no (fun ds h => by rw [e] at h; cases h)]; exact .inl (.loc q)
        | some o =>
          cases o with
          | ins c fs => rw [view_no (fun ds h => by rw [e] at h; cases h)]; exact .inl (.loc q)
          | dic z ks => rw [view_no (fun ds h => by rw [e] at h; cases h)]; exact .inl (.loc q)
          | lst ds =>
            obtain ⟨_, vs, h1, z, rs⟩ := s.at_ l _ _ q e
            rw [view_lst e]
            exact .inr ⟨_, vs, ds, rfl, rfl, h1, z, rs⟩
    · cases h
  | _ => exact r.u
theorem RU.lst {v : V} {ds : List D} (r : RU T H ρ Ow v (.lst ds)) : ∃ a vs, v = .ref a ∧ H a = some (.lst vs) ∧ vs.length ≤ LIM ∧ RVs T H ρ Ow vs ds := by
  rcases r with r | ⟨a, vs, es, h1, h2, h3, h4, h5⟩
  · cases r with
    | lst q n1 n2 z rs => exact ⟨_, _, rfl, q, z, rs⟩
  · cases h2
    exact ⟨a, vs, h1, h3, h4, h5⟩
theorem RU.tup {v : V} {ds : List D} (r : RU T H ρ Ow v (.tup ds)) : ∃ a vs, v = .ref a ∧ StT T.K H ρ a vs ∧ vs.length ≤ LIM ∧ RVs T H ρ Ow vs ds := by
  rcases r with r | ⟨a, vs, es, h1, h2, h3, h4, h5⟩
  · cases r with
    | tup q z rs => exact ⟨_, _, rfl, q, z, rs⟩
  · cases h2
theorem RU.int {v : V} {i : Int} (r : RU T H ρ Ow v (.int i)) : v = .int i := by
  rcases r with r | ⟨a, vs, es, h1, h2, h3, h4, h5⟩
  · cases r; rfl
  · cases h2
theorem RU.bl {v : V} {i : Bool} (r : RU T H ρ Ow v (.bl i)) : v = .bl i := by
  rcases r with r | ⟨a, vs, es, h1, h2, h3, h4, h5⟩
  · cases r; rfl
  · cases h2
theorem RU.str {v : V} {x : List Nat} (r : RU T H ρ Ow v (.str x)) : v = .str ⟨x.toArray⟩ ∧ x.length ≤ LIM ∧ x.all okCode = true := by
  rcases r with r | ⟨a, vs, es, h1, h2, h3, h4, h5⟩
  · cases r with
    | str x h c => exact ⟨rfl, h, c⟩
  · cases h2
theorem RU.non {v : V} (r : RU T H ρ Ow v .non) : v = .non := by
  rcases r with r | ⟨a, vs, es, h1, h2, h3, h4, h5⟩
  · cases r; rfl
  · cases h2
/-- a sequence's items -/
theorem RW.seq {v : V} {d : D} {ds : List D} (s : StR T H ρ Ow st) (r : RW T H ρ Ow v d) (e : seqv st d = some ds) : ∃ a vs, v = .ref a ∧ (SqL T.K H a vs ∨ SqT T.K H a vs) ∧ vs.length ≤ LIM ∧ RVs T H ρ Ow vs ds := by
  cases d with
  | tup xs =>
    cases e
    obtain ⟨a, vs, h1, h2, h3, h4⟩ := r.u.tup
    exact ⟨a, vs, h1, .inr h2.sq, h3, h4⟩
  | lst xs =>
    cases e
    obtain ⟨a, vs, h1, h2, h3, h4⟩ := r.u.lst
    exact ⟨a, vs, h1, .inl (.inl (.inl h2)), h3, h4⟩
  | fl xs =>
    cases e
    rcases r with r | ⟨_, _, _, _, h, _⟩
    · cases r with
      | fl q z rs => exact ⟨_, _, rfl, .inl q.sq, z, rs⟩
    · cases h
  | loc l =>
    have w := r.view s
    unfold seqv at e
    cases e2 : st[l]? with
    | none => simp [e2] at e
    | some o =>
      cases o with
      | ins c fs => simp [e2] at e
      | dic z ks => simp [e2] at e
      | lst xs =>
        simp [e2] at e
        subst e
        have : G.view st (.loc l) = .lst xs := by unfold G.view; simp [e2]
        rw [this] at w
        obtain ⟨a, vs, h1, h2, h3, h4⟩ := w.lst
        exact ⟨a, vs, h1, .inl (.inl (.inl h2)), h3, h4⟩
  | _ => cases e
theorem RVs.rep {vs : List V} {ds : List D} (r : RVs T H ρ Ow vs ds) : ∀ n : Nat, RVs T H ρ Ow (List.replicate n vs).flatten (List.replicate n ds).flatten
  | 0 => .nil
  | n + 1 => by
    rw [List.replicate_succ, List.replicate_succ, List.flatten_cons, List.flatten_cons]
    exact r.append (RVs.rep r n)
/-- a new list, a new tuple -/
theorem rv_lst {p : Addr} {vs : List V} {ds : List D} (hp : H p = none) (hr : p ∉ ρ) (ho : p ∉ Ow) (z : vs.length ≤ LIM) (r : RVs T H ρ Ow vs ds) : RV T (upd H p (.lst vs)) ρ Ow (.ref p) (.lst ds) :=
  .lst L2.upd_same hr ho z (r.ext (Ext.new hp))
theorem rv_tup {p : Addr} {o : PySem.Obj} {vs : List V} {ds : List D} (hp : H p = none) (ho : o.dict = none) (hr : p ∉ ρ) (z : vs.length ≤ LIM) (r : RVs T H ρ Ow vs ds) : RV T (upd H p (.frz o (.tup vs))) ρ Ow (.ref p) (.tup ds) :=
  .tup (.inl ⟨⟨o, L2.upd_same, ho⟩, hr⟩) z (r.ext (Ext.new hp))
/-- a pair that is taken apart at once -/
theorem rv_raw {p : Addr} {vs : List V} {ds : List D} (hp : H p = none) (hr : p ∉ ρ) (z : vs.length ≤ LIM) (r : RVs T H ρ Ow vs ds) : RV T (upd H p (.tup vs)) ρ Ow (.ref p) (.exc 0 ds) :=
  .raw (.inl L2.upd_same) hr z (r.ext (Ext.new hp))
theorem StR.fresh (s : StR T H ρ Ow st) {p : Addr} (hp : H p = none) : p ∉ ρ ∧ p ∉ Ow := by
  refine ⟨fun h => ?_, fun h => ?_⟩
  · obtain ⟨o, q⟩ := s.mem h
    rw [hp] at q; cases q
  · obtain ⟨vs, q⟩ := s.lists _ h
    rw [hp] at q; cases q
end
/-- an operator by its meaning on data -/
def rSem (T : Tb) (f : Store → D → D → Option D) : R2 := fun x y H Q => ∃ st ρ Ow dx dy dz, StR T H ρ Ow st ∧ RW T H ρ Ow x dx ∧ RW T H ρ Ow y dy ∧ f st dx dy = some dz ∧ ∀ v H', New1 H H' → RV T H' ρ Ow v dz → Q v H'
section
variable {X : Cx} {T : Tb}
theorem okMul_w {i j : Int} (h : okMul i j = true) : L2.CMulX i j := by
  unfold okMul BIG at h
  rw [Bool.and_eq_true, decide_eq_true_eq, decide_eq_true_eq] at h
  exact L2.mulx_ok (a := 4000) (b := 4000) h.1 h.2 (by clear h; decide)
theorem okDiv_w {i j : Int} (h : okDiv j = true) : L2.CDivW i j := by
  unfold okDiv DIV at h
  rw [Bool.and_eq_true, decide_eq_true_eq, decide_eq_true_eq] at h
  obtain ⟨h1, h2⟩ := h
  refine L2.wide_div (i := i) (b := 4000) h1 h2 ?_ ?_
  · exact Nat.succ_pos _
  · exact Nat.le_of_ble_eq_true (Eq.refl true)
theorem or_add (hK : X.K = T.K) : OpR X (binaryOp .Add) (rSem T (op2 .add)) := by
  intro pins s σ H x y v u Q I rx ry h
  obtain ⟨st, ρ, Ow, dx, dy, dz, sr, wx, wy, e, k⟩ := h
  have ux := wx.view sr
  have uy := wy.view sr
  simp only [op2] at e
  generalize G.view st dx = ex at ux e
  generalize G.view st dy = ey at uy e
  split at e
  · cases e
    have e1 := ux.int
    have e2 := uy.int
    subst e1 e2
    exact L2.op_add pins s σ H _ _ v u Q I rx ry ⟨_, _, rfl, rfl, k _ _ (.inl rfl) (.int _)⟩
  · split at e
    · rename_i hl
      cases e
      obtain ⟨e1, z1, c1⟩ := ux.str
      obtain ⟨e2, z2, c2⟩ := uy.str
      subst e1 e2
      refine L2.op_add_str pins s σ H _ _ v u Q I rx ry ⟨_, _, rfl, rfl, by rw [← lim_line]; simpa [Str.length] using hl, k _ _ (.inl rfl) ?_⟩
      have r : RV T H ρ Ow (.str ⟨(_ ++ _ : List Nat).toArray⟩) _ := .str _ (by rw [List.length_append]; exact hl) (by rw [List.all_append, c1, c2]; rfl)
      rw [← List.append_toArray] at r
      exact r
    · cases e
  · split at e
    · rename_i hl
      cases e
      obtain ⟨a, vs, rfl, q1, z1, r1⟩ := ux.tup
      obtain ⟨b, us, rfl, q2, z2, r2⟩ := uy.tup
      have hz : vs.length + us.length ≤ LIM := by rw [r1.length, r2.length]; exact hl
      refine op_catF pins s σ H _ _ v u Q I rx ry ⟨a, b, vs, us, rfl, rfl, by rw [hK]; exact q1.sq, by rw [hK]; exact q2.sq, by rw [← lim_line]; exact hz, fun h0 => ?_, fun h0 => ?_, fun p o hp ho => ?_⟩
      · subst h0
        cases r1
        exact k _ _ (.inl rfl) (.tup q2 z2 r2)
      · subst h0
        cases r2
        refine k _ _ (.inl rfl) ?_
        rw [List.append_nil]
        exact .tup q1 z1 r1
      · exact k _ _ (.inr ⟨p, _, hp, rfl⟩) (rv_tup hp ho (sr.fresh hp).1 (by rw [List.length_append]; exact hz) (r1.append r2))
    · cases e
  · split at e
    · rename_i hl
      cases e
      obtain ⟨a, vs, rfl, q1, z1, r1⟩ := ux.lst
      obtain ⟨b, us, rfl, q2, z2, r2⟩ := uy.lst
      have hz : vs.length + us.length ≤ LIM := by rw [r1.length, r2.length]; exact hl
      refine L2.op_cat pins s σ H _ _ v u Q I rx ry ⟨a, b, vs, us, rfl, rfl, q1, q2, by rw [← lim_line]; exact hz, fun p hp => ?_⟩
      exact k _ _ (.inr ⟨p, _, hp, rfl⟩) (rv_lst hp (sr.fresh hp).1 (sr.fresh hp).2 (by rw [List.length_append]; exact hz) (r1.append r2))
    · cases e
  · cases e
/-- two dInts -/
theorem ints2 {f : Int → Int → Option D} {dx dy dz : D} (e : (match dx, dy with
    | .int i, .int j => f i j
    | _, _ => none) = some dz) : ∃ i j, dx = .int i ∧ dy = .int j ∧ f i j = some dz := by
  split at e
  · exact ⟨_, _, rfl, rfl, e⟩
  · cases e
theorem RW.int {T : Tb} {H : Hp} {ρ Ow : List Addr} {v : V} {i : Int} (r : RW T H ρ Ow v (.int i)) : v = .int i := r.u.int
theorem or_sub : OpR X (binaryOp .Sub) (rSem T (op2 .sub)) := by
  intro pins s σ H x y v u Q I rx ry ⟨st, ρ, Ow, dx, dy, dz, sr, wx, wy, e, k⟩
  obtain ⟨i, j, rfl, rfl, e⟩ := ints2 e
  cases e
  have e1 := wx.int
  have e2 := wy.int
  subst e1 e2
  exact L2.op_sub pins s σ H _ _ v u Q I rx ry ⟨_, _, rfl, rfl, k _ _ (.inl rfl) (.int _)⟩
theorem or_mul (hK : X.K = T.K) : OpR X (binaryOp .Mult) (rSem T (op2 .mul)) := by
  intro pins s σ H x y v u Q I rx ry ⟨st, ρ, Ow, dx, dy, dz, sr, wx, wy, e, k⟩
  have ux := wx.view sr
  simp only [op2] at e
  generalize G.view st dx = ex at ux e
  split at e
  · split at e
    · rename_i hl
      cases e
      have e1 := ux.int
      have e2 := wy.int
      subst e1 e2
      exact L2.op_mulX pins s σ H _ _ v u Q I rx ry ⟨_, _, rfl, rfl, okMul_w hl, k _ _ (.inl rfl) (.int _)⟩
    · cases e
  · split at e
    · rename_i a j hl
      cases e
      obtain ⟨b, vs, rfl, q1, z1, r1⟩ := ux.lst
      have e2 := wy.int
      subst e2
      have hz : vs.length * j.toNat ≤ LIM := by rw [r1.length]; exact hl.2.2
      refine L2.op_rep pins s σ H _ _ v u Q I rx ry ⟨b, j, vs, rfl, rfl, q1, by omega, by omega, by rw [← lim_line]; exact hz, fun p hp => ?_⟩
      refine k _ _ (.inr ⟨p, _, hp, rfl⟩) (rv_lst hp (sr.fresh hp).1 (sr.fresh hp).2 ?_ (r1.rep _))
      rw [PyProof.Rows.lm_len_rep_flat, Nat.mul_comm]
      exact hz
    · cases e
  · cases e
theorem or_fdiv : OpR X (binaryOp .FloorDiv) (rSem T (op2 .fdiv)) := by
  intro pins s σ H x y v u Q I rx ry ⟨st, ρ, Ow, dx, dy, dz, sr, wx, wy, e, k⟩
  obtain ⟨i, j, rfl, rfl, e'⟩ := ints2 e
  clear e
  have e := e'
  clear e'
  split at e
  · rename_i hl
    cases e
    have e1 := wx.int
    have e2 := wy.int
    subst e1 e2
    exact L2.op_fdivW pins s σ H _ _ v u Q I rx ry ⟨_, _, rfl, rfl, okDiv_w hl, k _ _ (.inl rfl) (.int _)⟩
  · cases e
theorem or_mod : OpR X (binaryOp .Mod) (rSem T (op2 .mod)) := by
  intro pins s σ H x y v u Q I rx ry ⟨st, ρ, Ow, dx, dy, dz, sr, wx, wy, e, k⟩
  obtain ⟨i, j, rfl, rfl, e'⟩ := ints2 e
  clear e
  have e := e'
  clear e'
  split at e
  · rename_i hl
    cases e
    have e1 := wx.int
    have e2 := wy.int
    subst e1 e2
    exact L2.op_mod pins s σ H _ _ v u Q I rx ry ⟨_, _, rfl, rfl, (okDiv_w (i := i) hl).1, k _ _ (.inl rfl) (.int _)⟩
  · cases e
theorem or_pow : OpR X (binaryOp .Pow) (rSem T (op2 .pow)) := by
  intro pins s σ H x y v u Q I rx ry ⟨st, ρ, Ow, dx, dy, dz, sr, wx, wy, e, k⟩
  obtain ⟨i, j, rfl, rfl, e'⟩ := ints2 e
  clear e
  have e := e'
  clear e'
  split at e
  · rename_i hl
    cases e
    have e1 := wx.int
    have e2 := wy.int
    subst e1 e2
    exact L2.op_pow pins s σ H _ _ v u Q I rx ry ⟨_, _, rfl, rfl, ⟨hl.1, by omega, by have := hl.2.2; omega⟩, k _ _ (.inl rfl) (.int _)⟩
  · cases e
theorem or_lt : OpR X (compareOp .Lt) (rSem T (op2 .lt)) := by
  intro pins s σ H x y v u Q I rx ry ⟨st, ρ, Ow, dx, dy, dz, sr, wx, wy, e, k⟩
  obtain ⟨i, j, rfl, rfl, e⟩ := ints2 e
  cases e
  have e1 := wx.int
  have e2 := wy.int
  subst e1 e2
  exact L2.op_lt pins s σ H _ _ v u Q I rx ry ⟨_, _, rfl, rfl, k _ _ (.inl rfl) (.bl _)⟩
theorem or_le : OpR X (compareOp .LtE) (rSem T (op2 .le)) := by
  intro pins s σ H x y v u Q I rx ry ⟨st, ρ, Ow, dx, dy, dz, sr, wx, wy, e, k⟩
  obtain ⟨i, j, rfl, rfl, e⟩ := ints2 e
  cases e
  have e1 := wx.int
  have e2 := wy.int
  subst e1 e2
  exact L2.op_le pins s σ H _ _ v u Q I rx ry ⟨_, _, rfl, rfl, k _ _ (.inl rfl) (.bl _)⟩
theorem or_gt : OpR X (compareOp .Gt) (rSem T (op2 .gt)) := by
  intro pins s σ H x y v u Q I rx ry ⟨st, ρ, Ow, dx, dy, dz, sr, wx, wy, e, k⟩
  obtain ⟨i, j, rfl, rfl, e⟩ := ints2 e
  cases e
  have e1 := wx.int
  have e2 := wy.int
  subst e1 e2
  exact L2.op_gt pins s σ H _ _ v u Q I rx ry ⟨_, _, rfl, rfl, k _ _ (.inl rfl) (.bl _)⟩
theorem or_ge : OpR X (compareOp .GtE) (rSem T (op2 .ge)) := by
  intro pins s σ H x y v u Q I rx ry ⟨st, ρ, Ow, dx, dy, dz, sr, wx, wy, e, k⟩
  obtain ⟨i, j, rfl, rfl, e⟩ := ints2 e
  cases e
  have e1 := wx.int
  have e2 := wy.int
  subst e1 e2
  exact L2.op_ge pins s σ H _ _ v u Q I rx ry ⟨_, _, rfl, rfl, k _ _ (.inl rfl) (.bl _)⟩
theorem op_isB {X : Cx} : OpR X (compareOp .Is) (fun x y H Q => ∃ a b, x = .bl a ∧ y = .bl b ∧ Q (.bl (a == b)) H) := by
  intro pins s σ H x y v u Q I rx ry h
  obtain ⟨a, b, rfl, rfl, q⟩ := h
  cases rx
  cases ry
  show wpAny _ _ (do let r ← isSame (.bool a) (.bool b); pure (Value.bool r)) _ _ _
  rw [isSame_plain rfl]
  refine wpAny_pure (L2.fin_bl I q ?_)
  cases a <;> cases b <;> rfl
theorem op_notB {X : Cx} : OpR X (compareOp .IsNot) (fun x y H Q => ∃ a b, x = .bl a ∧ y = .bl b ∧ Q (.bl (a != b)) H) := by
  intro pins s σ H x y v u Q I rx ry h
  obtain ⟨a, b, rfl, rfl, q⟩ := h
  cases rx
  cases ry
  show wpAny _ _ (do let r ← isSame (.bool a) (.bool b); pure (Value.bool !r)) _ _ _
  rw [isSame_plain rfl]
  refine wpAny_pure (L2.fin_bl I q ?_)
  cases a <;> cases b <;> rfl
theorem or_is : OpR X (compareOp .Is) (rSem T (op2 .is)) := by
  intro pins s σ H x y v u Q I rx ry ⟨st, ρ, Ow, dx, dy, dz, sr, wx, wy, e, k⟩
  simp only [op2] at e
  split at e
  · cases e
    have e1 := wx.u.non
    have e2 := wy.u.non
    subst e1 e2
    exact L2.op_isN pins s σ H _ _ v u Q I rx ry ⟨rfl, k _ _ (.inl rfl) (.bl _)⟩
  · cases e
    have e1 := wx.u.bl
    have e2 := wy.u.bl
    subst e1 e2
    exact op_isB pins s σ H _ _ v u Q I rx ry ⟨_, _, rfl, rfl, k _ _ (.inl rfl) (.bl _)⟩
  · rename_i hn
    cases e
    have e2 := wy.u.non
    subst e2
    refine L2.op_isN pins s σ H _ _ v u Q I rx ry ⟨rfl, ?_⟩
    have e3 : decide (x = V.non) = false := decide_eq_false fun h => by
      subst h
      rcases wx with r | ⟨_, _, _, h, _⟩
      · cases r; exact hn rfl
      · cases h
    rw [e3]
    exact k _ _ (.inl rfl) (.bl _)
  · cases e
theorem or_isnot : OpR X (compareOp .IsNot) (rSem T (op2 .isnot)) := by
  intro pins s σ H x y v u Q I rx ry ⟨st, ρ, Ow, dx, dy, dz, sr, wx, wy, e, k⟩
  simp only [op2] at e
  split at e
  · cases e
    have e1 := wx.u.non
    have e2 := wy.u.non
    subst e1 e2
    exact L2.op_notN pins s σ H _ _ v u Q I rx ry ⟨rfl, k _ _ (.inl rfl) (.bl _)⟩
  · cases e
    have e1 := wx.u.bl
    have e2 := wy.u.bl
    subst e1 e2
    exact op_notB pins s σ H _ _ v u Q I rx ry ⟨_, _, rfl, rfl, k _ _ (.inl rfl) (.bl _)⟩
  · rename_i hn
    cases e
    have e2 := wy.u.non
    subst e2
    refine L2.op_notN pins s σ H _ _ v u Q I rx ry ⟨rfl, ?_⟩
    have e3 : decide (x = V.non) = false := decide_eq_false fun h => by
      subst h
      rcases wx with r | ⟨_, _, _, h, _⟩
      · cases r; exact hn rfl
      · cases h
    rw [e3]
    exact k _ _ (.inl rfl) (.bl _)
  · cases e
end
end G
namespace PySem.SeqAt
open AutoSeq1 (wpAny_loadPart')
open MeetsSeq
section
variable {A : Around} {s : Shared}
theorem dict_eq_declines_str (l : Addr) (es : Array DictEntry) (n : Nat) (dd : Option Addr) (sl : Array (Option Value)) (b : Str) (u : Tok) :
    Meets (Builtin.«dict.__eq__» ⟨[.ref l, .str b u], []⟩) (fun _ R s => s.heap.get? l = some { cls := .type "dict", dict := dd, data := .dict es n, slots := sl } ∧ R (.ok (.ret .notImplemented)) s) :=
  .of_wp fun prog w A R s h => by obtain ⟨hp, g, d, tk, os⟩ := s; obtain ⟨hl, h⟩ := h; have f1 := F.sub_str_dict; wp_walk using wpAny_loadPart' hl; exact ⟨_, rfl, h⟩
theorem str_eq_declines_dict (b : Str) (u : Tok) (l : Addr) (es : Array DictEntry) (n : Nat) (dd : Option Addr) (sl : Array (Option Value)) :
    Meets (Builtin.«str.__eq__» ⟨[.str b u, .ref l], []⟩) (fun _ R s => s.heap.get? l = some { cls := .type "dict", dict := dd, data := .dict es n, slots := sl } ∧ R (.ok (.ret .notImplemented)) s) :=
  .of_wp fun prog w A R s h => by obtain ⟨hp, g, d, tk, os⟩ := s; obtain ⟨hl, h⟩ := h; wp_walk using wpAny_loadPart' hl, wpAny_load hl; exact ⟨_, rfl, h⟩
theorem RcAt.str_dict {l : Addr} {es : Array DictEntry} {n : Nat} {dd : Option Addr} {sl : Array (Option Value)} (b : Str) (u : Tok) (ho : s.heap.get? l = some { cls := .type "dict", dict := dd, data := .dict es n, slots := sl }) (hu : A.units < cLine) : RcAt A s (.str b u) (.ref l) false := fun prog w E Q h => by
  exact rc_eq_decline_or (k := false) (typeIs_str s b u) ⟨_, ho, rfl⟩ (by decide) F.sub_dict_str F.slot_str_eq F.slot_dict_eq_refl
    (fun _ hq => call_meets F.slot_str_eq (typeIs_str s b u) F.entry_str_eq (F.args_str_eq_2 _ _) (str_eq_declines_dict b u l es n dd sl) ⟨ho, hq⟩)
    (fun _ hq => call_meets F.slot_dict_eq_refl ⟨_, ho, rfl⟩ F.entry_dict_eq (F.args_dict_eq_2 _ _) (dict_eq_declines_str l es n dd sl b u) ⟨ho, hq⟩)
    (fun _ hq => wpAny_of_eq (rfl : isSame (.str b u) (.ref l) = pure false) hq) (.inr hu) h
theorem EqAt.str_dict {l : Addr} {es : Array DictEntry} {n : Nat} {dd : Option Addr} {sl : Array (Option Value)} (b : Str) (u : Tok) (ho : s.heap.get? l = some { cls := .type "dict", dict := dd, data := .dict es n, slots := sl }) (hu : A.units < cLine) : EqAt A s (.str b u) (.ref l) false := fun prog w E Q h => by
  unfold eqBool
  refine wpAny_holding ?_
  refine wpAny_ite_split (fun hab => absurd (eq_of_beq hab) nofun) (fun _ => ?_)
  exact wpAny_bind (RcAt.str_dict b u ho hu prog w E _ (wpAny_truthy_bool h))
end
end PySem.SeqAt
namespace G
open PySem PySem.Spec PyProof.Rows
open L2 (V Hp HO upd SqL SqT Rd VK TE TT TA TI WX XK Cx PE PT PA PI Inv OpR CallR RelV Vals R2)
theorem strOk_of {s : List Nat} (c : s.all okCode = true) : PyData.strOk ⟨s.toArray⟩ = true := by
  unfold PyData.strOk
  rw [List.all_toArray]
  exact c
theorem str_beq (x y : List Nat) : ((⟨x.toArray⟩ : PySem.Str) == ⟨y.toArray⟩) = (x == y) := by
  rw [Bool.eq_iff_iff]
  simp
section
variable {T : Tb} {H : Hp} {ρ Ow : List Addr}
mutual
theorem dp_of : ∀ (n : Nat) (d : D) (v : V), okEq n d = true → RV T H ρ Ow v d → L2.Dp T.K H v (toPy d) ∧ (toPy d).canLay0 = true ∧ (toPy d).depth ≤ n
  | n, .non, v, _, r => by cases r; exact ⟨.non, rfl, Nat.zero_le _⟩
  | n, .bl b, v, _, r => by cases r; exact ⟨.bl b, rfl, Nat.zero_le _⟩
  | n, .int i, v, _, r => by cases r; exact ⟨.int i, rfl, Nat.zero_le _⟩
  | n, .str s, v, _, r => by
    cases r with
    | str s h c => exact ⟨.str _, by simp only [toPy, PyData.canLay0]; exact strOk_of c, Nat.zero_le _⟩
  | 0, .tup xs, v, h, r => by simp [okEq] at h
  | n + 1, .tup xs, v, h, r => by
    cases r with
    | tup q z rs =>
      obtain ⟨h1, h2, h3⟩ := dps_of n xs _ (by simpa [okEq] using h) rs
      exact ⟨.tup q.sq h1, by simpa [toPy, PyData.canLay0] using h2, by simp [toPy, PyData.depth]; exact h3⟩
  | 0, .lst xs, v, h, r => by simp [okEq] at h
  | n + 1, .lst xs, v, h, r => by
    cases r with
    | lst q n1 n2 z rs =>
      obtain ⟨h1, h2, h3⟩ := dps_of n xs _ (by simpa [okEq] using h) rs
      exact ⟨.lst (.inl (.inl q)) h1, by simpa [toPy, PyData.canLay0] using h2, by simp [toPy, PyData.depth]; exact h3⟩
  | n, .dct _ _, v, h, r => by simp [okEq] at h
  | n, .loc _, v, h, r => by simp [okEq] at h
  | n, .obj _ _, v, h, r => by simp [okEq] at h
  | n, .exc _ _, v, h, r => by simp [okEq] at h
  | n, .cls _, v, h, r => by simp [okEq] at h
  | n, .fl _, v, h, r => by simp [okEq] at h
theorem dps_of : ∀ (n : Nat) (ds : List D) (vs : List V), okEqs n ds = true → RVs T H ρ Ow vs ds → L2.DpAll T.K H vs (toPys ds) ∧ PyData.canLayAll0 (toPys ds) = true ∧ PyData.depthAll (toPys ds) ≤ n
  | n, [], _, _, r => by cases r; exact ⟨.nil, rfl, Nat.zero_le _⟩
  | n, d :: ds, _, h, r => by
    cases r with
    | cons r rs =>
      have h' : okEq n d = true ∧ okEqs n ds = true := by simpa [okEqs] using h
      obtain ⟨h1, h2, h3⟩ := dp_of n d _ h'.1 r
      obtain ⟨g1, g2, g3⟩ := dps_of n ds _ h'.2 rs
      exact ⟨.cons h1 g1, by simp [toPys, PyData.canLayAll0, h2, g2], by simp [toPys, PyData.depthAll]; omega⟩
end
theorem du_of {n : Nat} {d : D} {v : V} (h : okEq n d = true) (r : RU T H ρ Ow v d) : L2.Dp T.K H v (toPy d) ∧ (toPy d).canLay0 = true ∧ (toPy d).depth ≤ n := by
  rcases r with r | ⟨a, vs, ds, rfl, rfl, h1, z, rs⟩
  · exact dp_of n d v h r
  · cases n with
    | zero => simp [okEq] at h
    | succ n =>
      obtain ⟨g1, g2, g3⟩ := dps_of n ds _ (by simpa [okEq] using h) rs
      exact ⟨.lst (.inl (.inl h1)) g1, by simpa [toPy, PyData.canLay0] using g2, by simp [toPy, PyData.depth]; exact g3⟩
theorem shaped_of {d : PyData} (h1 : d.canLay0 = true) (h2 : d.depth ≤ 64) : SeqAt.shaped d = true := by
  unfold SeqAt.shaped
  rw [h1, decide_eq_true h2]; rfl
mutual
theorem pyEq_eqv : ∀ (n m : Nat) (x y : D), okEq n x = true → okEq m y = true → pyEq x y = PyData.eqv (toPy x) (toPy y)
  | n, m, x, y, hx, hy => by
    cases x with
    | tup xs =>
      cases n with
      | zero => simp [okEq] at hx
      | succ n =>
        cases y with
        | tup ys =>
          cases m with
          | zero => simp [okEq] at hy
          | succ m =>
            have := pyEqs_eqv n m xs ys (by simpa [okEq] using hx) (by simpa [okEq] using hy)
            simpa [pyEq, toPy, PyData.eqv] using this
        | _ => first | (simp [pyEq, toPy, PyData.eqv]; done) | (simp [okEq] at hy)
    | lst xs =>
      cases n with
      | zero => simp [okEq] at hx
      | succ n =>
        cases y with
        | lst ys =>
          cases m with
          | zero => simp [okEq] at hy
          | succ m =>
            have := pyEqs_eqv n m xs ys (by simpa [okEq] using hx) (by simpa [okEq] using hy)
            simpa [pyEq, toPy, PyData.eqv] using this
        | _ => first | (simp [pyEq, toPy, PyData.eqv]; done) | (simp [okEq] at hy)
    | _ => first
      | (simp [okEq] at hx; done)
      | (cases y <;> first | (simp [okEq] at hy; done) | (simp [pyEq, toPy, PyData.eqv, b2i]; done) | (simp [pyEq, toPy, PyData.eqv, b2i, str_beq]; done))
theorem pyEqs_eqv : ∀ (n m : Nat) (xs ys : List D), okEqs n xs = true → okEqs m ys = true → pyEqs xs ys = PyData.eqvAll (toPys xs) (toPys ys)
  | n, m, [], [], _, _ => rfl
  | n, m, [], _ :: _, _, _ => rfl
  | n, m, _ :: _, [], _, _ => rfl
  | n, m, x :: xs, y :: ys, hx, hy => by
    have hx' : okEq n x = true ∧ okEqs n xs = true := by simpa [okEqs] using hx
    have hy' : okEq m y = true ∧ okEqs m ys = true := by simpa [okEqs] using hy
    have h1 := pyEq_eqv n m x y hx'.1 hy'.1
    have h2 := pyEqs_eqv n m xs ys hx'.2 hy'.2
    simp [pyEqs, toPys, PyData.eqvAll, h1, h2]
end
end
section
variable {X : Cx} {T : Tb}
theorem ok2 {a b : Bool} {d e : D} (h : (if (a && b) = true then some d else none) = some e) : a = true ∧ b = true ∧ d = e := by
  split at h
  · rename_i q
    rw [Bool.and_eq_true] at q
    exact ⟨q.1, q.2, Option.some.inj h⟩
  · cases h
theorem or_eq (hK : X.K = T.K) (hu : X.A.units + 64 < cLine) : OpR X (compareOp .Eq) (rSem T (op2 .eq)) := by
  intro pins s σ H x y v u Q I rx ry ⟨st, ρ, Ow, dx, dy, dz, sr, wx, wy, e, k⟩
  have e : (if (okEq 64 (G.view st dx) && okEq 64 (G.view st dy)) = true then some (D.bl (pyEq (G.view st dx) (G.view st dy))) else (tupNil (G.view st dx) (G.view st dy)).map D.bl) = some dz := e
  split at e
  rotate_left
  · obtain ⟨b, e1, e2⟩ := Option.map_eq_some_iff.mp e
    have u1 := wx.view sr
    have u2 := wy.view sr
    generalize G.view st dx = ex at u1 e1
    generalize G.view st dy = ey at u2 e1
    unfold tupNil at e1
    split at e1
    · rename_i xs
      cases e1
      subst e2
      obtain ⟨a, vs, rfl, q1, z1, r1⟩ := u1.tup
      obtain ⟨a2, vs2, rfl, q2, z2, r2⟩ := u2.tup
      cases r2
      obtain rfl : v = .ref a := rx
      obtain rfl : u = .ref a2 := ry
      obtain ⟨i1, rv1, p1, _⟩ := I.tuple (by rw [hK]; exact q1.sq)
      obtain ⟨i2, rv2, p2, _⟩ := I.tuple (by rw [hK]; exact q2.sq)
      cases rv2
      refine SeqAt.eq_tupleAt (e := fun _ => true) (show s.heap.IsTuple a i1.toArray from p1) (show s.heap.IsTuple a2 ([] : List Value).toArray from p2) (by omega) (fun j _ h2 => absurd h2 (by simp)) ?_
      have : ((List.range (min i1.toArray.size ([] : List Value).toArray.size)).all (fun _ => true) && i1.toArray.size == ([] : List Value).toArray.size) = xs.isEmpty := by
        cases r1 <;> cases rv1 <;> simp
      rw [this]
      exact ⟨.bl _, H, I, rfl, k _ _ (.inl rfl) (.bl _)⟩
    · cases e1
  rename_i hh
  rw [Bool.and_eq_true] at hh
  obtain ⟨h1, h2⟩ := hh
  cases e
  obtain ⟨p1, l1, z1⟩ := du_of h1 (wx.view sr)
  obtain ⟨p2, l2, z2⟩ := du_of h2 (wy.view sr)
  refine L2.op_eqD hu pins s σ H x y v u Q I rx ry ⟨_, _, by rw [hK]; exact p1, by rw [hK]; exact p2, shaped_of l1 z1, shaped_of l2 z2, ?_⟩
  rw [← pyEq_eqv _ _ _ _ h1 h2]
  exact k _ _ (.inl rfl) (.bl _)
theorem or_ne (hK : X.K = T.K) (hu : X.A.units + 64 < cLine) : OpR X (compareOp .NotEq) (rSem T (op2 .ne)) := by
  intro pins s σ H x y v u Q I rx ry ⟨st, ρ, Ow, dx, dy, dz, sr, wx, wy, e, k⟩
  obtain ⟨h1, h2, rfl⟩ := ok2 (show (if (okEq 64 (G.view st dx) && okEq 64 (G.view st dy)) = true then some (.bl (!pyEq (G.view st dx) (G.view st dy))) else none) = some dz from e)
  obtain ⟨p1, l1, z1⟩ := du_of h1 (wx.view sr)
  obtain ⟨p2, l2, z2⟩ := du_of h2 (wy.view sr)
  refine L2.op_neD hu pins s σ H x y v u Q I rx ry ⟨_, _, by rw [hK]; exact p1, by rw [hK]; exact p2, shaped_of l1 z1, shaped_of l2 z2, ?_⟩
  rw [← pyEq_eqv _ _ _ _ h1 h2]
  exact k _ _ (.inl rfl) (.bl _)
theorem any_toPys {n m : Nat} {x : D} (hx : okEq n x = true) : ∀ ys : List D, okEqs m ys = true → ((toPys ys).any fun z => PyData.eqv z (toPy x)) = ys.any fun z => pyEq z x
  | [], _ => rfl
  | y :: ys, h => by
    have h' : okEq m y = true ∧ okEqs m ys = true := by simpa [okEqs] using h
    simp only [toPys, List.any_cons]
    rw [any_toPys hx ys h'.2, pyEq_eqv _ _ _ _ h'.1 hx]
/-- a sequence, to be asked for its items -/
theorem seq_dp {H : Hp} {ρ Ow : List Addr} {st : Store} {n : Nat} {v : V} {d : D} {ds : List D} (s : StR T H ρ Ow st) (r : RW T H ρ Ow v d) (e : seqv st d = some ds) (h : okEqs n ds = true) :
    (L2.Dp T.K H v (.list (toPys ds)) ∨ L2.Dp T.K H v (.tuple (toPys ds))) ∧ PyData.canLayAll0 (toPys ds) = true ∧ PyData.depthAll (toPys ds) ≤ n := by
  obtain ⟨a, vs, rfl, q, z, rs⟩ := r.seq s e
  obtain ⟨g1, g2, g3⟩ := dps_of n ds vs h rs
  refine ⟨?_, g2, g3⟩
  rcases q with q | q
  · exact .inl (.lst q g1)
  · exact .inr (.tup q g1)
theorem mem_split {st : Store} {dx dy dz : D} {c0 : Bool} (f : Nat → List Nat → D) (g : List D → D)
    (e : (match dx, dy with
      | .str a, .str b => (match a with
        | [c] => some (f c b)
        | _ => none)
      | .dct _ _, y => (match seqv st y with
        | some ys => if ys.all isStr then some (.bl c0) else none
        | none => none)
      | _, _ => match seqv st dy with
        | some ys => if (okEq 64 (G.view st dx) && okEqs 64 ys) = true then some (g ys) else none
        | none => none) = some dz) (n0 : ∀ ks vs, dx ≠ .dct ks vs) :
    (∃ c b, dx = .str [c] ∧ dy = .str b ∧ f c b = dz) ∨ ∃ ys, seqv st dy = some ys ∧ okEq 64 (G.view st dx) = true ∧ okEqs 64 ys = true ∧ g ys = dz := by
  split at e
  · split at e
    · exact .inl ⟨_, _, rfl, rfl, Option.some.inj e⟩
    · cases e
  · exact (‹∀ ks vs, D.dct _ _ ≠ D.dct ks vs› _ _ rfl).elim
  · split at e
    · rename_i ys hy
      obtain ⟨h1, h2, h3⟩ := ok2 e
      exact .inr ⟨ys, hy, h1, h2, h3⟩
    · cases e
theorem dct_at {pins : List (Addr × PySem.Obj)} {σ : L2.St} {H : Hp} {s : Shared} {a : Addr} {kvs : List (L2.Key × V)} (I : Inv X pins σ H s) (q : H a = some (.dK kvs)) :
    ∃ es n, s.heap.get? a = some { cls := .type "dict", dict := none, data := .dict es n, slots := #[] } := by
  obtain ⟨_, _, vs, _, o, es, ep, ho, ⟨c1, c2, c3⟩, hd, _⟩ := L2.dk_of I.hok q
  obtain ⟨oc, od, dt, sl⟩ := o
  simp only at c1 c2 c3 hd
  subst c1 c2 c3 hd
  exact ⟨es, ep, ho⟩
/-- texts, asked for a dict -/
theorem strs_at {H : Hp} {s : Shared} {ρ Ow : List Addr} {A : Around} {a : Addr} {es : Array DictEntry} {m : Nat} (ho : s.heap.get? a = some { cls := .type "dict", dict := none, data := .dict es m, slots := #[] }) (hu : A.units < cLine) :
    ∀ {ys : List D} {vs : List V} {us : List Value}, ys.all isStr = true → RVs T H ρ Ow vs ys → Vals vs us → ∀ u ∈ us, SeqAt.EqAt A s u (.ref a) false := by
  intro ys
  induction ys with
  | nil =>
    intro vs us _ r rv u hu'
    cases r
    cases rv
    cases hu'
  | cons d ys ih =>
    intro vs us h r rv u hu'
    have h' : isStr d = true ∧ ys.all isStr = true := by
      rw [List.all_cons, Bool.and_eq_true] at h
      exact h
    cases r with
    | cons r rs =>
      cases rv with
      | cons r1 rv1 =>
        rcases List.mem_cons.mp hu' with e | hm
        · subst e
          cases d with
          | str x =>
            cases r with
            | str _ hx hc =>
              obtain ⟨t, rfl⟩ := r1
              exact SeqAt.EqAt.str_dict _ t ho hu
          | _ => cases h'.1
        · exact ih h'.2 rs rv1 u hm
theorem any_false {us : List Value} : us.toArray.any (fun _ => false) = false := by simp
theorem mem_dct (hK : X.K = T.K) (hu : X.A.units + 65 < cLine) {pins : List (Addr × PySem.Obj)} {σ : L2.St} {H : Hp} {s : Shared} {ρ Ow : List Addr} {st : Store} {x y : V} {v u : Value} {ks vs : List D} {dy : D} {ys : List D} {neg : Bool} {Q : VK}
    (I : Inv X pins σ H s) (rx : RelV x v) (ry : RelV y u) (sr : StR T H ρ Ow st) (wx : RW T H ρ Ow x (.dct ks vs)) (wy : RW T H ρ Ow y dy) (hy : seqv st dy = some ys) (hs : ys.all isStr = true) (q : Q (.bl neg) H) :
    wpAny (model X.prog X.w) X.A (compareOp (match neg with | true => .NotIn | false => .In) v u) (L2.EP X pins σ Q) X.xe s := by
  rcases wx with wx | ⟨_, _, _, _, h, _⟩
  rotate_left
  · cases h
  cases wx with
  | dct qd n1 n2 hk rd =>
    cases rx
    obtain ⟨es, m, ho⟩ := dct_at I qd
    obtain ⟨a, ws, rfl, qs, z, rr⟩ := wy.seq sr hy
    cases ry
    have hu1 : X.A.in1.units < cLine := by
      have : X.A.in1.units = X.A.units + 1 := rfl
      omega
    rcases qs with qs | qs
    · obtain ⟨its, rv, p, hz⟩ := I.list (by rw [hK]; exact qs)
      have he := strs_at (A := X.A.in1) ho hu1 hs rr rv
      cases neg with
      | true => exact SeqAt.notIn_listAt (fun _ => false) p.isList (fun y hy => he y (by simpa using hy)) (by rw [any_false]; exact ⟨.bl _, H, I, rfl, q⟩)
      | false => exact SeqAt.in_listAt (fun _ => false) p.isList (fun y hy => he y (by simpa using hy)) (by rw [any_false]; exact ⟨.bl _, H, I, rfl, q⟩)
    · obtain ⟨its, rv, p, hz⟩ := I.tuple (by rw [hK]; exact qs)
      have he := strs_at (A := X.A.in1) ho hu1 hs rr rv
      cases neg with
      | true => exact SeqAt.notIn_tupleAt (fun _ => false) (show s.heap.IsTuple a its.toArray from p) (fun y hy => he y (by simpa using hy)) (by rw [any_false]; exact ⟨.bl _, H, I, rfl, q⟩)
      | false => exact SeqAt.in_tupleAt (fun _ => false) (show s.heap.IsTuple a its.toArray from p) (fun y hy => he y (by simpa using hy)) (by rw [any_false]; exact ⟨.bl _, H, I, rfl, q⟩)
theorem str_or {st : Store} {dy : D} {c : D} {dz : D} (e : (match seqv st dy with
    | some ys => if ys.all isStr = true then some c else none
    | none => none) = some dz) : ∃ ys, seqv st dy = some ys ∧ ys.all isStr = true ∧ c = dz := by
  split at e
  · rename_i ys hy
    split at e
    · rename_i h
      exact ⟨ys, hy, h, Option.some.inj e⟩
    · cases e
  · cases e
theorem or_mem (hK : X.K = T.K) (hu : X.A.units + 65 < cLine) : OpR X (compareOp .In) (rSem T (op2 .mem)) := by
  intro pins s σ H x y v u Q I rx ry ⟨st, ρ, Ow, dx, dy, dz, sr, wx, wy, e, k⟩
  by_cases n0 : ∃ ks vs, dx = .dct ks vs
  · obtain ⟨ks, vs, rfl⟩ := n0
    obtain ⟨ys, hy, hs, rfl⟩ := str_or e
    exact mem_dct (neg := false) hK hu I rx ry sr wx wy hy hs (k _ _ (.inl rfl) (.bl _))
  rcases mem_split (fun c b => .bl (b.contains c)) (fun ys => .bl (ys.any fun z => pyEq z (G.view st dx))) (c0 := false) e (fun ks vs h => n0 ⟨ks, vs, h⟩) with ⟨a, b, rfl, rfl, rfl⟩ | ⟨ys, hy, h1, h2, rfl⟩
  · obtain ⟨e1, _, _⟩ := wx.u.str
    obtain ⟨e2, _, _⟩ := wy.u.str
    subst e1 e2
    refine L2.op_in_sign pins s σ H _ _ v u Q I rx ry ⟨a, _, rfl, rfl, ?_⟩
    have e3 : decide (a ∈ (⟨b.toArray⟩ : PySem.Str).cps.toList) = b.contains a := by
      rw [Bool.eq_iff_iff]; simp
    rw [e3]
    exact k _ _ (.inl rfl) (.bl _)
  · obtain ⟨p1, l1, z1⟩ := du_of h1 (wx.view sr)
    obtain ⟨p2, l2, z2⟩ := seq_dp sr wy hy h2
    obtain ⟨as, r1⟩ := L2.Dp.reads I _ x v (by rw [hK]; exact p1) rx
    have fin : Q (.bl ((toPys ys).any fun z => PyData.eqv z (toPy (G.view st dx)))) H := by
      rw [any_toPys h1 ys h2]
      exact k _ _ (.inl rfl) (.bl _)
    rcases p2 with p2 | p2
    · obtain ⟨bs, r2⟩ := L2.Dp.reads I _ y u (by rw [hK]; exact p2) ry
      exact SeqAt.in_list_reads r2 r1 l2 l1 (PyProof.Rows.room_in_shaped (shaped_of l1 z1) hu) ⟨.bl _, H, I, rfl, fin⟩
    · obtain ⟨bs, r2⟩ := L2.Dp.reads I _ y u (by rw [hK]; exact p2) ry
      exact SeqAt.in_tuple_reads r2 r1 l2 l1 (PyProof.Rows.room_in_shaped (shaped_of l1 z1) hu) ⟨.bl _, H, I, rfl, fin⟩
theorem or_nmem (hK : X.K = T.K) (hu : X.A.units + 65 < cLine) : OpR X (compareOp .NotIn) (rSem T (op2 .nmem)) := by
  intro pins s σ H x y v u Q I rx ry ⟨st, ρ, Ow, dx, dy, dz, sr, wx, wy, e, k⟩
  by_cases n0 : ∃ ks vs, dx = .dct ks vs
  · obtain ⟨ks, vs, rfl⟩ := n0
    obtain ⟨ys, hy, hs, rfl⟩ := str_or e
    exact mem_dct (neg := true) hK hu I rx ry sr wx wy hy hs (k _ _ (.inl rfl) (.bl _))
  rcases mem_split (fun c b => .bl (!b.contains c)) (fun ys => .bl (!ys.any fun z => pyEq z (G.view st dx))) (c0 := true) e (fun ks vs h => n0 ⟨ks, vs, h⟩) with ⟨a, b, rfl, rfl, rfl⟩ | ⟨ys, hy, h1, h2, rfl⟩
  · obtain ⟨e1, _, _⟩ := wx.u.str
    obtain ⟨e2, _, _⟩ := wy.u.str
    subst e1 e2
    refine L2.op_notIn_sign pins s σ H _ _ v u Q I rx ry ⟨a, _, rfl, rfl, ?_⟩
    have e3 : decide (a ∈ (⟨b.toArray⟩ : PySem.Str).cps.toList) = b.contains a := by
      rw [Bool.eq_iff_iff]; simp
    rw [e3]
    exact k _ _ (.inl rfl) (.bl _)
  · obtain ⟨p1, l1, z1⟩ := du_of h1 (wx.view sr)
    obtain ⟨p2, l2, z2⟩ := seq_dp sr wy hy h2
    obtain ⟨as, r1⟩ := L2.Dp.reads I _ x v (by rw [hK]; exact p1) rx
    have fin : Q (.bl (!(toPys ys).any fun z => PyData.eqv z (toPy (G.view st dx)))) H := by
      rw [any_toPys h1 ys h2]
      exact k _ _ (.inl rfl) (.bl _)
    rcases p2 with p2 | p2
    · obtain ⟨bs, r2⟩ := L2.Dp.reads I _ y u (by rw [hK]; exact p2) ry
      exact SeqAt.notIn_list_reads r2 r1 l2 l1 (PyProof.Rows.room_in_shaped (shaped_of l1 z1) hu) ⟨.bl _, H, I, rfl, fin⟩
    · obtain ⟨bs, r2⟩ := L2.Dp.reads I _ y u (by rw [hK]; exact p2) ry
      exact SeqAt.notIn_tuple_reads r2 r1 l2 l1 (PyProof.Rows.room_in_shaped (shaped_of l1 z1) hu) ⟨.bl _, H, I, rfl, fin⟩
theorem ixN_eq (n : Nat) (i : Int) : G.ixN n i = L2.ixN n i := rfl
theorem ir_idx (hK : X.K = T.K) : L2.IxR X (rSem T (op2 .idx)) := by
  intro value slice pins s σ H x y v u Q I rx ry ⟨st, ρ, Ow, dx, dy, dz, sr, wx, wy, e, k⟩ hs
  simp only [op2] at e
  split at e
  · rename_i i
    have e2 := wy.int
    subst e2
    split at e
    · rename_i a
      obtain ⟨e1, z1, c1⟩ := wx.u.str
      subst e1
      rw [Option.map_eq_some_iff] at e
      obtain ⟨c, hc, rfl⟩ := e
      refine L2.ix_str value slice pins s σ H _ _ v u Q I rx ry ⟨_, i, c, rfl, rfl, by rw [← lim_line]; simpa [Str.length] using z1, hc, ?_⟩ hs
      refine k (.str ⟨[c].toArray⟩) H (.inl rfl) (.str [c] ?_ ?_)
      · rw [lim_line, sizeLine_eq]; show 1 ≤ 16777216; decide
      · obtain ⟨j, _, hj⟩ := Option.bind_eq_some_iff.mp (show (G.ixN a.length i).bind (fun j => a[j]?) = some c from hc)
        have := List.all_eq_true.mp c1 c (List.mem_of_getElem? hj)
        simp [this]
    · rw [Option.bind_eq_some_iff] at e
      obtain ⟨xs, hx, e⟩ := e
      obtain ⟨a, vs, rfl, q, z, rs⟩ := wx.seq sr hx
      obtain ⟨j, hj, hd⟩ := Option.bind_eq_some_iff.mp (show (G.ixN xs.length i).bind (fun j => xs[j]?) = some dz from e)
      obtain ⟨w, hw, rw_⟩ := rs.get hd
      have at_ : L2.atI vs i = some w := by
        show (L2.ixN vs.length i).bind (fun j => vs[j]?) = some w
        rw [rs.length, ← ixN_eq, hj]
        exact hw
      refine L2.ix_seq value slice pins s σ H _ _ v u Q I rx ry ?_ hs
      rcases q with q | q
      · exact .inl ⟨a, vs, i, w, rfl, rfl, by rw [hK]; exact q, at_, k _ _ (.inl rfl) rw_⟩
      · exact .inr (.inl ⟨a, vs, i, w, rfl, rfl, by rw [hK]; exact q, at_, k _ _ (.inl rfl) rw_⟩)
  · cases e
end
end G
namespace G
open PySem PySem.Spec PyProof.Rows
open L2 (V Hp HO upd SqL SqT Rd VK TE TT TA TI WX XK Cx PE PT PA PI Inv OpR CallR RelV Vals R2 PC)
/-- an expression of no special place -/
def plainE : Expr → Bool
  | .Starred .. => false
  | .Set .. => false
  | .Slice .. => false
  | _ => true
theorem plain_star {e : Expr} (h : plainE e = true) (es : List Expr) (env : PySem.Env) : starEach (e :: es) env = (false, eval e env) :: starEach es env := by
  cases e <;> first | rfl | cases h
theorem plain_marks {e : Expr} (h : plainE e = true) (op : CmpOp) : behindInMarks op e = false := by
  cases e <;> first | rfl | cases h
theorem plain_ix {e : Expr} (h : plainE e = true) : L2.PlainIx e := by
  intro o i
  cases e <;> first | rfl | cases h
theorem plain_fold {e : Expr} (h : plainE e = true) (env : PySem.Env) (x : Value) : foldedSetIterable e env x = pure x := by
  cases e <;> first | rfl | cases h
def binOf : Op2 → Option Operator
  | .add => some .Add
  | .sub => some .Sub
  | .mul => some .Mult
  | .fdiv => some .FloorDiv
  | .mod => some .Mod
  | .pow => some .Pow
  | _ => none
def cmpOf : Op2 → Option CmpOp
  | .eq => some .Eq
  | .ne => some .NotEq
  | .lt => some .Lt
  | .le => some .LtE
  | .gt => some .Gt
  | .ge => some .GtE
  | .is => some .Is
  | .isnot => some .IsNot
  | .mem => some .In
  | .nmem => some .NotIn
  | _ => none
section
variable {X : Cx} {T : Tb} {xf : Nat → List Nm} {W : WX} {N : List PySem.Str} {sc : Scope} {n : Nat}
theorem or_bin (C : CxG X T N sc n) {o : Op2} {op : Operator} (h : binOf o = some op) : OpR X (binaryOp op) (rSem T (op2 o)) := by
  cases o <;> cases h
  · exact or_add C.eK
  · exact or_sub
  · exact or_mul C.eK
  · exact or_fdiv
  · exact or_mod
  · exact or_pow
theorem or_cmp (C : CxG X T N sc n) {o : Op2} {op : CmpOp} (h : cmpOf o = some op) : OpR X (compareOp op) (rSem T (op2 o)) := by
  have hu := C.rm.un
  cases o <;> cases h
  · exact or_eq C.eK (by omega)
  · exact or_ne C.eK (by omega)
  · exact or_lt
  · exact or_le
  · exact or_gt
  · exact or_ge
  · exact or_is
  · exact or_isnot
  · exact or_mem C.eK (by omega)
  · exact or_nmem C.eK (by omega)
/-- an operator's reading from an outcome -/
theorem sem_of {w : Wo} {H : Hp} {ρ Ow : List Addr} {st : Store} {f : Store → D → D → Option D} {dx dy : D} {x y : V} {Q : VK} (hw : w.T = T) (s : StR T H ρ Ow st) (rx : RW T H ρ Ow x dx) (ry : RW T H ρ Ow y dy)
    (p : Post w H ρ Ow (fun d _ H' ρ' => ∀ v, RV T H' ρ' Ow v d → Q v H') (O.of (f st dx dy) st)) : rSem T f x y H Q := by
  cases e : f st dx dy with
  | none => rw [e] at p; exact p.elim
  | some dz =>
    rw [e] at p
    exact ⟨st, ρ, Ow, dx, dy, dz, s, rx, ry, e, fun v H' nw r => p H' ρ (nw.ext ρ) (by rw [hw]; exact nw.st s) v r⟩
variable {a b c : Expr} {sa sb sc' : Sem} {ra rb rc : Bool} {pos : Pos}
theorem two_imp {r : R2} {f : D → D → Store → O D} (h : ∀ (σ : L2.St) (st : Store) (H : Hp) (ρ Ow : List Addr) (dx dy : D) (x y : V) (Q : VK), StR T H ρ Ow st → RX ra T H ρ Ow x dx → RX rb T H ρ Ow y dy →
      Post ⟨T, xf, W, σ⟩ H ρ Ow (fun d _ H' ρ' => ∀ v, RV T H' ρ' Ow v d → Q v H') (f dx dy st) → r x y H Q) :
    ∀ σ H Q, tVal T xf W true (two sa sb f) σ H Q → L2.tOp r (tVal T xf W ra sa.val) (tVal T xf W rb sb.val) σ H Q := by
  intro σ H Q ⟨env, st, ρ, Ow, en, sr, p⟩
  refine ⟨env, st, ρ, Ow, en, sr, (Post.bind p).mono fun d st1 H1 ρ1 e1 s1 q v r1 => ?_⟩
  refine ⟨env, st1, ρ1, Ow, en.ext e1 sr.disj, s1, (Post.bind q).mono fun d2 st2 H2 ρ2 e2 s2 q2 v2 r2 => ?_⟩
  exact h σ st2 H2 ρ2 Ow d d2 v v2 Q s2 (RX.ext e2 r1) r2 q2
theorem je_bin (C : CxG X T N sc n) {o : Op2} {op : Operator} (h : binOf o = some op) (ja : JE X T xf W a sa ra) (jb : JE X T xf W b sb rb) :
    JE X T xf W (.BinOp a op b pos) (Sem.of (two sa sb fun x y st => .of (op2 o st x y) st)) true :=
  .of C (PE.imp (L2.pe_op (or_bin C h) ja.val jb.val) (two_imp fun σ st H ρ Ow dx dy x y Q s rx ry p => sem_of rfl s rx.w ry.w p))
theorem je_ix (C : CxG X T N sc n) (hb : plainE b = true) (ja : JE X T xf W a sa ra) (jb : JE X T xf W b sb rb) :
    JE X T xf W (.Subscript a b pos) (Sem.of (two sa sb fun x y st => .of (op2 .idx st x y) st)) true :=
  .of C (PE.imp (L2.pe_ix (ir_idx C.eK) ja.val jb.val (plain_ix hb)) (two_imp fun σ st H ρ Ow dx dy x y Q s rx ry p => sem_of rfl s rx.w ry.w p))
/-- a comparison: value and test -/
theorem je_cmp (C : CxG X T N sc n) {op : CmpOp} {r : R2} {f : D → D → Store → O D} (hb : plainE b = true) (ho : OpR X (compareOp op) r)
    (h : ∀ (σ : L2.St) (st : Store) (H : Hp) (ρ Ow : List Addr) (dx dy : D) (x y : V) (Q : VK), StR T H ρ Ow st → RX ra T H ρ Ow x dx → RX rb T H ρ Ow y dy →
      Post ⟨T, xf, W, σ⟩ H ρ Ow (fun d _ H' ρ' => ∀ v, RV T H' ρ' Ow v d → Q v H') (f dx dy st) → r x y H Q)
    (hf : ∀ x y st, ∀ d st', f x y st = .ok d st' → ∃ k, d = .bl k) (ja : JE X T xf W a sa ra) (jb : JE X T xf W b sb rb) :
    JE X T xf W (.Compare a [op] [b] pos) (Sem.of (two sa sb f)) true := by
  refine ⟨PE.imp (L2.pe_cmpR ho ja.val jb.val (plain_marks hb op)) (two_imp h), ?_, fun tg => items_of C (PE.imp (L2.pe_cmpR ho ja.val jb.val (plain_marks hb op)) (two_imp h))⟩
  refine PT.imp (L2.pt_cmpR ho ja.val jb.val (plain_marks hb op)) fun σ H Q q => ?_
  obtain ⟨env, st, ρ, Ow, en, sr, p⟩ := q
  have p1 := Post.bind p
  refine two_imp (T := T) (xf := xf) (W := W) (ra := ra) (rb := rb) h σ H _ ⟨env, st, ρ, Ow, en, sr, ?_⟩
  have key : ∀ o : O D, (∀ d st', o = .ok d st' → ∃ k, d = .bl k) → Post ⟨T, xf, W, σ⟩ H ρ Ow (fun d st1 H1 ρ1 => Post ⟨T, xf, W, σ⟩ H1 ρ1 Ow (fun b _ H' _ => Q b H') (O.of (truth st1 d) st1)) o →
      Post ⟨T, xf, W, σ⟩ H ρ Ow (fun d _ H' ρ' => ∀ v, RX true T H' ρ' Ow v d → ∃ k, v = V.bl k ∧ Q k H') o := fun o hk p => by
    cases o with
    | ok d st1 =>
      obtain ⟨k, rfl⟩ := hk d st1 rfl
      intro H' ρ' e s v r
      cases r
      exact ⟨k, rfl, Post.ok s (p H' ρ' e s)⟩
    | ex c fs st1 => exact p
    | bad => exact p
  refine key _ (fun d st' hd => ?_) p1
  unfold two at hd
  cases h1 : sa.val env st with
  | ok x s1 =>
    rw [h1] at hd
    cases h2 : sb.val env s1 with
    | ok y s2 =>
      have hd' : (sb.val env s1).bind (fun y st => f x y st) = .ok d st' := hd
      rw [h2] at hd'
      exact hf x y s2 d st' hd'
    | ex _ _ _ =>
      have hd' : (sb.val env s1).bind (fun y st => f x y st) = .ok d st' := hd
      rw [h2] at hd'; cases hd'
    | bad =>
      have hd' : (sb.val env s1).bind (fun y st => f x y st) = .ok d st' := hd
      rw [h2] at hd'; cases hd'
  | ex _ _ _ => rw [h1] at hd; cases hd
  | bad => rw [h1] at hd; cases hd
end
end G
namespace G
open PySem PySem.Spec PyProof.Rows
open L2 (V Hp HO upd SqL SqT Rd VK TE TT TA TI WX XK Cx PE PT PA PI Inv OpR CallR RelV Vals R2 PC PW)
section
variable {X : Cx} {T : Tb} {xf : Nat → List Nm} {W : WX} {N : List PySem.Str} {sc : Scope} {n : Nat}
variable {a b c : Expr} {sa sb sc' : Sem} {ra rb rc : Bool} {pos : Pos}
/-- nothing is walked -/
theorem items_bad {tg e : Expr} {str : Bool} : PI X tg e (tIt T xf W str fun _ _ => .bad) := ⟨fun _ _ _ _ _ _ ⟨_, _, _, _, _, _, p⟩ => p.elim⟩
theorem je_no (C : CxG X T N sc n) (ja : JE X T xf W a sa ra) : JE X T xf W (.UnaryOp .Not a pos) (Sem.no sa) true := by
  refine ⟨PE.imp (L2.pe_notT ja.val) fun σ H Q q => ?_, PT.imp (L2.pt_not ja.test) fun σ H Q q => ?_, fun tg => items_bad⟩
  · obtain ⟨env, st, ρ, Ow, en, sr, p⟩ := q
    refine ⟨env, st, ρ, Ow, en, sr, (Post.bind p).mono fun d st1 H1 ρ1 e1 s1 q v r => ?_⟩
    obtain ⟨k, hk, q1⟩ := Post.of s1 (Post.bind q)
    exact ⟨k, by rw [C.eK]; exact truth_ok s1 r.w hk, Post.ok s1 q1 _ (.bl _)⟩
  · obtain ⟨env, st, ρ, Ow, en, sr, p⟩ := q
    exact ⟨env, st, ρ, Ow, en, sr, (Post.bind p).mono fun d st1 H1 ρ1 e1 s1 q => Post.ok s1 q⟩
theorem je_ife (C : CxG X T N sc n) (jc : JE X T xf W c sc' rc) (ja : JE X T xf W a sa ra) (jb : JE X T xf W b sb rb) : JE X T xf W (.IfExp c a b pos) (Sem.ife sc' sa sb) (ra && rb) := by
  have hv : PE X (.IfExp c a b pos) (tVal T xf W (ra && rb) (Sem.ife sc' sa sb).val) := by
    refine PE.imp (L2.pe_ifExp jc.test ja.val jb.val) fun σ H Q q => ?_
    obtain ⟨env, st, ρ, Ow, en, sr, p⟩ := q
    refine ⟨env, st, ρ, Ow, en, sr, (Post.bind p).mono fun t st1 H1 ρ1 e1 s1 q => ?_⟩
    cases t with
    | true =>
      refine ⟨env, st1, ρ1, Ow, en.ext e1 sr.disj, s1, Post.mono (show Post _ _ _ _ _ (sa.val env st1) from q) fun d st2 H2 ρ2 e2 s2 q2 v r => q2 v ?_⟩
      cases ra <;> cases rb <;> first | exact r | exact r.w
    | false =>
      refine ⟨env, st1, ρ1, Ow, en.ext e1 sr.disj, s1, Post.mono (show Post _ _ _ _ _ (sb.val env st1) from q) fun d st2 H2 ρ2 e2 s2 q2 v r => q2 v ?_⟩
      cases ra <;> cases rb <;> first | exact r | exact r.w
  refine ⟨hv, ⟨fun pins s σ H Q I q => ?_⟩, fun tg => ?_⟩
  · obtain ⟨env, st, ρ, Ow, en, sr, p⟩ := q
    show wpAny _ _ (do if ← isTrue c X.env (eval c X.env) then isTrue a X.env (eval a X.env) else isTrue b X.env (eval b X.env)) _ _ _
    refine wpAny_bind (L2.thn (jc.test.run pins s σ H (fun t H1 => if t = true then tTst T xf W sa.test σ H1 Q else tTst T xf W sb.test σ H1 Q) I ⟨env, st, ρ, Ow, en, sr, (Post.bind p).mono fun t st1 H1 ρ1 e1 s1 q => ?_⟩) fun t s1 ⟨H1, I1, q1⟩ => ?_)
    · cases t with
      | true => exact ⟨env, st1, ρ1, Ow, en.ext e1 sr.disj, s1, q⟩
      | false => exact ⟨env, st1, ρ1, Ow, en.ext e1 sr.disj, s1, q⟩
    · cases t with
      | true => exact ja.test.run pins s1 σ H1 Q I1 q1
      | false => exact jb.test.run pins s1 σ H1 Q I1 q1
  · exact items_of C hv
inductive JEs (X : Cx) (T : Tb) (xf : Nat → List Nm) (W : WX) : List Expr → List Sem → Prop
  | nil : JEs X T xf W [] []
  | cons {e : Expr} {s : Sem} {es : List Expr} {ss : List Sem} (h : plainE e = true) (j : JE X T xf W e s true) (js : JEs X T xf W es ss) : JEs X T xf W (e :: es) (s :: ss)
theorem pa_args : ∀ {es : List Expr} {ss : List Sem}, JEs X T xf W es ss → PA X es (tArg T xf W (args ss))
  | _, _, .nil => PA.imp L2.pa_nil fun σ H Q ⟨env, st, ρ, Ow, en, sr, p⟩ => Post.ok sr p [] .nil
  | _, _, .cons h j js => PA.imp (L2.pa_cons j.val (pa_args js) (plain_star h _ _)) fun σ H Q ⟨env, st, ρ, Ow, en, sr, p⟩ => by
    refine ⟨env, st, ρ, Ow, en, sr, (Post.bind p).mono fun d st1 H1 ρ1 e1 s1 q v r => ?_⟩
    refine ⟨env, st1, ρ1, Ow, en.ext e1 sr.disj, s1, (Post.bind q).mono fun ds st2 H2 ρ2 e2 s2 q2 vs rs => ?_⟩
    exact Post.ok s2 q2 _ (.cons (RV.ext e2 r) rs)
theorem args_len : ∀ {ss : List Sem} {env : Env} {st st' : Store} {ds : List D}, args ss env st = .ok ds st' → ds.length = ss.length
  | [], _, _, _, _, h => by cases h; rfl
  | s :: ss, env, st, st', ds, h => by
    have h1 : ((s.val env st).bind fun x st => (args ss env st).bind fun xs st => O.ok (x :: xs) st) = .ok ds st' := h
    cases e : s.val env st with
    | ok x s1 =>
      rw [e] at h1
      have h2 : ((args ss env s1).bind fun xs st => O.ok (x :: xs) st) = .ok ds st' := h1
      cases e2 : args ss env s1 with
      | ok xs s2 =>
        rw [e2] at h2
        cases h2
        simp [args_len e2]
      | ex _ _ _ => rw [e2] at h2; cases h2
      | bad => rw [e2] at h2; cases h2
    | ex _ _ _ => rw [e] at h1; cases h1
    | bad => rw [e] at h1; cases h1
/-- arguments, then an operation -/
theorem many_imp {str : Bool} {ss : List Sem} {f : List D → Store → O D} {r : List V → Hp → VK → Prop} (h : ∀ (σ : L2.St) (st : Store) (H : Hp) (ρ Ow : List Addr) (ds : List D) (vs : List V) (Q : VK), ds.length = ss.length → StR T H ρ Ow st → RVs T H ρ Ow vs ds →
      Post ⟨T, xf, W, σ⟩ H ρ Ow (fun d _ H' ρ' => ∀ v, RX str T H' ρ' Ow v d → Q v H') (f ds st) → r vs H Q) :
    ∀ σ H Q, tVal T xf W str (many ss f) σ H Q → tArg T xf W (args ss) σ H fun vs H1 => r vs H1 Q := by
  intro σ H Q ⟨env, st, ρ, Ow, en, sr, p⟩
  exact ⟨env, st, ρ, Ow, en, sr, (Post.bind p).eqn.mono fun ds st1 H1 ρ1 e1 s1 q vs rs => h σ st1 H1 ρ1 Ow ds vs Q (args_len q.1) s1 rs q.2⟩
theorem lim_len {k : Nat} (h : k ≤ LIM) : k ≤ sizeLine := by rw [← lim_line]; exact h
theorem lim_k {k : Nat} (h : k ≤ 1000) : k ≤ LIM := by rw [lim_line, sizeLine_eq]; omega
theorem je_tup {es : List Expr} {ss : List Sem} {k : Nat} (C : CxG X T N sc n) (hs : ss.length ≤ 1000) (js : JEs X T xf W es ss) :
    JE X T xf W (.Tuple es k pos) (Sem.of (many ss fun ds st => .ok (.tup ds) st)) true :=
  .of C (PE.imp (pe_tupF (pa_args js)) (many_imp fun σ st H ρ Ow ds vs Q hl s rs p => by
    have hz : vs.length ≤ LIM := lim_k (by rw [rs.length, hl]; exact hs)
    exact ⟨lim_len hz, fun q o hq ho => p _ ρ (Ext.new hq) (s.new hq) _ (rv_tup hq ho (s.fresh hq).1 hz rs)⟩))
theorem je_lst {es : List Expr} {ss : List Sem} (C : CxG X T N sc n) (hs : ss.length ≤ 1000) (js : JEs X T xf W es ss) :
    JE X T xf W (.List es pos) (Sem.of (many ss fun ds st => .ok (.lst ds) st)) true :=
  .of C (PE.imp (L2.pe_lst (pa_args js)) (many_imp fun σ st H ρ Ow ds vs Q hl s rs p => by
    have hz : vs.length ≤ LIM := lim_k (by rw [rs.length, hl]; exact hs)
    exact ⟨lim_len hz, fun q hq => p _ ρ (Ext.new hq) (s.new hq) _ (rv_lst hq (s.fresh hq).1 (s.fresh hq).2 hz rs)⟩))
/-- a new place of the store -/
theorem StR.push {H : Hp} {ρ Ow : List Addr} {st : Store} {p : Addr} {o : HO} {ob : Obj} (s : StR T H ρ Ow st) (hp : H p = none) (r : ObR T (upd H p o) (ρ ++ [p]) Ow st.length p ob) : StR T (upd H p o) (ρ ++ [p]) Ow (st ++ [ob]) := by
  refine ⟨by simp [s.len]; omega, ?_, fun a ha => ?_, (s.new hp).lists, fun l a ob' h1 h2 => ?_, fun i q h => ?_⟩
  · rw [List.nodup_append]
    refine ⟨s.nd, by simp, fun a ha b hb e => ?_⟩
    rw [List.mem_singleton.mp hb] at e
    exact (s.fresh hp).1 (e ▸ ha)
  · rcases List.mem_append.mp ha with ha | ha
    · exact s.apart a ha
    · rw [List.mem_singleton.mp ha]; exact (s.fresh hp).2
  · by_cases hl : l < st.length
    · rw [List.getElem?_append_left (by rw [s.len]; omega)] at h1
      rw [List.getElem?_append_left hl] at h2
      have q := s.at_ l a ob' h1 h2
      exact q.ext (Ext.newS hp) (L2.upd_ne fun e => q.there (by rw [e]; exact hp))
    · have hl2 : l = st.length := by
        have := (List.getElem?_eq_some_iff.mp h2).1
        simp at this
        omega
      subst hl2
      rw [← s.len, List.getElem?_concat_length] at h1
      rw [List.getElem?_concat_length] at h2
      cases h1; cases h2
      exact r
  · obtain ⟨h1, h2⟩ := s.tab i q h
    exact ⟨by rw [List.getElem?_append_left (List.getElem?_eq_some_iff.mp h1).1]; exact h1, h2.ext (Ext.newS hp) (L2.upd_ne fun e => h2.there (by rw [e]; exact hp))⟩
theorem je_new {es : List Expr} {ss : List Sem} (C : CxG X T N sc n) (js : JEs X T xf W es ss) :
    JE X T xf W (.List es pos) (Sem.of (many ss newV)) true :=
  .of C (PE.imp (L2.pe_lst (pa_args js)) (many_imp fun σ st H ρ Ow ds vs Q hl s rs p => by
    unfold newV at p
    split at p
    · rename_i hc
      have hz : vs.length ≤ LIM := by rw [rs.length]; exact hc.2
      refine ⟨lim_len hz, fun q hq => ?_⟩
      have e := Ext.newS (ρ := ρ) (o := .lst vs) hq
      exact p _ (ρ ++ [q]) e (s.push hq ⟨hc.1, vs, L2.upd_same, hz, rs.ext e⟩) _ (.loc (by rw [← s.len, List.getElem?_concat_length]))
    · exact p.elim))
end
end G
namespace G
open PySem PySem.Spec PyProof.Rows
open L2 (V Hp HO upd SqL SqT Rd VK TE TT TA TI WX XK Cx PE PT PA PI Inv OpR CallR RelV Vals R2 PC PW)
section
variable {X : Cx} {T : Tb} {xf : Nat → List Nm} {W : WX} {N : List PySem.Str} {sc : Scope} {n : Nat}
variable {a b c : Expr} {sa sb sc' : Sem} {ra rb rc : Bool} {pos : Pos}
theorem bop_val (and : Bool) : ∀ {es : List Expr} {ss : List Sem}, JEs X T xf W es ss → es ≠ [] → PE X (.BoolOp (if and then .And else .Or) es pos) (tVal T xf W true (bopV and ss))
  | _, _, .nil, h => absurd rfl h
  | _, _, .cons h j .nil, _ => L2.pe_one j.val
  | _, _, .cons h j (.cons h2 j2 js), _ => by
    have ih := bop_val and (.cons h2 j2 js) (by simp)
    cases and with
    | true =>
      refine PE.imp (L2.pe_and j.val ih) fun σ H Q ⟨env, st, ρ, Ow, en, sr, p⟩ => ?_
      refine ⟨env, st, ρ, Ow, en, sr, (Post.bind p).mono fun d st1 H1 ρ1 e1 s1 q v r => ?_⟩
      cases d with
      | bl b =>
        cases r
        refine ⟨b, rfl, ?_⟩
        cases b with
        | true => exact ⟨env, st1, ρ1, Ow, en.ext e1 sr.disj, s1, q⟩
        | false => exact Post.ok s1 q _ (.bl false)
      | _ => exact q.elim
    | false =>
      refine PE.imp (L2.pe_or j.val ih) fun σ H Q ⟨env, st, ρ, Ow, en, sr, p⟩ => ?_
      refine ⟨env, st, ρ, Ow, en, sr, (Post.bind p).mono fun d st1 H1 ρ1 e1 s1 q v r => ?_⟩
      cases d with
      | bl b =>
        cases r
        refine ⟨b, rfl, ?_⟩
        cases b with
        | true => exact Post.ok s1 q _ (.bl true)
        | false => exact ⟨env, st1, ρ1, Ow, en.ext e1 sr.disj, s1, q⟩
      | _ => exact q.elim
theorem bop_test (and : Bool) : ∀ {es : List Expr} {ss : List Sem}, JEs X T xf W es ss → es ≠ [] → PW X (.BoolOp (if and then .And else .Or) es pos) (tTst T xf W (bopT and ss))
  | _, _, .nil, h => absurd rfl h
  | _, _, .cons h j .nil, _ => by
    cases and with
    | true => exact L2.pw_and1 j.test
    | false => exact L2.pw_or1 j.test
  | _, _, .cons h j (.cons h2 j2 js), _ => by
    have ih := bop_test and (.cons h2 j2 js) (by simp)
    cases and with
    | true =>
      refine ⟨fun wh pins s σ H Q I ⟨env, st, ρ, Ow, en, sr, p⟩ => (L2.pw_and j.test ih).run wh pins s σ H Q I ?_⟩
      refine ⟨env, st, ρ, Ow, en, sr, (Post.bind p).mono fun b st1 H1 ρ1 e1 s1 q => ?_⟩
      cases b with
      | true => exact ⟨env, st1, ρ1, Ow, en.ext e1 sr.disj, s1, q⟩
      | false => exact Post.ok s1 q
    | false =>
      refine ⟨fun wh pins s σ H Q I ⟨env, st, ρ, Ow, en, sr, p⟩ => (L2.pw_or j.test ih).run wh pins s σ H Q I ?_⟩
      refine ⟨env, st, ρ, Ow, en, sr, (Post.bind p).mono fun b st1 H1 ρ1 e1 s1 q => ?_⟩
      cases b with
      | true => exact Post.ok s1 q
      | false => exact ⟨env, st1, ρ1, Ow, en.ext e1 sr.disj, s1, q⟩
theorem je_bop {es : List Expr} {ss : List Sem} (and : Bool) (js : JEs X T xf W es ss) (h : es ≠ []) : JE X T xf W (.BoolOp (if and then .And else .Or) es pos) (Sem.bop and ss) true :=
  ⟨bop_val and js h, (bop_test and js h).pt, fun tg => items_bad⟩
theorem je_neg (C : CxG X T N sc n) (ja : JE X T xf W a sa ra) : JE X T xf W (.UnaryOp .USub a pos) (Sem.of (one sa fun x st => .of (neg1 x) st)) true :=
  .of C (PE.imp (L2.pe_un L2.un_neg ja.val) fun σ H Q ⟨env, st, ρ, Ow, en, sr, p⟩ => by
    refine ⟨env, st, ρ, Ow, en, sr, (Post.bind p).mono fun d st1 H1 ρ1 e1 s1 q v r => ?_⟩
    obtain ⟨d2, h2, q2⟩ := Post.of s1 q
    cases d with
    | int i =>
      cases h2
      have e := r.w.u.int
      subst e
      exact ⟨i, rfl, q2 _ (.int _)⟩
    | _ => cases h2)
theorem cmp_bl {o : Op2} {op : CmpOp} (h : cmpOf o = some op) {st : Store} {x y d : D} (e : op2 o st x y = some d) : ∃ k, d = .bl k := by
  cases o <;> cases h
  · have e : (if (okEq 64 (G.view st x) && okEq 64 (G.view st y)) = true then some (D.bl (pyEq (G.view st x) (G.view st y))) else (tupNil (G.view st x) (G.view st y)).map D.bl) = some d := e
    split at e
    · cases e
      exact ⟨_, rfl⟩
    · obtain ⟨_, _, e2⟩ := Option.map_eq_some_iff.mp e
      exact ⟨_, e2.symm⟩
  · obtain ⟨_, _, rfl⟩ := ok2 (show (if (okEq 64 (G.view st x) && okEq 64 (G.view st y)) = true then some (D.bl (!pyEq (G.view st x) (G.view st y))) else none) = some d from e)
    exact ⟨_, rfl⟩
  · obtain ⟨i, j, _, _, e⟩ := ints2 e; cases e; exact ⟨_, rfl⟩
  · obtain ⟨i, j, _, _, e⟩ := ints2 e; cases e; exact ⟨_, rfl⟩
  · obtain ⟨i, j, _, _, e⟩ := ints2 e; cases e; exact ⟨_, rfl⟩
  · obtain ⟨i, j, _, _, e⟩ := ints2 e; cases e; exact ⟨_, rfl⟩
  · simp only [op2] at e; split at e <;> cases e <;> exact ⟨_, rfl⟩
  · simp only [op2] at e; split at e <;> cases e <;> exact ⟨_, rfl⟩
  · by_cases n0 : ∃ ks vs, x = .dct ks vs
    · obtain ⟨ks, vs, rfl⟩ := n0
      obtain ⟨_, _, _, rfl⟩ := str_or e
      exact ⟨_, rfl⟩
    · rcases mem_split (fun c b => .bl (b.contains c)) (fun ys => .bl (ys.any fun z => pyEq z (G.view st x))) (c0 := false) e (fun ks vs h => n0 ⟨ks, vs, h⟩) with ⟨_, _, _, _, rfl⟩ | ⟨_, _, _, _, rfl⟩ <;> exact ⟨_, rfl⟩
  · by_cases n0 : ∃ ks vs, x = .dct ks vs
    · obtain ⟨ks, vs, rfl⟩ := n0
      obtain ⟨_, _, _, rfl⟩ := str_or e
      exact ⟨_, rfl⟩
    · rcases mem_split (fun c b => .bl (!b.contains c)) (fun ys => .bl (!ys.any fun z => pyEq z (G.view st x))) (c0 := true) e (fun ks vs h => n0 ⟨ks, vs, h⟩) with ⟨_, _, _, _, rfl⟩ | ⟨_, _, _, _, rfl⟩ <;> exact ⟨_, rfl⟩
/-- a plain comparison -/
theorem je_cmp0 (C : CxG X T N sc n) {o : Op2} {op : CmpOp} (h : cmpOf o = some op) (hb : plainE b = true) (ja : JE X T xf W a sa ra) (jb : JE X T xf W b sb rb) :
    JE X T xf W (.Compare a [op] [b] pos) (Sem.of (two sa sb fun x y st => .of (op2 o st x y) st)) true :=
  je_cmp C hb (or_cmp C h) (fun σ st H ρ Ow dx dy x y Q s rx ry p => sem_of rfl s rx.w ry.w p) (fun x y st d st' e => by
    cases e2 : op2 o st x y with
    | none => rw [e2] at e; cases e
    | some z => rw [e2] at e; cases e; exact cmp_bl h e2) ja jb
theorem je_chain (C : CxG X T N sc n) {o p : Op2} {op pp : CmpOp} (h : cmpOf o = some op) (h' : cmpOf p = some pp) (hc : plainE c = true) (ja : JE X T xf W a sa ra) (jb : JE X T xf W b sb rb) (jc : JE X T xf W c sc' rc) :
    JE X T xf W (.Compare a [op, pp] [b, c] pos) (Sem.of (chain o p sa sb sc')) true := by
  have hm : lastMarks [op, pp] [b, c] = false := plain_marks hc pp
  have imp : ∀ σ H Q, tVal T xf W true (chain o p sa sb sc') σ H Q → L2.tChain (rSem T (op2 o)) (rSem T (op2 p)) (tVal T xf W ra sa.val) (tVal T xf W rb sb.val) (tVal T xf W rc sc'.val) σ H Q := by
    intro σ H Q ⟨env, st, ρ, Ow, en, sr, p0⟩
    refine ⟨env, st, ρ, Ow, en, sr, (Post.bind p0).mono fun d st1 H1 ρ1 e1 s1 q v r1 => ?_⟩
    refine ⟨env, st1, ρ1, Ow, en.ext e1 sr.disj, s1, (Post.bind q).mono fun d2 st2 H2 ρ2 e2 s2 q2 v2 r2 => ?_⟩
    have q3 := Post.bind q2
    cases ho : op2 o st2 d d2 with
    | none => rw [ho] at q3; exact q3.elim
    | some dz =>
      rw [ho] at q3
      obtain ⟨k, rfl⟩ := cmp_bl h ho
      refine ⟨st2, ρ2, Ow, d, d2, _, s2, r1.w.ext e2, r2.w, ho, fun v3 H3 nw r3 => ?_⟩
      cases r3
      have s3 := nw.st s2
      have q4 := q3 H3 ρ2 (nw.ext ρ2) s3
      refine ⟨k, rfl, ?_⟩
      cases k with
      | true =>
        refine L2.iteT ⟨env, st2, ρ2, Ow, (en.ext e1 sr.disj).ext (e2.trans (nw.ext ρ2)) s1.disj, s3, (Post.bind q4).mono fun d4 st4 H4 ρ4 e4 s4 q5 v4 r4 => ?_⟩
        exact sem_of rfl s4 (r2.w.ext ((nw.ext ρ2).trans e4)) r4.w q5
      | false => exact L2.iteF (Post.ok s3 q4 _ (.bl false))
  refine ⟨PE.imp (L2.pe_chain (or_cmp C h) (or_cmp C h') ja.val jb.val jc.val hm) imp, ?_, fun tg => items_of C (PE.imp (L2.pe_chain (or_cmp C h) (or_cmp C h') ja.val jb.val jc.val hm) imp)⟩
  refine PT.imp (L2.pt_chain (or_cmp C h) (or_cmp C h') ja.val jb.val jc.val hm) fun σ H Q q => ?_
  refine imp σ H _ ?_
  obtain ⟨env, st, ρ, Ow, en, sr, p0⟩ := q
  refine ⟨env, st, ρ, Ow, en, sr, (Post.bind p0).eqn.mono fun d st1 H1 ρ1 e1 s1 q v r => ?_⟩
  have hk : ∃ k, d = .bl k := by
    have e := q.1
    unfold chain at e
    cases h1 : sa.val env st with
    | ok x t1 =>
      rw [h1] at e
      have e : ((sb.val env t1).bind fun y st => (O.of (op2 o st x y) st).bind fun r st => match r with
        | .bl true => (sc'.val env st).bind fun z st => .of (op2 p st y z) st
        | .bl false => .ok (.bl false) st
        | _ => .bad) = .ok d st1 := e
      cases h2 : sb.val env t1 with
      | ok y t2 =>
        rw [h2] at e
        have e : ((O.of (op2 o t2 x y) t2).bind fun r st => match r with
          | .bl true => (sc'.val env st).bind fun z st => .of (op2 p st y z) st
          | .bl false => .ok (.bl false) st
          | _ => .bad) = .ok d st1 := e
        cases h3 : op2 o t2 x y with
        | none => rw [h3] at e; cases e
        | some r =>
          rw [h3] at e
          obtain ⟨k, rfl⟩ := cmp_bl h h3
          cases k with
          | false => cases e; exact ⟨_, rfl⟩
          | true =>
            have e : ((sc'.val env t2).bind fun z st => .of (op2 p st y z) st) = .ok d st1 := e
            cases h4 : sc'.val env t2 with
            | ok z t3 =>
              rw [h4] at e
              have e : O.of (op2 p t3 y z) t3 = .ok d st1 := e
              cases h5 : op2 p t3 y z with
              | none => rw [h5] at e; cases e
              | some w => rw [h5] at e; cases e; exact cmp_bl h' h5
            | ex _ _ _ => rw [h4] at e; cases e
            | bad => rw [h4] at e; cases e
      | ex _ _ _ => rw [h2] at e; cases e
      | bad => rw [h2] at e; cases e
    | ex _ _ _ => rw [h1] at e; cases e
    | bad => rw [h1] at e; cases e
  obtain ⟨k, rfl⟩ := hk
  cases r
  exact ⟨k, rfl, Post.ok s1 q.2⟩
end
end G
namespace G
open PySem PySem.Spec PyProof.Rows
open L2 (V Hp HO upd SqL SqT Rd VK TE TT TA TI WX XK Cx PE PT PA PI Inv OpR CallR RelV Vals R2 PC PW)
inductive RWs (T : Tb) (H : Hp) (ρ Ow : List Addr) : List V → List D → Prop
  | nil : RWs T H ρ Ow [] []
  | cons {v : V} {vs : List V} {d : D} {ds : List D} (r : RW T H ρ Ow v d) (rs : RWs T H ρ Ow vs ds) : RWs T H ρ Ow (v :: vs) (d :: ds)
def rBi (T : Tb) (f : Store → List D → Option D) : List V → Hp → VK → Prop := fun vs H Q => ∃ st ρ Ow ds dz, StR T H ρ Ow st ∧ RWs T H ρ Ow vs ds ∧ f st ds = some dz ∧ ∀ v H', New1 H H' → RV T H' ρ Ow v dz → Q v H'
section
variable {T : Tb} {H : Hp} {ρ Ow : List Addr} {st : Store}
theorem RWs.one {vs : List V} {d : D} (r : RWs T H ρ Ow vs [d]) : ∃ v, vs = [v] ∧ RW T H ρ Ow v d := by
  cases r with
  | cons r rs => cases rs; exact ⟨_, rfl, r⟩
theorem RWs.two {vs : List V} {d e : D} (r : RWs T H ρ Ow vs [d, e]) : ∃ v w, vs = [v, w] ∧ RW T H ρ Ow v d ∧ RW T H ρ Ow w e := by
  cases r with
  | cons r rs => obtain ⟨w, rfl, r2⟩ := rs.one; exact ⟨_, _, rfl, r, r2⟩
theorem ints_vals : ∀ {xs : List D} {vs : List V} {is : List Int}, G.dInts xs = some is → RVs T H ρ Ow vs xs → vs = is.map V.int
  | [], _, _, h, .nil => by cases h; rfl
  | .int i :: r, _, is, h, .cons q rs => by
    have h' : (G.dInts r).map (i :: ·) = some is := h
    rw [Option.map_eq_some_iff] at h'
    obtain ⟨js, h1, rfl⟩ := h'
    cases q
    rw [ints_vals h1 rs]; rfl
theorem bls_vals : ∀ {xs : List D} {vs : List V} {bs : List Bool}, G.bls xs = some bs → RVs T H ρ Ow vs xs → vs = bs.map V.bl
  | [], _, _, h, .nil => by cases h; rfl
  | .bl i :: r, _, is, h, .cons q rs => by
    have h' : (G.bls r).map (i :: ·) = some is := h
    rw [Option.map_eq_some_iff] at h'
    obtain ⟨js, h1, rfl⟩ := h'
    cases q
    rw [bls_vals h1 rs]; rfl
theorem strs_vals : ∀ {xs : List D} {vs : List V} {ss : List (List Nat)}, G.dStrs xs = some ss → RVs T H ρ Ow vs xs → vs = (ss.map fun s => (⟨s.toArray⟩ : PySem.Str)).map V.str ∧ ∀ s ∈ ss, s.length ≤ LIM ∧ s.all okCode = true
  | [], _, _, h, .nil => by cases h; exact ⟨rfl, fun _ h => by cases h⟩
  | .str i :: r, _, is, h, .cons q rs => by
    have h' : (G.dStrs r).map (i :: ·) = some is := h
    rw [Option.map_eq_some_iff] at h'
    obtain ⟨js, h1, rfl⟩ := h'
    cases q with
    | str _ z c =>
      obtain ⟨e, k⟩ := strs_vals h1 rs
      rw [e]
      exact ⟨rfl, fun s hs => by
        rcases List.mem_cons.mp hs with rfl | hs
        · exact ⟨z, c⟩
        · exact k s hs⟩
theorem rvs_ints : ∀ is : List Int, RVs T H ρ Ow (is.map V.int) (is.map D.int)
  | [] => .nil
  | i :: r => .cons (.int i) (rvs_ints r)
end
theorem maxI_ok : ∀ {xs : List Int} {m : Int}, maxI xs = some m → m ∈ xs ∧ ∀ y ∈ xs, y ≤ m
  | [], _, h => by cases h
  | [x], m, h => by cases h; simp
  | x :: y :: r, m, h => by
    have h' : (maxI (y :: r)).map (fun m => if m < x then x else m) = some m := h
    rw [Option.map_eq_some_iff] at h'
    obtain ⟨k, hk, rfl⟩ := h'
    obtain ⟨h1, h2⟩ := maxI_ok hk
    split
    · refine ⟨by simp, fun z hz => ?_⟩
      rcases List.mem_cons.mp hz with rfl | hz
      · omega
      · have := h2 z hz; omega
    · refine ⟨List.mem_cons_of_mem _ h1, fun z hz => ?_⟩
      rcases List.mem_cons.mp hz with rfl | hz
      · omega
      · exact h2 z hz
theorem minI_ok : ∀ {xs : List Int} {m : Int}, minI xs = some m → m ∈ xs ∧ ∀ y ∈ xs, m ≤ y
  | [], _, h => by cases h
  | [x], m, h => by cases h; simp
  | x :: y :: r, m, h => by
    have h' : (minI (y :: r)).map (fun m => if x < m then x else m) = some m := h
    rw [Option.map_eq_some_iff] at h'
    obtain ⟨k, hk, rfl⟩ := h'
    obtain ⟨h1, h2⟩ := minI_ok hk
    split
    · refine ⟨by simp, fun z hz => ?_⟩
      rcases List.mem_cons.mp hz with rfl | hz
      · omega
      · have := h2 z hz; omega
    · refine ⟨List.mem_cons_of_mem _ h1, fun z hz => ?_⟩
      rcases List.mem_cons.mp hz with rfl | hz
      · omega
      · exact h2 z hz
theorem sorted_uniq {xs ys : List Int} (p : ys.Perm xs) (s : ys.Pairwise (· ≤ ·)) : ys = xs.mergeSort leI := by
  have h1 : (xs.mergeSort leI).Perm xs := List.mergeSort_perm xs leI
  have h2 : (xs.mergeSort leI).Pairwise (fun a b => leI a b = true) := List.pairwise_mergeSort (fun a b c h1 h2 => by simp [leI] at *; omega) (fun a b => by simp [leI]; omega) xs
  refine List.Perm.eq_of_pairwise (le := (· ≤ ·)) (fun a b _ _ h1 h2 => by omega) s ?_ (p.trans h1.symm)
  exact h2.imp fun h => by simpa [leI] using h
theorem intStr_eq (i : Int) : (PySem.Str.ofString (toString i)) = ⟨(intStr i).toArray⟩ := by
  rw [PySem.Str.ofString_eq_toList]
  congr 2
  cases i with
  | ofNat n => show (Nat.repr n).toList.map Char.toNat = _; simp [Nat.repr, intStr, natStr]
  | negSucc n => show ("-" ++ Nat.repr (n + 1)).toList.map Char.toNat = _; simp [Nat.repr, intStr, natStr]
section
variable {X : Cx} {T : Tb}
theorem cr_len (hK : X.K = T.K) : CallR X (.builtin "len") (rBi T (bi .len)) := by
  intro pins s σ H xs us Q I r ⟨st, ρ, Ow, ds, dz, sr, rs, e, k⟩
  refine L2.call_len pins s σ H xs us Q I r ?_
  match ds, rs, e with
  | [.str x], rs, e =>
    cases e
    obtain ⟨v, rfl, r1⟩ := rs.one
    obtain ⟨rfl, z, c⟩ := r1.u.str
    exact ⟨_, _, rfl, ⟨by rw [← lim_line]; simpa [Str.length] using z, rfl⟩, by simpa [Str.length] using k _ _ (.inl rfl) (.int _)⟩
  | [.tup x], rs, e => exact seq_len sr k (by rfl) e rs
  | [.lst x], rs, e => exact seq_len sr k (by rfl) e rs
  | [.fl x], rs, e => exact seq_len sr k (by rfl) e rs
  | [.loc x], rs, e => exact seq_len sr k (by rfl) e rs
  | [.non], rs, e => cases e
  | [.bl _], rs, e => cases e
  | [.int _], rs, e => cases e
  | [.dct _ _], rs, e => cases e
  | [.obj _ _], rs, e => cases e
  | [.exc _ _], rs, e => cases e
  | [.cls _], rs, e => cases e
  | [], rs, e => cases e
  | a :: b :: r, rs, e => cases a <;> cases e
where
  seq_len {st : Store} {H : Hp} {ρ Ow : List Addr} {xs : List V} {d dz : D} {Q : VK} (sr : StR T H ρ Ow st) (k : ∀ v H', New1 H H' → RV T H' ρ Ow v dz → Q v H') (hb : bi .len st [d] = (seqv st d).map fun xs => D.int xs.length) (e : bi .len st [d] = some dz) (rs : RWs T H ρ Ow xs [d]) :
      ∃ x n, xs = [x] ∧ L2.LenV X.K x H n ∧ Q (.int n) H := by
    rw [hb, Option.map_eq_some_iff] at e
    obtain ⟨ys, hy, rfl⟩ := e
    obtain ⟨v, rfl, r1⟩ := rs.one
    obtain ⟨a, vs, rfl, q, z, r2⟩ := r1.seq sr hy
    refine ⟨_, ys.length, rfl, ?_, k _ _ (.inl rfl) (.int _)⟩
    rcases q with q | q
    · exact .inl ⟨vs, by rw [hK]; exact q, r2.length.symm⟩
    · exact .inr ⟨vs, by rw [hK]; exact q, r2.length.symm⟩
end
end G
namespace G
open PySem PySem.Spec PyProof.Rows
open L2 (V Hp HO upd SqL SqT Rd VK XK TE TT TA TI TS Ends WX Cx PE PT PA PI PS PSs Inv OpR CallR RelV Vals R2 PC PW)
/-- from one state of a body to a later one: the callers' own lists are kept -/
structure Step (Ow0 : List Addr) (H : Hp) (ρ Ow : List Addr) (H' : Hp) (ρ' Ow' : List Addr) : Prop where
  kp : Keeps H ρ Ow H' ρ' Ow'
  out : ∀ a ∈ Ow0, H' a = H a ∧ a ∈ Ow'
/-- a body's state -/
structure Fr (T : Tb) (Ow0 : List Addr) (H : Hp) (ρ Ow : List Addr) (σ : L2.St) (env : Env) (st : Store) : Prop where
  en : EnR T H ρ Ow σ env
  sr : StR T H ρ Ow st
  sub : ∀ a ∈ Ow0, a ∈ Ow
  out : ∀ (i : Nat) (xs : List D) (a : Addr), env[i]? = some (.own xs) → σ[i]? = some (some (.ref a)) → a ∉ Ow0
section
variable {T : Tb} {H H' H1 H2 : Hp} {ρ ρ' ρ1 ρ2 Ow Ow' Ow1 Ow2 Ow0 : List Addr} {σ : L2.St} {env : Env} {st st' : Store}
theorem Step.trans (a : Step Ow0 H ρ Ow H1 ρ1 Ow1) (b : Step Ow0 H1 ρ1 Ow1 H2 ρ2 Ow2) : Step Ow0 H ρ Ow H2 ρ2 Ow2 :=
  ⟨a.kp.trans b.kp, fun x hx => ⟨by rw [(b.out x hx).1, (a.out x hx).1], (b.out x hx).2⟩⟩
theorem Fr.refl (f : Fr T Ow0 H ρ Ow σ env st) : Step Ow0 H ρ Ow H ρ Ow := ⟨Keeps.refl _ _ _, fun a ha => ⟨rfl, f.sub a ha⟩⟩
theorem Fr.step (f : Fr T Ow0 H ρ Ow σ env st) (e : Ext H ρ H' ρ') : Step Ow0 H ρ Ow H' ρ' Ow := ⟨e.keeps Ow, fun a ha => by
  obtain ⟨vs, h⟩ := f.sr.lists a (f.sub a ha)
  exact ⟨by rw [h, (e.keep a _ h (f.sr.disj a (f.sub a ha))).1], f.sub a ha⟩⟩
theorem Fr.ext (f : Fr T Ow0 H ρ Ow σ env st) (e : Ext H ρ H' ρ') (s : StR T H' ρ' Ow st') : Fr T Ow0 H' ρ' Ow σ env st' := ⟨f.en.ext e f.sr.disj, s, f.sub, f.out⟩
end
/-- what is wanted of a body -/
structure WS where
  T : Tb
  xf : Nat → List Nm
  W : WX
  Ow0 : List Addr
  fre : Bool
/-- a returned value: any, or a list that nobody else has -/
def RRt (fre : Bool) (T : Tb) (H : Hp) (ρ Ow Ow0 : List Addr) (v : V) (d : D) : Prop := match fre with
  | false => RV T H ρ Ow v d
  | true => ∃ a vs xs, v = .ref a ∧ d = .lst xs ∧ a ∈ Ow ∧ a ∉ Ow0 ∧ H a = some (.lst vs) ∧ vs.length ≤ LIM ∧ RVs T H ρ Ow vs xs
def PostR (w : WS) (H : Hp) (ρ Ow : List Addr) (Z : Ends) : R → Prop
  | .nx env st => ∀ σ' H' ρ' Ow', Step w.Ow0 H ρ Ow H' ρ' Ow' → Fr w.T w.Ow0 H' ρ' Ow' σ' env st → Z.nx σ' H'
  | .bk env st => ∀ σ' H' ρ' Ow', Step w.Ow0 H ρ Ow H' ρ' Ow' → Fr w.T w.Ow0 H' ρ' Ow' σ' env st → Z.bk σ' H'
  | .ct env st => ∀ σ' H' ρ' Ow', Step w.Ow0 H ρ Ow H' ρ' Ow' → Fr w.T w.Ow0 H' ρ' Ow' σ' env st → Z.ct σ' H'
  | .rt d st => ∀ v H' ρ' Ow', Step w.Ow0 H ρ Ow H' ρ' Ow' → StR w.T H' ρ' Ow' st → RRt w.fre w.T H' ρ' Ow' w.Ow0 v d → Z.rt v H'
  | .ex env c fs st => ∀ cls dx σ' H' ρ' Ow', Step w.Ow0 H ρ Ow H' ρ' Ow' → Fr w.T w.Ow0 H' ρ' Ow' σ' env st → ExR w.T w.xf H' ρ' Ow' cls dx c fs → w.W cls dx σ' H'
  | .bad => False
def WS.o (w : WS) (σ : L2.St) : Wo := ⟨w.T, w.xf, w.W, σ⟩
def tStm (w : WS) (f : StS) : TS := fun Z σ H => ∃ env st ρ Ow, Fr w.T w.Ow0 H ρ Ow σ env st ∧ PostR w H ρ Ow Z (f env st)
section
variable {w : WS} {H H' H1 : Hp} {ρ ρ' ρ1 Ow Ow' Ow1 : List Addr} {σ : L2.St} {env : Env} {st st' : Store} {Z : Ends}
theorem PostR.later {r : R} (e : Step w.Ow0 H ρ Ow H1 ρ1 Ow1) (h : PostR w H ρ Ow Z r) : PostR w H1 ρ1 Ow1 Z r := by
  cases r with
  | nx env st => exact fun σ' H' ρ' Ow' s f => h σ' H' ρ' Ow' (e.trans s) f
  | bk env st => exact fun σ' H' ρ' Ow' s f => h σ' H' ρ' Ow' (e.trans s) f
  | ct env st => exact fun σ' H' ρ' Ow' s f => h σ' H' ρ' Ow' (e.trans s) f
  | rt d st => exact fun v H' ρ' Ow' s f r => h v H' ρ' Ow' (e.trans s) f r
  | ex env c fs st => exact fun cls dx σ' H' ρ' Ow' s f x => h cls dx σ' H' ρ' Ow' (e.trans s) f x
  | bad => exact h
/-- an expression, then more -/
theorem PostR.run {α : Type} {o : O α} {f : α → Store → R} (fr : Fr w.T w.Ow0 H ρ Ow σ env st) (h : PostR w H ρ Ow Z (o.run env f)) :
    Post (w.o σ) H ρ Ow (fun a st1 H1 ρ1 => Fr w.T w.Ow0 H1 ρ1 Ow σ env st1 ∧ PostR w H1 ρ1 Ow Z (f a st1)) o := by
  cases o with
  | ok a st1 => exact fun H1 ρ1 e s => ⟨fr.ext e s, PostR.later (fr.step e) h⟩
  | ex c fs st1 => exact fun cls dx H1 ρ1 e s x => h cls dx σ H1 ρ1 Ow (fr.step e) (fr.ext e s) x
  | bad => exact h
end
theorem PostR.run0 {w : WS} {H : Hp} {ρ Ow : List Addr} {σ : L2.St} {env : Env} {st : Store} {Z : Ends} {α : Type} {o : O α} {f : α → Store → R} (fr : Fr w.T w.Ow0 H ρ Ow σ env st) (h : PostR w H ρ Ow Z (o.run env f)) :
    Post (w.o σ) H ρ Ow (fun a st1 H1 ρ1 => Fr w.T w.Ow0 H1 ρ1 Ow σ env st1 ∧ PostR w H ρ Ow Z (f a st1)) o := by
  cases o with
  | ok a st1 => exact fun H1 ρ1 e s => ⟨fr.ext e s, h⟩
  | ex c fs st1 => exact fun cls dx H1 ρ1 e s x => h cls dx σ H1 ρ1 Ow (fr.step e) (fr.ext e s) x
  | bad => exact h
/-- the context of a body's statements -/
structure CxS (X : Cx) (w : WS) (N : List PySem.Str) (sc : Scope) (n : Nat) : Prop extends CxC X w.T N sc n where
  fn : ∀ x, X.fn x = true
  own : PassesOwn (model X.prog X.w) X.A X.env X.xe
  tk : L2.Takes X w.W
def JS (X : Cx) (w : WS) (s : Stmt) (f : StS) : Prop := PS X s (tStm w f)
def JSs (X : Cx) (w : WS) (s : List Stmt) (f : StS) : Prop := PSs X s (tStm w f)
section
variable {X : Cx} {w : WS} {N : List PySem.Str} {sc : Scope} {n : Nat} {e a b c : Expr} {pos : Pos} {se sc' : Sem} {str : Bool}
theorem PS.imp {s : Stmt} {t t' : TS} (h : PS X s t) (i : ∀ D σ H, t' D σ H → t D σ H) : PS X s t' := ⟨fun pins s σ H D I q => h.run pins s σ H D I (i D σ H q)⟩
theorem PSs.imp {s : List Stmt} {t t' : TS} (h : PSs X s t) (i : ∀ D σ H, t' D σ H → t D σ H) : PSs X s t' := ⟨fun pins s σ H D I q => h.run pins s σ H D I (i D σ H q)⟩
theorem jss_bad {s : List Stmt} : JSs X w s fun _ _ => .bad := ⟨fun _ _ _ _ _ _ ⟨_, _, _, _, _, p⟩ => p.elim⟩
theorem RV.rt {T : Tb} {H : Hp} {ρ Ow Ow0 : List Addr} {v : V} {d : D} {fr : Bool} (h : fr = false) (r : RV T H ρ Ow v d) : RRt fr T H ρ Ow Ow0 v d := by
  subst h; exact r
/-- the reading of an expression within a statement -/
theorem run_val {f : D → Store → R} {σ : L2.St} {H : Hp} {Z : Ends} {Q : VK} (i : ∀ (env : Env) (st : Store) (d : D) (v : V) (H : Hp) (ρ Ow : List Addr), Fr w.T w.Ow0 H ρ Ow σ env st → RX str w.T H ρ Ow v d → PostR w H ρ Ow Z (f d st) → Q v H) {env : Env} {st : Store} {ρ Ow : List Addr}
    (fr : Fr w.T w.Ow0 H ρ Ow σ env st) (p : PostR w H ρ Ow Z ((se.val env st).run env f)) : tVal w.T w.xf w.W str se.val σ H Q :=
  ⟨env, st, ρ, Ow, fr.en, fr.sr, (PostR.run fr p).mono fun d st1 H1 ρ1 e1 s1 q v r => i env st1 d v H1 ρ1 Ow q.1 r q.2⟩
theorem js_ret (hw : w.fre = false) (j : JE X w.T w.xf w.W e se true) : JS X w (.Return (some e) pos) fun env st => (se.val env st).run env fun d st => .rt d st :=
  PS.imp (L2.ps_ret j.val) fun D σ H ⟨env, st, ρ, Ow, f, p⟩ => run_val (f := fun d st => .rt d st) (fun env st d v H ρ Ow f r p => p v H ρ Ow f.refl f.sr (RV.rt hw r)) f p
/-- an expression that makes no comprehension -/
def noComp : Expr → Bool
  | .ListComp .. => false
  | .SetComp .. => false
  | .DictComp .. => false
  | _ => true
theorem noComp_swaps {e : Expr} (h : noComp e = true) (t : Option Expr) (l : Nat) (env : PySem.Env) : swapsWith e t l env = pure false := by
  cases e <;> first | rfl | cases h
theorem js_ex (h : noComp e = true) (j : JE X w.T w.xf w.W e se str) : JS X w (.Expr e pos) fun env st => (se.val env st).run env fun _ st => .nx env st :=
  PS.imp (L2.ps_expr j.val (noComp_swaps h _ _ _)) fun D σ H ⟨env, st, ρ, Ow, f, p⟩ => by
    exact ⟨env, st, ρ, Ow, f.en, f.sr, (PostR.run f p).mono fun d st1 H1 ρ1 e1 s1 q v r => q.2 σ H1 ρ1 Ow q.1.refl q.1⟩
theorem js_if {p q : List Stmt} {fa fb : StS} (jc : JE X w.T w.xf w.W c sc' str) (ja : JSs X w p fa) (jb : JSs X w q fb) : JS X w (.If c p q pos) fun env st => (sc'.test env st).run env fun t st => if t then fa env st else fb env st :=
  PS.imp (L2.ps_if jc.test ja jb) fun D σ H ⟨env, st, ρ, Ow, f, p⟩ => by
    refine ⟨env, st, ρ, Ow, f.en, f.sr, (PostR.run f p).mono fun t st1 H1 ρ1 e1 s1 q => ?_⟩
    cases t with
    | true => exact ⟨env, st1, ρ1, Ow, q.1, q.2⟩
    | false => exact ⟨env, st1, ρ1, Ow, q.1, q.2⟩
theorem jss_nil : JSs X w [] fun env st => .nx env st := PSs.imp L2.pss_nil fun Z σ H ⟨env, st, ρ, Ow, f, p⟩ => p σ H ρ Ow f.refl f
theorem jss_cons {s : Stmt} {ss : List Stmt} {f g : StS} (j : JS X w s f) (js : JSs X w ss g) : JSs X w (s :: ss) fun env st => seqR (f env st) g :=
  PSs.imp (L2.pss_cons j js) fun Z σ H ⟨env, st, ρ, Ow, fr, p⟩ => by
    refine ⟨env, st, ρ, Ow, fr, ?_⟩
    have p : PostR w H ρ Ow Z (seqR (f env st) g) := p
    cases e : f env st with
    | nx env1 st1 =>
      rw [e] at p
      exact fun σ' H' ρ' Ow' s f' => ⟨env1, st1, ρ', Ow', f', PostR.later s p⟩
    | bk env1 st1 => rw [e] at p; exact p
    | ct env1 st1 => rw [e] at p; exact p
    | rt d st1 => rw [e] at p; exact p
    | ex env1 c fs st1 => rw [e] at p; exact p
    | bad => rw [e] at p; exact p
end
end G
namespace G
open PySem PySem.Spec PyProof.Rows
open L2 (V Hp HO upd SqL SqT Rd VK XK TE TT TA TI TS TG TGs Ends WX Cx PE PT PA PI PS PSs PG PGs Inv OpR CallR RelV Vals R2 PC PW)
section
variable {T : Tb} {H H' H1 H2 : Hp} {ρ ρ' ρ1 ρ2 Ow Ow' Ow1 Ow2 Ow0 : List Addr} {σ : L2.St} {env : Env} {st st' : Store}
theorem EnR.set (en : EnR T H ρ Ow σ env) {v : V} {d : D} (i : Nat) (r : RV T H ρ Ow v d) : EnR T H ρ Ow (σ.set i (some v)) (env.set i (.v d)) := by
  refine ⟨by simp [en.len], fun j s h => ?_, fun j k xs ys a h1 h2 h3 h4 => ?_⟩
  · by_cases hj : i = j
    · subst hj
      have hi : i < env.length := by
        have := (List.getElem?_eq_some_iff.mp h).1
        simpa using this
      rw [List.getElem?_set_self hi] at h
      cases h
      rw [List.getElem?_set_self (by rw [← en.len]; exact hi)]
      exact r
    · rw [List.getElem?_set_ne hj] at h
      rw [List.getElem?_set_ne hj]
      exact en.at_ j s h
  · have e1 : i ≠ j := fun e => by
      subst e
      have hi : i < env.length := by
        have := (List.getElem?_eq_some_iff.mp h1).1
        simpa using this
      rw [List.getElem?_set_self hi] at h1; cases h1
    have e2 : i ≠ k := fun e => by
      subst e
      have hi : i < env.length := by
        have := (List.getElem?_eq_some_iff.mp h2).1
        simpa using this
      rw [List.getElem?_set_self hi] at h2; cases h2
    rw [List.getElem?_set_ne e1] at h1 h3
    rw [List.getElem?_set_ne e2] at h2 h4
    exact en.apart j k xs ys a h1 h2 h3 h4
theorem Fr.set (f : Fr T Ow0 H ρ Ow σ env st) {v : V} {d : D} (i : Nat) (r : RV T H ρ Ow v d) : Fr T Ow0 H ρ Ow (σ.set i (some v)) (env.set i (.v d)) st := by
  refine ⟨f.en.set i r, f.sr, f.sub, fun j xs a h1 h2 => ?_⟩
  have e1 : i ≠ j := fun e => by
    subst e
    have hi : i < env.length := by
      have := (List.getElem?_eq_some_iff.mp h1).1
      simpa using this
    rw [List.getElem?_set_self hi] at h1; cases h1
  rw [List.getElem?_set_ne e1] at h1 h2
  exact f.out j xs a h1 h2
theorem Fr.setOwn (f : Fr T Ow0 H ρ Ow σ env st) {a : Addr} {vs : List V} {xs : List D} (i : Nat) (m : a ∈ Ow) (n : a ∉ Ow0) (h : H a = some (.lst vs)) (z : vs.length ≤ LIM) (rs : RVs T H ρ Ow vs xs)
    (ap : ∀ (j : Nat) (ys : List D), j ≠ i → env[j]? = some (.own ys) → σ[j]? ≠ some (some (.ref a))) : Fr T Ow0 H ρ Ow (σ.set i (some (.ref a))) (env.set i (.own xs)) st := by
  refine ⟨⟨by simp [f.en.len], fun j s h1 => ?_, fun j k xs' ys b h1 h2 h3 h4 => ?_⟩, f.sr, f.sub, fun j ys b h1 h2 => ?_⟩
  · by_cases hj : i = j
    · subst hj
      have hi : i < env.length := by
        have := (List.getElem?_eq_some_iff.mp h1).1
        simpa using this
      rw [List.getElem?_set_self hi] at h1
      cases h1
      rw [List.getElem?_set_self (by rw [← f.en.len]; exact hi)]
      exact ⟨m, vs, h, z, rs⟩
    · rw [List.getElem?_set_ne hj] at h1
      rw [List.getElem?_set_ne hj]
      exact f.en.at_ j s h1
  · by_cases e1 : i = j
    · by_cases e2 : i = k
      · rw [← e1, ← e2]
      · subst e1
        have hi : i < env.length := by
          have := (List.getElem?_eq_some_iff.mp h1).1
          simpa using this
        rw [List.getElem?_set_self (by rw [← f.en.len]; exact hi)] at h3
        cases h3
        rw [List.getElem?_set_ne e2] at h2 h4
        exact absurd h4 (ap k ys (Ne.symm e2) h2)
    · by_cases e2 : i = k
      · subst e2
        have hi : i < env.length := by
          have := (List.getElem?_eq_some_iff.mp h2).1
          simpa using this
        rw [List.getElem?_set_self (by rw [← f.en.len]; exact hi)] at h4
        cases h4
        rw [List.getElem?_set_ne e1] at h1 h3
        exact absurd h3 (ap j xs' (Ne.symm e1) h1)
      · rw [List.getElem?_set_ne e1] at h1 h3
        rw [List.getElem?_set_ne e2] at h2 h4
        exact f.en.apart j k xs' ys b h1 h2 h3 h4
  · by_cases hj : i = j
    · subst hj
      have hi : i < env.length := by
        have := (List.getElem?_eq_some_iff.mp h1).1
        simpa using this
      rw [List.getElem?_set_self (by rw [← f.en.len]; exact hi)] at h2
      cases h2
      exact n
    · rw [List.getElem?_set_ne hj] at h1 h2
      exact f.out j ys b h1 h2
/-- a slot's own list is written -/
theorem ObR.keeps (e : Keeps H ρ Ow H' ρ' Ow') (hl : ∀ a ∈ Ow, ∃ vs, H a = some (.lst vs)) {l : Nat} {a : Addr} {o : Obj} (k : H' a = H a) (r : ObR T H ρ Ow l a o) : ObR T H' ρ' Ow' l a o := by
  cases o with
  | lst ds =>
    obtain ⟨p, vs, h, z, r⟩ := r
    exact ⟨p, vs, by rw [k]; exact h, z, r.keeps e hl⟩
  | ins c fs =>
    obtain ⟨p, dx, vs, h, z, z2, r⟩ := r
    exact ⟨p, dx, vs, by rw [k]; exact h, z, z2, r.keeps e hl⟩
  | dic z ks =>
    obtain ⟨kk, e1, e2, h⟩ := r
    exact ⟨kk, e1, e2, h.at k⟩
theorem Keeps.upd {a : Addr} {o : HO} (m : a ∈ Ow) (hf : ∀ ob u, H a ≠ some (.frz ob u)) : Keeps H ρ Ow (upd H a o) ρ Ow := ⟨fun b u h n1 n2 => ⟨by rw [L2.upd_ne fun e => n2 (by rw [e]; exact m)]; exact h, n1, n2⟩, ⟨[], by simp⟩, fun b ob u h => by rw [L2.upd_ne fun e => hf ob u (by rw [← e]; exact h)]; exact h⟩
theorem Fr.updOwn (f : Fr T Ow0 H ρ Ow σ env st) {i : Nat} {xs ys : List D} {a : Addr} {us : List V} (e : env[i]? = some (.own xs)) (hσ : σ[i]? = some (some (.ref a))) (z : us.length ≤ LIM) (rs : RVs T H ρ Ow us ys) :
    Step Ow0 H ρ Ow (upd H a (.lst us)) ρ Ow ∧ Fr T Ow0 (upd H a (.lst us)) ρ Ow σ (env.set i (.own ys)) st := by
  obtain ⟨a', vs, h1, m, h2, z2, rs2⟩ := f.en.own e
  rw [hσ] at h1; cases h1
  have n0 := f.out i xs a e hσ
  have k : Keeps H ρ Ow (upd H a (.lst us)) ρ Ow := Keeps.upd m fun ob u z => by rw [h2] at z; cases z
  have hn : a ∉ ρ := f.sr.disj a m
  have keepρ : ∀ b ∈ ρ, upd H a (.lst us) b = H b := fun b hb => L2.upd_ne fun e => hn (by rw [← e]; exact hb)
  have hl : ∀ b ∈ Ow, ∃ vs, upd H a (.lst us) b = some (.lst vs) := fun b hb => by
    by_cases e : b = a
    · exact ⟨us, by rw [e, L2.upd_same]⟩
    · obtain ⟨vs, q⟩ := f.sr.lists b hb
      exact ⟨vs, by rw [L2.upd_ne e]; exact q⟩
  refine ⟨⟨k, fun b hb => ⟨L2.upd_ne fun e => n0 (by rw [← e]; exact hb), f.sub b hb⟩⟩, ?_⟩
  have hi : i < env.length := (List.getElem?_eq_some_iff.mp e).1
  refine ⟨⟨by simp [f.en.len], fun j s h => ?_, fun j k' xs' ys' b h1 h2 h3 h4 => ?_⟩, ⟨f.sr.len, f.sr.nd, f.sr.apart, hl, fun l b ob h1 h2 => (f.sr.at_ l b ob h1 h2).keeps k f.sr.lists (keepρ b (List.mem_of_getElem? h1)), fun i q h => ⟨(f.sr.tab i q h).1, (f.sr.tab i q h).2.keeps k f.sr.lists (keepρ _ (List.mem_of_getElem? (f.sr.tab i q h).1))⟩⟩, f.sub, fun j zs b h1 h2 => ?_⟩
  · by_cases hj : i = j
    · subst hj
      rw [List.getElem?_set_self hi] at h
      cases h
      rw [hσ]
      exact ⟨m, us, L2.upd_same, z, rs.keeps k f.sr.lists⟩
    · rw [List.getElem?_set_ne hj] at h
      have q := f.en.at_ j s h
      cases s with
      | em =>
        cases hs : σ[j]? with
        | none => trivial
        | some o => cases o <;> trivial
      | v d =>
        cases hs : σ[j]? with
        | none => rw [hs] at q; exact q.elim
        | some o =>
          rw [hs] at q
          cases o with
          | none => exact q.elim
          | some v =>
            have q' : RV T H ρ Ow v d := q
            exact q'.keeps k f.sr.lists
      | own zs =>
        obtain ⟨b, ws, g1, g2, g3, g4, g5⟩ := f.en.own h
        rw [g1]
        have ne : b ≠ a := fun eb => by
          subst eb
          exact hj (f.en.apart i j xs zs b e h hσ g1)
        exact ⟨g2, ws, by rw [L2.upd_ne ne]; exact g3, g4, g5.keeps k f.sr.lists⟩
      | xc c fs =>
        obtain ⟨b, dx, fl, g1, g2, g3⟩ := f.en.xc h
        rw [g1]
        exact ⟨dx, fl, g2, g3.keeps k f.sr.lists⟩
  · have old : ∀ (j : Nat) (zs : List D), (env.set i (.own ys))[j]? = some (.own zs) → ∃ zs', env[j]? = some (.own zs') := fun j zs h => by
      by_cases hj : i = j
      · subst hj; exact ⟨xs, e⟩
      · rw [List.getElem?_set_ne hj] at h; exact ⟨zs, h⟩
    obtain ⟨z1, q1⟩ := old j xs' h1
    obtain ⟨z2, q2⟩ := old k' ys' h2
    exact f.en.apart j k' z1 z2 b q1 q2 h3 h4
  · by_cases hj : i = j
    · subst hj
      rw [hσ] at h2; cases h2
      exact n0
    · rw [List.getElem?_set_ne hj] at h1
      exact f.out j zs b h1 h2
/-- a place of the store is written -/
theorem Fr.updSt (f : Fr T Ow0 H ρ Ow σ env st) {l : Nat} {a : Addr} {o : HO} {ob : Obj} (ha : ρ[l + T.tabs.length]? = some a) (hf : ∀ ob u, H a ≠ some (.frz ob u)) (r : ObR T (upd H a o) ρ Ow l a ob) :
    Step Ow0 H ρ Ow (upd H a o) ρ Ow ∧ Fr T Ow0 (upd H a o) ρ Ow σ env (st.set l ob) := by
  have m : a ∈ ρ := List.mem_of_getElem? ha
  have e : Ext H ρ (upd H a o) ρ := Ext.set m hf
  refine ⟨f.step e, f.ext e ⟨by simp [f.sr.len], f.sr.nd, f.sr.apart, fun b hb => ?_, fun j b ob' h1 h2 => ?_, fun i q h => ?_⟩⟩
  · obtain ⟨vs, q⟩ := f.sr.lists b hb
    exact ⟨vs, by rw [L2.upd_ne fun e => f.sr.apart a m (by rw [← e]; exact hb)]; exact q⟩
  · by_cases hj : l = j
    · subst hj
      rw [ha] at h1; cases h1
      have hl : l < st.length := by
        have := (List.getElem?_eq_some_iff.mp h2).1
        simpa using this
      rw [List.getElem?_set_self hl] at h2
      cases h2
      exact r
    · rw [List.getElem?_set_ne hj] at h2
      have ne : b ≠ a := fun eb => by
        subst eb
        have p1 := List.getElem?_eq_some_iff.mp ha
        have p2 := List.getElem?_eq_some_iff.mp h1
        have := (List.getElem_inj f.sr.nd).mp (p1.2.trans p2.2.symm)
        omega
      exact (f.sr.at_ j b ob' h1 h2).ext e (L2.upd_ne ne)
  · obtain ⟨h1, h2⟩ := f.sr.tab i q h
    refine ⟨h1, h2.ext e (L2.upd_ne fun eb => ?_)⟩
    rw [eb] at h1
    have p1 := List.getElem?_eq_some_iff.mp ha
    have p2 := List.getElem?_eq_some_iff.mp h1
    have p3 := (List.getElem?_eq_some_iff.mp h).1
    have := (List.getElem_inj f.sr.nd).mp (p1.2.trans p2.2.symm)
    omega
end
end G
namespace G
open PySem PySem.Spec PyProof.Rows
open L2 (V Hp HO upd SqL SqT Rd VK XK TE TT TA TI TS TG TGs Ends WX Cx PE PT PA PI PS PSs PG PGs Inv OpR CallR RelV Vals R2 PC PW)
theorem PG.imp {X : Cx} {e : Expr} {t t' : TG} (h : PG X e t) (i : ∀ v σ H Q, t' v σ H Q → t v σ H Q) : PG X e t' := ⟨fun pins s σ H v u Q I r q => h.run pins s σ H v u Q I r (i v σ H Q q)⟩
theorem PGs.imp {X : Cx} {e : List Expr} {t t' : TGs} (h : PGs X e t) (i : ∀ v σ H Q, t' v σ H Q → t v σ H Q) : PGs X e t' := ⟨fun pins s σ H v u Q I r q => h.run pins s σ H v u Q I r (i v σ H Q q)⟩
section
variable {T : Tb} {H H' H1 H2 : Hp} {ρ ρ' ρ1 ρ2 Ow Ow' Ow1 Ow2 Ow0 : List Addr} {σ : L2.St} {env : Env} {st st' : Store}
theorem EnR.newOw (en : EnR T H ρ Ow σ env) (sr : StR T H ρ Ow st) {p : Addr} {vs : List V} (hp : H p = none) : EnR T (upd H p (.lst vs)) ρ (p :: Ow) σ env := by
  have en' := en.ext (Ext.new (ρ := ρ) (o := .lst vs) hp) sr.disj
  refine ⟨en.len, fun i s h => ?_, en.apart⟩
  have q0 := en.at_ i s h
  have q := en'.at_ i s h
  cases s with
  | em => cases hs : σ[i]? with
    | none => trivial
    | some o => cases o <;> trivial
  | v d =>
    cases hs : σ[i]? with
    | none => rw [hs] at q; exact q.elim
    | some o =>
      rw [hs] at q q0
      cases o with
      | none => exact q.elim
      | some v =>
        have r0 : RV T H ρ Ow v d := q0
        exact (r0.new hp).ext (Ext.new hp)
  | own ds =>
    obtain ⟨a, ws, g1, g2, g3, g4, g5⟩ := en.own h
    rw [g1]
    exact ⟨List.mem_cons_of_mem _ g2, ws, by rw [L2.upd_ne (L2.ne_of_none g3 hp)]; exact g3, g4, (g5.new hp).ext (Ext.new hp)⟩
  | xc c fs =>
    obtain ⟨a, dx, fl, g1, g2, g3⟩ := en.xc h
    rw [g1]
    refine ⟨dx, fl, g2, (g3.ow fun a h _ n hm => ?_).ext (Ext.new hp)⟩
    rcases List.mem_cons.mp hm with e | hm
    · rw [e] at h; exact h hp
    · exact n hm
theorem Fr.newOw (f : Fr T Ow0 H ρ Ow σ env st) {p : Addr} {vs : List V} (hp : H p = none) :
    Step Ow0 H ρ Ow (upd H p (.lst vs)) ρ (p :: Ow) ∧ Fr T Ow0 (upd H p (.lst vs)) ρ (p :: Ow) σ env st ∧ p ∉ Ow0 := by
  have n0 : p ∉ Ow0 := fun h => (f.sr.fresh hp).2 (f.sub p h)
  refine ⟨⟨⟨fun a o h n1 n2 => ⟨by rw [L2.upd_ne (L2.ne_of_none h hp)]; exact h, n1, fun hm => ?_⟩, ⟨[], by simp⟩, fun a ob u h => by rw [L2.upd_ne (L2.ne_of_none h hp)]; exact h⟩, fun a ha => ⟨L2.upd_ne fun e => n0 (by rw [← e]; exact ha), List.mem_cons_of_mem _ (f.sub a ha)⟩⟩,
    ⟨f.en.newOw f.sr hp, f.sr.newOw hp, fun a ha => List.mem_cons_of_mem _ (f.sub a ha), f.out⟩, n0⟩
  rcases List.mem_cons.mp hm with e | hm
  · exact L2.ne_of_none h hp e
  · exact n2 hm
/-- slots' own places are of the old -/
theorem Fr.slotNe (f : Fr T Ow0 H ρ Ow σ env st) {p : Addr} (hp : H p = none) (j : Nat) (ys : List D) (h : env[j]? = some (.own ys)) : σ[j]? ≠ some (some (.ref p)) := fun e => by
  obtain ⟨a, ws, g1, g2, g3, g4, g5⟩ := f.en.own h
  rw [e] at g1; cases g1
  rw [hp] at g3; cases g3
end
/-- an expression that makes a new list -/
def tFre (T : Tb) (xf : Nat → List Nm) (W : WX) (f : Env → Store → O D) : TE := fun σ H Q => At T xf W f (fun d ρ Ow H' => ∃ xs, d = .lst xs ∧ ∀ p vs, H' p = none → RVs T H' ρ Ow vs xs → vs.length ≤ LIM → Q (.ref p) (upd H' p (.lst vs))) σ H
def JF (X : Cx) (T : Tb) (xf : Nat → List Nm) (W : WX) (e : Expr) (s : Sem) : Prop := PE X e (tFre T xf W s.val)
def onlyNx (Q : L2.St → Hp → Prop) : Ends := ⟨Q, fun _ _ => False, fun _ _ => False, fun _ _ => False⟩
theorem PostR.only {w : WS} {H : Hp} {ρ Ow : List Addr} {Z : Ends} {r : R} (h : r.pl = true) (p : PostR w H ρ Ow Z r) : PostR w H ρ Ow (onlyNx Z.nx) r := by
  cases r with
  | nx env st => exact p
  | ex env c fs st => exact p
  | bad => exact p
  | rt d st => cases h
  | bk env st => cases h
  | ct env st => cases h
def tTgt (w : WS) (f : D → StS) : TG := fun v σ H Q => ∃ env st ρ Ow d, Fr w.T w.Ow0 H ρ Ow σ env st ∧ RV w.T H ρ Ow v d ∧ PostR w H ρ Ow (onlyNx Q) (f d env st)
structure JT (X : Cx) (w : WS) (tg : Expr) (f : D → StS) : Prop where
  run : PG X tg (tTgt w f)
  pl : ∀ d env st, (f d env st).pl = true
/-- a name that this block stores -/
structure NmL (X : Cx) (x : PySem.Str) (i : Nat) : Prop where
  nd : X.N.Nodup
  at_ : X.N[i]? = some x
  loc : L2.Loc X.env.scope x
  fn : X.fn x = true ∨ X.env.scope.names.lookup x = some .local
section
variable {X : Cx} {w : WS} {N : List PySem.Str} {sc : Scope} {n : Nat} {e a b c tg : Expr} {pos pos' : Pos} {se sa sb : Sem} {str : Bool} {x : PySem.Str} {i : Nat}
theorem jt_nm (h : NmL X x i) : JT X w (.Name x pos) fun d env st => .nx (env.set i (.v d)) st :=
  ⟨PG.imp (L2.pg_name h.nd h.at_ h.loc h.fn) fun v σ H Q ⟨env, st, ρ, Ow, d, f, r, p⟩ => p _ H ρ Ow f.refl (f.set i r), fun _ _ _ => rfl⟩
/-- target = value -/
def isTup : Expr → Bool
  | .Tuple .. => true
  | .List .. => true
  | _ => false
theorem swapped_none {tg e : Expr} {env : PySem.Env} (h : isTup tg = false ∨ isTup e = false) : swappedStores [tg] e env = pure none := by
  rcases h with h | h
  · cases tg <;> first | (cases e <;> rfl) | cases h
  · cases e <;> first | (cases tg <;> rfl) | cases h
theorem js_asg {f : D → StS} (hc : swapsWith e (some tg) pos.line X.env = pure false) (ht : isTup tg = false ∨ isTup e = false) (he : (assignEach [tg] X.env).map (·.2) = [assign tg X.env]) (j : JE X w.T w.xf w.W e se true) (t : JT X w tg f) :
    JS X w (.Assign [tg] e pos) fun env st => (se.val env st).run env fun d st => f d env st :=
  PS.imp (L2.ps_asg j.val t.run (show swapsWithSole [tg] e pos.line X.env = pure false from hc) (swapped_none ht) he) fun Z σ H ⟨env, st, ρ, Ow, fr, p⟩ =>
    ⟨env, st, ρ, Ow, fr.en, fr.sr, (PostR.run fr p).mono fun d st1 H1 ρ1 e1 s1 q v r => ⟨env, st1, ρ1, Ow, d, q.1, r, q.2.only (t.pl _ _ _)⟩⟩
theorem js_own (h : NmL X x i) (hc : swapsWith e (some (.Name x pos')) pos.line X.env = pure false) (j : JF X w.T w.xf w.W e se) :
    JS X w (.Assign [.Name x pos'] e pos) fun env st => (se.val env st).run env fun d st => ownR i d env st :=
  PS.imp (L2.ps_asg j (L2.pg_name h.nd h.at_ h.loc h.fn) (show swapsWithSole [.Name x pos'] e pos.line X.env = pure false from hc) (swapped_none (.inl rfl)) (by rfl)) fun Z σ H ⟨env, st, ρ, Ow, fr, p⟩ => by
    refine ⟨env, st, ρ, Ow, fr.en, fr.sr, (PostR.run fr p).mono fun d st1 H1 ρ1 e1 s1 q => ?_⟩
    obtain ⟨f1, q⟩ := q
    cases d with
    | lst xs =>
      refine ⟨xs, rfl, fun p vs hp rs z => ?_⟩
      obtain ⟨g1, g2, g3⟩ := f1.newOw (vs := vs) hp
      exact q _ _ _ _ g1 (g2.setOwn i (List.mem_cons_self) g3 L2.upd_same z ((rs.new hp).ext (Ext.new hp)) fun j ys _ h => f1.slotNe hp j ys h)
    | _ => exact q.elim
theorem jf_lst {es : List Expr} {ss : List Sem} {T : Tb} {xf : Nat → List Nm} {W : WX} (hs : ss.length ≤ 1000) (js : JEs X T xf W es ss) :
    JF X T xf W (.List es pos) (Sem.of (many ss fun ds st => .ok (.lst ds) st)) :=
  PE.imp (L2.pe_lst (pa_args js)) fun σ H Q ⟨env, st, ρ, Ow, en, sr, p⟩ => by
    refine ⟨env, st, ρ, Ow, en, sr, (Post.bind p).eqn.mono fun ds st1 H1 ρ1 e1 s1 q vs rs => ?_⟩
    have hz : vs.length ≤ LIM := lim_k (by rw [rs.length, args_len q.1]; exact hs)
    obtain ⟨xs, e2, q2⟩ := Post.ok s1 q.2
    cases e2
    exact ⟨lim_len hz, fun p hp => q2 p vs hp rs hz⟩
/-- values, or new lists -/
inductive VO (T : Tb) (H : Hp) (ρ Ow : List Addr) : List Addr → List Bool → List V → List D → Prop
  | nil : VO T H ρ Ow [] [] [] []
  | val {news : List Addr} {fl : List Bool} {v : V} {vs : List V} {d : D} {ds : List D} (r : RV T H ρ Ow v d) (rs : VO T H ρ Ow news fl vs ds) : VO T H ρ Ow news (false :: fl) (v :: vs) (d :: ds)
  | own {news : List Addr} {fl : List Bool} {a : Addr} {us vs : List V} {xs ds : List D} (m : a ∈ Ow) (h : H a = some (.lst us)) (z : us.length ≤ LIM) (r : RVs T H ρ Ow us xs) (rs : VO T H ρ Ow news fl vs ds) : VO T H ρ Ow (a :: news) (true :: fl) (.ref a :: vs) (.lst xs :: ds)
inductive JOs (X : Cx) (T : Tb) (xf : Nat → List Nm) (W : WX) : List Bool → List Expr → List Sem → Prop
  | nil : JOs X T xf W [] [] []
  | val {fl : List Bool} {e : Expr} {s : Sem} {es : List Expr} {ss : List Sem} (h : plainE e = true) (j : JE X T xf W e s true) (js : JOs X T xf W fl es ss) : JOs X T xf W (false :: fl) (e :: es) (s :: ss)
  | own {fl : List Bool} {e : Expr} {s : Sem} {es : List Expr} {ss : List Sem} (h : plainE e = true) (j : JF X T xf W e s) (sh : ∀ env st d st', s.val env st = .ok d st' → ∃ xs, d = .lst xs) (js : JOs X T xf W fl es ss) : JOs X T xf W (true :: fl) (e :: es) (s :: ss)
end
section
variable {T : Tb} {H H' H1 H2 : Hp} {ρ ρ' ρ1 ρ2 Ow Ow' Ow1 Ow2 Ow0 : List Addr} {σ : L2.St} {env : Env} {st st' : Store}
theorem VO.length {news : List Addr} {fl : List Bool} {vs : List V} {ds : List D} (h : VO T H ρ Ow news fl vs ds) : vs.length = ds.length := by
  induction h with
  | nil => rfl
  | val r rs ih => simp [ih]
  | own m h z r rs ih => simp [ih]
theorem VO.news {news : List Addr} {fl : List Bool} {vs : List V} {ds : List D} (h : VO T H ρ Ow news fl vs ds) : ∀ a ∈ news, H a ≠ none := by
  induction h with
  | nil => intro a h; cases h
  | val r rs ih => exact ih
  | own m h z r rs ih =>
    intro a ha
    rcases List.mem_cons.mp ha with e | ha
    · rw [e, h]; simp
    · exact ih a ha
/-- fewer places -/
theorem Post.shed {α : Type} {w : Wo} {H : Hp} {ρ Ow Ow' : List Addr} {Q : α → Store → Hp → List Addr → Prop} {o : O α} (hs : ∀ a ∈ Ow, a ∈ Ow') (h : Post w H ρ Ow Q o) : Post w H ρ Ow' Q o := by
  have less : ∀ {H' : Hp} {ρ' : List Addr} {st : Store}, StR w.T H' ρ' Ow' st → StR w.T H' ρ' Ow st := fun s => s.ow (fun a _ _ n h => n (hs a h)) (fun a ha hm => s.apart a ha (hs a hm)) fun a hm => s.lists a (hs a hm)
  cases o with
  | ok a st => exact fun H' ρ' e s => h H' ρ' e (less s)
  | ex c fs st =>
    intro cls dx H' ρ' e s x
    refine h cls dx H' ρ' e (less s) ⟨x.1, ?_⟩
    obtain ⟨_, x⟩ := x
    cases hx : w.xf c with
    | nil =>
      rw [hx] at x
      cases fs with
      | nil => cases dx with
        | none => trivial
        | some _ => exact x.elim
      | cons _ _ => exact x.elim
    | cons f r =>
      rw [hx] at x
      cases r with
      | cons _ _ => cases fs <;> exact x.elim
      | nil =>
        cases fs with
        | nil => exact x.elim
        | cons d r =>
          cases r with
          | cons _ _ => cases dx <;> exact x.elim
          | nil =>
            cases dx with
            | none => exact x.elim
            | some p =>
              obtain ⟨v, h1, h2, h3, h4⟩ := x
              exact ⟨v, h1, h2, fun h => h3 (hs p h), h4.ow fun a _ _ n h => n (hs a h)⟩
  | bad => exact h
end
def tOrg (T : Tb) (xf : Nat → List Nm) (W : WX) (fl : List Bool) (f : Env → Store → O (List D)) : TA := fun σ H Q => ∃ env st ρ Ow, EnR T H ρ Ow σ env ∧ StR T H ρ Ow st ∧
  Post ⟨T, xf, W, σ⟩ H ρ Ow (fun ds st2 H2 ρ2 => ∀ vs news more, (∀ a ∈ news, a ∈ more) → VO T H2 ρ2 (more ++ Ow) news fl vs ds → news.Nodup → (∀ a ∈ more, H a = none) → StR T H2 ρ2 (more ++ Ow) st2 → EnR T H2 ρ2 (more ++ Ow) σ env → Q vs H2) (f env st)
section
variable {X : Cx} {T : Tb} {xf : Nat → List Nm} {W : WX}
theorem Ext.there {H H' : Hp} {ρ ρ' : List Addr} (e : Ext H ρ H' ρ') {a : Addr} {o : HO} (h : H a = some o) (n : a ∉ ρ) : H' a = some o := (e.keep a o h n).1
theorem pa_org : ∀ {fl : List Bool} {es : List Expr} {ss : List Sem}, JOs X T xf W fl es ss → PA X es (tOrg T xf W fl (args ss))
  | _, _, _, .nil => PA.imp L2.pa_nil fun σ H Q ⟨env, st, ρ, Ow, en, sr, p⟩ => Post.ok sr p [] [] [] (fun a h => h) .nil .nil (fun a h => by cases h) sr en
  | _, _, _, .val h j js => PA.imp (L2.pa_cons j.val (pa_org js) (plain_star h _ _)) fun σ H Q ⟨env, st, ρ, Ow, en, sr, p⟩ => by
    refine ⟨env, st, ρ, Ow, en, sr, (Post.bind p).mono fun d st1 H1 ρ1 e1 s1 q v r => ?_⟩
    refine ⟨env, st1, ρ1, Ow, en.ext e1 sr.disj, s1, (Post.bind q).mono fun ds st2 H2 ρ2 e2 s2 q2 vs news more hm rs nd nw s3 n3 => ?_⟩
    refine Post.ok s2 q2 _ _ more hm (.val ?_ rs) nd (fun a ha => ?_) s3 n3
    · have r1 : RV T H1 ρ1 Ow v d := r
      have r2 : RV T H1 ρ1 (more ++ Ow) v d := r1.ow fun a h1 _ n h2 => (List.mem_append.mp h2).elim (fun h2 => h1 (nw a h2)) n
      exact r2.ext e2
    · cases hH : H a with
      | none => rfl
      | some o =>
        by_cases hρ : a ∈ ρ
        · have h1 : a ∈ ρ2 := by
            obtain ⟨m1, x1⟩ := e1.pre
            obtain ⟨m2, x2⟩ := e2.pre
            rw [x2, x1]; simp [hρ]
          exact absurd (List.mem_append_left Ow ha) (s3.apart a h1)
        · have := nw a ha
          rw [e1.there hH hρ] at this; cases this
  | _, _, _, .own h j sh js => PA.imp (L2.pa_cons j (pa_org js) (plain_star h _ _)) fun σ H Q ⟨env, st, ρ, Ow, en, sr, p⟩ => by
    refine ⟨env, st, ρ, Ow, en, sr, (Post.bind p).eqn.mono fun d st1 H1 ρ1 e1 s1 q => ?_⟩
    obtain ⟨eq, q⟩ := q
    obtain ⟨xs, rfl⟩ := sh _ _ _ _ eq
    refine ⟨xs, rfl, fun p us hp rus z => ?_⟩
    have en1 := en.ext e1 sr.disj
    have ep := Ext.new (ρ := ρ1) (o := HO.lst us) hp
    refine ⟨env, st1, ρ1, p :: Ow, en1.newOw s1 hp, s1.newOw hp, ((Post.bind q).later ep |>.shed (fun a ha => List.mem_cons_of_mem p ha)).mono fun ds st2 H2 ρ2 e2 s2 q2 vs news more hm rs nd nw s3 n3 => ?_⟩
    have mv : ∀ a, a ∈ more ++ p :: Ow → a ∈ (more ++ [p]) ++ Ow := fun a h => by simpa using h
    have mv' : (more ++ [p]) ++ Ow = more ++ p :: Ow := by simp
    have hpOw : p ∈ more ++ p :: Ow := by simp
    have hpn : p ∉ ρ2 := s3.disj p hpOw
    have hpH : H2 p = some (.lst us) := by
      have := e2.keep p _ (L2.upd_same) (fun h => by
        obtain ⟨o, q⟩ := s1.mem h
        rw [hp] at q; cases q)
      exact this.1
    have hnp : p ∉ news := fun h => by
      have := nw p (hm p h)
      rw [L2.upd_same] at this; cases this
    have s3' : StR T H2 ρ2 ((more ++ [p]) ++ Ow) st2 := by rw [mv']; exact s3
    have n3' : EnR T H2 ρ2 ((more ++ [p]) ++ Ow) σ env := by rw [mv']; exact n3
    have sOw : StR T H2 ρ2 Ow st2 := s3.ow (fun a _ _ n h => n (by simp [h])) (fun a ha hm' => s3.apart a ha (by simp [hm'])) fun a hm' => s3.lists a (by simp [hm'])
    refine Post.ok sOw q2 _ (p :: news) (more ++ [p]) (fun a ha => ?_) ?_ (List.nodup_cons.mpr ⟨hnp, nd⟩) (fun a ha => ?_) s3' n3'
    · rcases List.mem_cons.mp ha with e | ha
      · simp [e]
      · simp [hm a ha]
    · rw [mv']
      refine .own hpOw hpH z ?_ rs
      have r1 : RVs T (upd H1 p (.lst us)) ρ1 (p :: Ow) us xs := (rus.new hp).ext ep
      have r2 : RVs T (upd H1 p (.lst us)) ρ1 (more ++ p :: Ow) us xs := r1.ow fun a h1 _ n h2 => (List.mem_append.mp h2).elim (fun h2 => h1 (nw a h2)) n
      exact r2.ext e2
    · have sub : ∀ a, H1 a = none → a ∉ ρ2 → H a = none := fun a h1 h2 => by
        cases hH : H a with
        | none => rfl
        | some o =>
          by_cases hρ : a ∈ ρ
          · exfalso
            obtain ⟨m1, x1⟩ := e1.pre
            obtain ⟨m2, x2⟩ := e2.pre
            exact h2 (by rw [x2, x1]; simp [hρ])
          · rw [e1.there hH hρ] at h1; cases h1
      have hd : a ∉ ρ2 := s3'.disj a (List.mem_append_left _ ha)
      rcases List.mem_append.mp ha with ha | ha
      · have h1 := nw a ha
        have ne : a ≠ p := fun e => by rw [e, L2.upd_same] at h1; cases h1
        rw [L2.upd_ne ne] at h1
        exact sub a h1 hd
      · rw [List.mem_singleton.mp ha] at hd ⊢
        exact sub p hp hd
end
end G
namespace G
open PySem PySem.Spec PyProof.Rows
open L2 (V Hp HO upd SqL SqT Rd VK XK TE TT TA TI TS TG TGs Ends WX Cx PE PT PA PI PS PSs PG PGs Inv OpR CallR RelV Vals R2 PC PW)
def sigO : List (Bool × Nat) → List V → L2.St → L2.St
  | (_, i) :: ts, v :: vs, σ => sigO ts vs (σ.set i (some v))
  | _, _, σ => σ
section
variable {T : Tb} {H H' H1 H2 : Hp} {ρ ρ' ρ1 ρ2 Ow Ow' Ow1 Ow2 Ow0 : List Addr} {σ : L2.St} {env : Env} {st st' : Store}
theorem VO.put {news : List Addr} {fl : List Bool} {vs : List V} {ds : List D} (h : VO T H ρ Ow news fl vs ds) : ∀ {ts : List (Bool × Nat)} {σ : L2.St} {env : Env}, ts.map (·.1) = fl → Fr T Ow0 H ρ Ow σ env st → news.Nodup → (∀ a ∈ news, a ∉ Ow0) →
    (∀ a ∈ news, ∀ (j : Nat) (ys : List D), env[j]? = some (.own ys) → σ[j]? ≠ some (some (.ref a))) → ∃ env', putO ts ds env = some env' ∧ Fr T Ow0 H ρ Ow (sigO ts vs σ) env' st := by
  induction h with
  | nil =>
    intro ts σ env e f nd n0 ap
    cases ts with
    | nil => exact ⟨env, rfl, f⟩
    | cons _ _ => cases e
  | @val news fl v vs d ds r rs ih =>
    intro ts σ env e f nd n0 ap
    cases ts with
    | nil => cases e
    | cons t ts =>
      obtain ⟨b, i⟩ := t
      simp only [List.map_cons, List.cons.injEq] at e
      obtain ⟨rfl, e⟩ := e
      refine ih (ts := ts) e (f.set i r) nd n0 fun a ha j ys h => ?_
      by_cases hj : i = j
      · subst hj
        have hi : i < env.length := by
          have := (List.getElem?_eq_some_iff.mp h).1
          simpa using this
        rw [List.getElem?_set_self hi] at h; cases h
      · rw [List.getElem?_set_ne hj] at h ⊢
        exact ap a ha j ys h
  | @own news fl a us vs xs ds m h z r rs ih =>
    intro ts σ env e f nd n0 ap
    cases ts with
    | nil => cases e
    | cons t ts =>
      obtain ⟨b, i⟩ := t
      simp only [List.map_cons, List.cons.injEq] at e
      obtain ⟨rfl, e⟩ := e
      have nd' := List.nodup_cons.mp nd
      refine ih (ts := ts) e (f.setOwn i m (n0 a (List.mem_cons_self)) h z r fun j ys _ hj => ap a (List.mem_cons_self) j ys hj) nd'.2 (fun b hb => n0 b (List.mem_cons_of_mem _ hb)) fun b hb j ys hj => ?_
      by_cases hij : i = j
      · subst hij
        have hi : i < env.length := by
          have := (List.getElem?_eq_some_iff.mp hj).1
          simpa using this
        rw [List.getElem?_set_self (by rw [← f.en.len]; exact hi)]
        intro e2
        cases e2
        exact nd'.1 hb
      · rw [List.getElem?_set_ne hij] at hj ⊢
        exact ap b (List.mem_cons_of_mem _ hb) j ys hj
theorem VO.vlen {news : List Addr} {fl : List Bool} {vs : List V} {ds : List D} (h : VO T H ρ Ow news fl vs ds) : vs.length = fl.length := by
  induction h with
  | nil => rfl
  | val r rs ih => simp [ih]
  | own m h z r rs ih => simp [ih]
end
section
variable {X : Cx} {w : WS} {N : List PySem.Str} {sc : Scope} {n : Nat} {e a b c tg : Expr} {pos pos' : Pos} {se sa sb : Sem} {str : Bool} {x y z : PySem.Str} {i j l : Nat}
/-- from the statement's wish to that of its arguments and names -/
theorem org_imp {ts : List (Bool × Nat)} {ss : List Sem} {Z : Ends} {σ : L2.St} {H : Hp} {Q : List V → Hp → Prop} {env : Env} {st : Store} {ρ Ow : List Addr} (fr : Fr w.T w.Ow0 H ρ Ow σ env st)
    (p : PostR w H ρ Ow Z ((args ss env st).run env fun ds st => ofPut (putO ts ds env) st)) (i : ∀ vs H', vs.length = ts.length → (∀ H'', New H' H'' → Z.nx (sigO ts vs σ) H'') → Q vs H') :
    tOrg w.T w.xf w.W (ts.map (·.1)) (args ss) σ H Q := by
  refine ⟨env, st, ρ, Ow, fr.en, fr.sr, (PostR.run0 fr p).mono fun ds st2 H2 ρ2 e2 s2 q vs news more hm rs nd nw s3 n3 => ?_⟩
  obtain ⟨f2, q⟩ := q
  have notH : ∀ a ∈ more, ∀ vs, H a ≠ some (.lst vs) := fun a ha vs h => by rw [nw a ha] at h; cases h
  have mOw : ∀ a ∈ more, a ∉ Ow := fun a ha h => by
    obtain ⟨vs, q⟩ := fr.sr.lists a h
    exact notH a ha vs q
  have f3 : Fr w.T w.Ow0 H2 ρ2 (more ++ Ow) σ env st2 := ⟨n3, s3, fun a ha => List.mem_append_right _ (fr.sub a ha), fr.out⟩
  have stp : Step w.Ow0 H ρ Ow H2 ρ2 (more ++ Ow) := by
    refine ⟨⟨fun a o h n1 n2 => ⟨(e2.keep a o h n1).1, (e2.keep a o h n1).2, fun hm' => ?_⟩, e2.pre, e2.frz⟩, fun a ha => ?_⟩
    · rcases List.mem_append.mp hm' with hm' | hm'
      · rw [nw a hm'] at h; cases h
      · exact n2 hm'
    · have q := (fr.step e2).out a ha
      exact ⟨q.1, List.mem_append_right _ q.2⟩
  obtain ⟨env', e1, f4⟩ := rs.put (ts := ts) rfl f3 nd (fun a ha h => mOw a (hm a ha) (fr.sub a h)) fun a ha j ys hj e => by
    obtain ⟨b, us, g1, g2, g3, g4, g5⟩ := fr.en.own hj
    rw [e] at g1; cases g1
    exact notH a (hm a ha) us g3
  rw [e1] at q
  exact i vs H2 (by rw [rs.vlen]; simp) fun H'' nw => q _ _ _ _ (stp.trans (f4.step (nw.ext ρ2))) (f4.ext (nw.ext ρ2) (nw.st f4.sr))
theorem vs2 {α : Type} {vs : List α} (h : vs.length = 2) : ∃ a b, vs = [a, b] := by
  match vs, h with
  | [a, b], _ => exact ⟨a, b, rfl⟩
theorem vs3 {α : Type} {vs : List α} (h : vs.length = 3) : ∃ a b c, vs = [a, b, c] := by
  match vs, h with
  | [a, b, c], _ => exact ⟨a, b, c, rfl⟩
theorem js_par2 {px py pt : Pos} {kt k2 pt2} {oi oj : Bool} {ss : List Sem} (hc : X.calm = true) (hi : NmL X x i) (hj : NmL X y j) (hij : i ≠ j) (hx : X.env.scope.names.lookup x = some .local) (hy : X.env.scope.names.lookup y = some .local)
    (hw : swappedStores [.Tuple [.Name x px, .Name y py] kt pt] (.Tuple [a, b] k2 pt2) X.env = pure (some [x, y])) (js : JOs X w.T w.xf w.W [oi, oj] [a, b] ss) :
    JS X w (.Assign [.Tuple [.Name x px, .Name y py] kt pt] (.Tuple [a, b] k2 pt2) pos) fun env st => (args ss env st).run env fun ds st => ofPut (putO [(oi, i), (oj, j)] ds env) st :=
  PS.imp (L2.ps_par hc hi.nd hi.at_ hj.at_ hij hx hy (pa_org js) hw (by rfl)) fun Z σ H ⟨env, st, ρ, Ow, fr, p⟩ => by
    refine org_imp (ts := [(oi, i), (oj, j)]) fr p fun vs H' hl q => ?_
    obtain ⟨u, v, rfl⟩ := vs2 hl
    exact ⟨u, v, rfl, q _ (.inl rfl)⟩
theorem js_par3 {px py pz pt : Pos} {kt k2 pt2} {oi oj ol : Bool} {ss : List Sem} (hc : X.calm = true) (hi : NmL X x i) (hj : NmL X y j) (hl : NmL X z l) (hij : i ≠ j) (hil : i ≠ l) (hjl : j ≠ l) (hx : X.env.scope.names.lookup x = some .local) (hy : X.env.scope.names.lookup y = some .local) (hz : X.env.scope.names.lookup z = some .local)
    (hw : swappedStores [.Tuple [.Name x px, .Name y py, .Name z pz] kt pt] (.Tuple [a, b, c] k2 pt2) X.env = pure (some [x, y, z])) (js : JOs X w.T w.xf w.W [oi, oj, ol] [a, b, c] ss) :
    JS X w (.Assign [.Tuple [.Name x px, .Name y py, .Name z pz] kt pt] (.Tuple [a, b, c] k2 pt2) pos) fun env st => (args ss env st).run env fun ds st => ofPut (putO [(oi, i), (oj, j), (ol, l)] ds env) st :=
  PS.imp (L2.ps_par3 hc hi.nd hi.at_ hj.at_ hl.at_ hij hil hjl hx hy hz (pa_org js) hw (by rfl)) fun Z σ H ⟨env, st, ρ, Ow, fr, p⟩ => by
    refine org_imp (ts := [(oi, i), (oj, j), (ol, l)]) fr p fun vs H' hl q => ?_
    obtain ⟨u, v, t, rfl⟩ := vs3 hl
    exact ⟨u, v, t, rfl, q _ (.inl rfl)⟩
/-- names, stored from the left out of a tuple -/
inductive NmLs (X : Cx) : List Expr → List (Bool × Nat) → Prop
  | nil : NmLs X [] []
  | cons {x : PySem.Str} {p : Pos} {o : Bool} {i : Nat} {es : List Expr} {ts : List (Bool × Nat)} (h : NmL X x i) (hs : NmLs X es ts) : NmLs X (.Name x p :: es) ((o, i) :: ts)
def tNms (ts : List (Bool × Nat)) : TGs := fun vs σ H Q => vs.length = ts.length ∧ Q (sigO ts vs σ) H
theorem pgs_nms : ∀ {es : List Expr} {ts : List (Bool × Nat)}, NmLs X es ts → PGs X es (tNms ts)
  | _, _, .nil => PGs.imp L2.pgs_nil fun vs σ H Q ⟨h, q⟩ => by
    cases vs with
    | nil => exact ⟨rfl, q⟩
    | cons _ _ => cases h
  | _, _, .cons h hs => PGs.imp (L2.pgs_cons (L2.pg_name h.nd h.at_ h.loc h.fn) (pgs_nms hs) (by rfl)) fun vs σ H Q ⟨hl, q⟩ => by
    cases vs with
    | nil => cases hl
    | cons v vs => exact ⟨v, vs, rfl, by simpa using hl, q⟩
theorem nms_each : ∀ {es : List Expr} {ts : List (Bool × Nat)}, NmLs X es ts → (assignEach es X.env).length = ts.length ∧ (assignEach es X.env).findIdx? (·.1) = none
  | _, _, .nil => ⟨rfl, rfl⟩
  | _, _, .cons h hs => by
    obtain ⟨h1, h2⟩ := nms_each hs
    refine ⟨?_, ?_⟩
    · show (_ :: assignEach _ X.env).length = _
      simp [h1]
    · show (_ :: assignEach _ X.env).findIdx? _ = none
      rw [List.findIdx?_cons]
      simp [h2]
theorem js_parN {es vs : List Expr} {kt k2 : Nat} {pt pt2 : Pos} {ts : List (Bool × Nat)} {ss : List Sem} (hc : X.calm = true) (hw : swappedStores [.Tuple es kt pt] (.Tuple vs k2 pt2) X.env = pure none) (hs : ts.length ≤ 1000) (hn : NmLs X es ts) (js : JOs X w.T w.xf w.W (ts.map (·.1)) vs ss) :
    JS X w (.Assign [.Tuple es kt pt] (.Tuple vs k2 pt2) pos) fun env st => (args ss env st).run env fun ds st => ofPut (putO ts ds env) st :=
  PS.imp (L2.ps_asg (L2.pe_tup (pa_org js)) (L2.pg_tup (n := ts.length) hc (pgs_nms hn) (nms_each hn).1 (nms_each hn).2) (by rfl) hw (by rfl)) fun Z σ H ⟨env, st, ρ, Ow, fr, p⟩ => by
    refine org_imp fr p fun vs H' hl q => ⟨lim_len (lim_k (by rw [hl]; exact hs)), fun r hr => ⟨r, vs, rfl, .inl (.inl L2.upd_same), hl, hl, q _ (.inr ⟨r, vs, hr, rfl⟩)⟩⟩
end
end G
namespace G
open PySem PySem.Spec PyProof.Rows
open L2 (V Hp HO upd SqL SqT Rd VK XK TE TT TA TI TS TG TGs Ends WX Cx PE PT PA PI PS PSs PG PGs Inv OpR CallR RelV Vals R2 PC PW)
/-- a target of no star -/
def plainT : Expr → Bool
  | .Starred .. => false
  | _ => true
theorem each_cons {e : Expr} (h : plainT e = true) (es : List Expr) (env : PySem.Env) : assignEach (e :: es) env = (false, assign e env) :: assignEach es env := by
  cases e <;> first | rfl | cases h
theorem each_all {env : PySem.Env} : ∀ {es : List Expr}, es.all plainT = true → (assignEach es env).length = es.length ∧ (assignEach es env).findIdx? (·.1) = none
  | [], _ => ⟨rfl, rfl⟩
  | e :: es, h => by
    rw [List.all_cons, Bool.and_eq_true] at h
    obtain ⟨h1, h2⟩ := each_all (env := env) h.2
    rw [each_cons h.1]
    refine ⟨by simp [h1], ?_⟩
    rw [List.findIdx?_cons]
    simp [h2]
theorem assign_sub {o i : Expr} {pos : Pos} {env : PySem.Env} (h : plainE i = true) : ∀ v, assign (.Subscript o i pos) env v = (do
      let ov ← holding [v] (eval o env)
      let iv ← holding [v, ov] (eval i env)
      standAt pos
      holding [v, ov, iv] (setItem ov iv v)
      release [v, ov, iv] []) := by
  intro v
  cases i <;> first | rfl | cases h
/-- an object whose evaluation an attribute leaves as it is -/
def plainO : Expr → Bool
  | .Call (.Name _ _) [] [] _ => false
  | _ => true
theorem base_plain {o : Expr} (h : plainO o = true) (f : PySem.Str) (env : PySem.Env) (w : PySem.Sem Value) : attributeBase o f env w = w := by
  unfold attributeBase
  split
  · cases h
  · rfl
section
variable {X : Cx} {w : WS} {N : List PySem.Str} {sc : Scope} {n : Nat} {e a b c tg : Expr} {pos pos' : Pos} {se sa sb : Sem} {str : Bool} {x : PySem.Str} {i : Nat}
theorem pl_run {α : Type} {o : O α} {env : Env} {f : α → Store → R} (h : ∀ a st, (f a st).pl = true) : (o.run env f).pl = true := by
  cases o with
  | ok a st => exact h a st
  | ex c fs st => rfl
  | bad => rfl
theorem osubR_pl (i : Nat) (sb : Sem) : ∀ d env st, (osubR i sb d env st).pl = true := by
  intro d env st
  unfold osubR
  split
  · refine pl_run fun k st => ?_
    split
    · split <;> rfl
    · rfl
  · rfl
theorem jt_osub (hx : PE X (.Name x pos') (L2.tVar i)) (hb : plainE b = true) (j : JE X w.T w.xf w.W b sb true) : JT X w (.Subscript (.Name x pos') b pos) (osubR i sb) := by
  refine ⟨PG.imp (L2.pg_sub hx j.val L2.set_list (assign_sub hb)) fun v σ H Q ⟨env, st, ρ, Ow, d, fr, r, p⟩ => ?_, osubR_pl i sb⟩
  unfold osubR at p
  split at p
  · rename_i xs he
    obtain ⟨p0, us, h1, m, h2, z, rs⟩ := fr.en.own he
    refine ⟨_, h1, env, st, ρ, Ow, fr.en, fr.sr, (PostR.run fr p).mono fun k st1 H1 ρ1 e1 s1 q y ry => ?_⟩
    obtain ⟨f1, q⟩ := q
    cases k with
    | int k =>
      have ry' : RV w.T H1 ρ1 Ow y (.int k) := ry
      cases ry'
      have q' : PostR w H1 ρ1 Ow (onlyNx Q) (match ixN xs.length k with
        | some j => .nx (env.set i (.own (xs.set j d))) st1
        | none => .bad) := q
      cases hk : ixN xs.length k with
      | none => rw [hk] at q'; exact q'.elim
      | some j =>
        rw [hk] at q'
        obtain ⟨p1, us1, g1, m1, g2, z1, rs1⟩ := f1.en.own he
        rw [h1] at g1; cases g1
        refine ⟨p0, us1, k, j, rfl, rfl, g2, by rw [← ixN_eq, rs1.length]; exact hk, ?_⟩
        obtain ⟨stp, f2⟩ := f1.updOwn (us := us1.set j v) (ys := xs.set j d) he h1 (by rw [List.length_set]; exact z1) (RVs.set (r.ext e1) j rs1)
        exact q' _ _ _ _ stp f2
    | _ => exact q.elim
  · exact p.elim
theorem ltLocs_set {l : Nat} {d : D} (h : ltLoc l d = true) : ∀ {xs : List D} (j : Nat), ltLocs l xs = true → ltLocs l (xs.set j d) = true
  | [], _, _ => rfl
  | x :: xs, 0, q => by
    have q' : (ltLoc l x && ltLocs l xs) = true := q
    rw [Bool.and_eq_true] at q'
    show (ltLoc l d && ltLocs l xs) = true
    rw [h, q'.2]; rfl
  | x :: xs, j + 1, q => by
    have q' : (ltLoc l x && ltLocs l xs) = true := q
    rw [Bool.and_eq_true] at q'
    show (ltLoc l x && ltLocs l (xs.set j d)) = true
    rw [q'.1, ltLocs_set h j q'.2]; rfl
theorem subR_pl (sa sb : Sem) : ∀ d env st, (subR sa sb d env st).pl = true := by
  intro d env st
  unfold subR
  refine pl_run fun x st => pl_run fun k st => ?_
  split
  · split
    · split
      · split <;> rfl
      · rfl
    · rfl
  · rfl
theorem jt_sub (hb : plainE b = true) (ja : JE X w.T w.xf w.W a sa true) (j : JE X w.T w.xf w.W b sb true) : JT X w (.Subscript a b pos) (subR sa sb) := by
  refine ⟨PG.imp (L2.pg_sub ja.val j.val L2.set_list (assign_sub hb)) fun v σ H Q ⟨env, st, ρ, Ow, d, fr, r, p⟩ => ?_, subR_pl sa sb⟩
  refine ⟨env, st, ρ, Ow, fr.en, fr.sr, (PostR.run fr p).mono fun dx st1 H1 ρ1 e1 s1 q o ro => ?_⟩
  obtain ⟨f1, q⟩ := q
  refine ⟨env, st1, ρ1, Ow, f1.en, f1.sr, (PostR.run f1 q).mono fun dk st2 H2 ρ2 e2 s2 q2 y ry => ?_⟩
  obtain ⟨f2, q2⟩ := q2
  cases dx with
  | loc l =>
    cases dk with
    | int k =>
      have ro' : RV w.T H1 ρ1 Ow o (.loc l) := ro
      have ry' : RV w.T H2 ρ2 Ow y (.int k) := ry
      cases ry'
      have ro2 := ro'.ext e2
      cases ro2 with
      | loc ha =>
        rename_i pa
        have q2' : PostR w H2 ρ2 Ow (onlyNx Q) (match st2[l]? with
          | some (.lst xs) => match ixN xs.length k with
            | some j => if ltLoc l d then .nx env (st2.set l (.lst (xs.set j d))) else .bad
            | none => .bad
          | _ => .bad) := q2
        cases hst : st2[l]? with
        | none => rw [hst] at q2'; exact q2'.elim
        | some ob =>
          cases ob with
          | ins c fs => rw [hst] at q2'; exact q2'.elim
          | dic z ks => rw [hst] at q2'; exact q2'.elim
          | lst xs =>
            rw [hst] at q2'
            have q3 : PostR w H2 ρ2 Ow (onlyNx Q) (match ixN xs.length k with
              | some j => if ltLoc l d then .nx env (st2.set l (.lst (xs.set j d))) else .bad
              | none => .bad) := q2'
            cases hk : ixN xs.length k with
            | none => rw [hk] at q3; exact q3.elim
            | some jx =>
              rw [hk] at q3
              have q4 : PostR w H2 ρ2 Ow (onlyNx Q) (if ltLoc l d then .nx env (st2.set l (.lst (xs.set jx d))) else .bad) := q3
              split at q4
              · rename_i hl
                obtain ⟨lt, us, h1, z, rs⟩ := f2.sr.at_ l pa _ ha hst
                refine ⟨pa, us, k, jx, rfl, rfl, h1, by rw [← ixN_eq, rs.length]; exact hk, ?_⟩
                have rv : RV w.T H2 ρ2 Ow v d := (r.ext e1).ext e2
                have es : Ext H2 ρ2 (upd H2 pa (.lst (us.set jx v))) ρ2 := Ext.set (List.mem_of_getElem? ha) fun ob u z => by rw [h1] at z; cases z
                obtain ⟨stp, f3⟩ := f2.updSt (o := .lst (us.set jx v)) (ob := .lst (xs.set jx d)) ha (fun ob u z => by rw [h1] at z; cases z) ⟨ltLocs_set hl jx lt, us.set jx v, L2.upd_same, by rw [List.length_set]; exact z, RVs.set (rv.ext es) jx (rs.ext es)⟩
                exact q4 _ _ _ _ stp f3
              · exact q4.elim
    | _ => exact q2.elim
  | _ => cases dk <;> exact q2.elim
inductive JTs (X : Cx) (w : WS) : List Expr → List (D → StS) → Prop
  | nil : JTs X w [] []
  | cons {e : Expr} {f : D → StS} {es : List Expr} {fs : List (D → StS)} (h : plainT e = true) (t : JT X w e f) (ts : JTs X w es fs) : JTs X w (e :: es) (f :: fs)
theorem JTs.plain {es : List Expr} {fs : List (D → StS)} (h : JTs X w es fs) : es.all plainT = true ∧ fs.length = es.length := by
  induction h with
  | nil => exact ⟨rfl, rfl⟩
  | cons h t ts ih => exact ⟨by rw [List.all_cons, h, ih.1]; rfl, by simp [ih.2]⟩
theorem JTs.pl {es : List Expr} {fs : List (D → StS)} (h : JTs X w es fs) : ∀ ds env st, (setAll fs ds env st).pl = true := by
  induction h with
  | nil => intro ds env st; cases ds <;> rfl
  | @cons e f es fs h t ts ih =>
    intro ds env st
    cases ds with
    | nil => rfl
    | cons d ds =>
      have q := t.pl d env st
      show (seqR (f d env st) (setAll fs ds)).pl = true
      cases e : f d env st with
      | nx env1 st1 => exact ih ds env1 st1
      | ex _ _ _ _ => rfl
      | bad => rfl
      | bk _ _ => rw [e] at q; cases q
      | ct _ _ => rw [e] at q; cases q
      | rt _ _ => rw [e] at q; cases q
def tTgts (w : WS) (fs : List (D → StS)) : TGs := fun vs σ H Q => ∃ env st ρ Ow ds, Fr w.T w.Ow0 H ρ Ow σ env st ∧ RVs w.T H ρ Ow vs ds ∧ PostR w H ρ Ow (onlyNx Q) (setAll fs ds env st)
theorem jts_run {es : List Expr} {fs : List (D → StS)} (h : JTs X w es fs) : PGs X es (tTgts w fs) := by
  induction h with
  | nil =>
    refine PGs.imp L2.pgs_nil fun vs σ H Q ⟨env, st, ρ, Ow, ds, fr, rs, p⟩ => ?_
    cases rs with
    | nil => exact ⟨rfl, p σ H ρ Ow fr.refl fr⟩
    | cons _ _ => exact p.elim
  | @cons e f es fs h t ts ih =>
    refine PGs.imp (L2.pgs_cons t.run ih (by rw [each_cons h]; rfl)) fun vs σ H Q ⟨env, st, ρ, Ow, ds, fr, rs, p⟩ => ?_
    cases rs with
    | nil => exact p.elim
    | @cons v vs d ds r rs =>
      refine ⟨v, vs, rfl, env, st, ρ, Ow, d, fr, r, ?_⟩
      have p' : PostR w H ρ Ow (onlyNx Q) (seqR (f d env st) (setAll fs ds)) := p
      cases e : f d env st with
      | nx env1 st1 =>
        rw [e] at p'
        exact fun σ' H' ρ' Ow' s f' => ⟨env1, st1, ρ', Ow', ds, f', rs.keeps s.kp fr.sr.lists, PostR.later s p'⟩
      | ex env1 c fs1 st1 => rw [e] at p'; exact p'
      | bad => rw [e] at p'; exact p'
      | bk _ _ => have q := t.pl d env st; rw [e] at q; cases q
      | ct _ _ => have q := t.pl d env st; rw [e] at q; cases q
      | rt _ _ => have q := t.pl d env st; rw [e] at q; cases q
/-- (t, ..) = a tuple, a list -/
theorem js_unp {es : List Expr} {k : Nat} {pt : Pos} {fs : List (D → StS)} (C : CxC X w.T N sc n) (hc : noComp e = true) (ht : isTup e = false) (j : JE X w.T w.xf w.W e se true) (t : JTs X w es fs) :
    JS X w (.Assign [.Tuple es k pt] e pos) fun env st => (se.val env st).run env fun d st => match d with
      | .tup ds => if ds.length = fs.length then setAll fs ds env st else .bad
      | .lst ds => if ds.length = fs.length then setAll fs ds env st else .bad
      | _ => .bad := by
  obtain ⟨h1, h2⟩ := each_all (env := X.env) t.plain.1
  have g1 := L2.pg_tup (n := fs.length) (pos := pt) (k := k) C.calm (jts_run t) (by rw [h1, t.plain.2]) h2
  have g2 := L2.pg_lst (n := fs.length) (pos := pt) (k := k) C.calm (jts_run t) (by rw [h1, t.plain.2]) h2
  have g : PG X (.Tuple es k pt) (fun v σ H Q => L2.gTup X.K fs.length _ v σ H Q ∨ L2.gLst X.K fs.length _ v σ H Q) :=
    ⟨fun pins s σ H v u Q I r t => t.elim (g1.run pins s σ H v u Q I r) (g2.run pins s σ H v u Q I r)⟩
  refine PS.imp (L2.ps_asg j.val g (show swapsWithSole [.Tuple es k pt] e pos.line X.env = pure false from by unfold swapsWithSole; exact noComp_swaps hc _ _ _) (swapped_none (.inr ht)) (by rfl)) fun Z σ H ⟨env, st, ρ, Ow, fr, p⟩ => ?_
  refine ⟨env, st, ρ, Ow, fr.en, fr.sr, (PostR.run fr p).mono fun d st1 H1 ρ1 e1 s1 q v r => ?_⟩
  obtain ⟨f1, q⟩ := q
  cases d with
  | tup ds =>
    have r' : RV w.T H1 ρ1 Ow v (.tup ds) := r
    cases r' with
    | @tup a vs _ q2 z rs =>
      have q' : PostR w H1 ρ1 Ow Z (if ds.length = fs.length then setAll fs ds env st1 else .bad) := q
      split at q'
      · rename_i hl
        exact .inl ⟨a, vs, rfl, by rw [C.eK]; exact q2.sq, by rw [rs.length]; exact hl, env, st1, ρ1, Ow, ds, f1, rs, q'.only (t.pl _ _ _)⟩
      · exact q'.elim
  | lst ds =>
    have r' : RV w.T H1 ρ1 Ow v (.lst ds) := r
    cases r' with
    | @lst a vs _ q2 n1 n2 z rs =>
      have q' : PostR w H1 ρ1 Ow Z (if ds.length = fs.length then setAll fs ds env st1 else .bad) := q
      split at q'
      · rename_i hl
        exact .inr ⟨a, vs, rfl, .inl (.inl q2), by rw [rs.length]; exact hl, env, st1, ρ1, Ow, ds, f1, rs, q'.only (t.pl _ _ _)⟩
      · exact q'.elim
  | _ => exact q.elim
/-- (t, ..) = (e, ..), not exchanged -/
theorem js_asgn {es vs : List Expr} {k k2 : Nat} {pt pt2 : Pos} {fs : List (D → StS)} {ss : List Sem} (C : CxC X w.T N sc n) (hw : swappedStores [.Tuple es k pt] (.Tuple vs k2 pt2) X.env = pure none) (hs : ss.length ≤ 1000) (hl : fs.length = ss.length) (js : JEs X w.T w.xf w.W vs ss) (t : JTs X w es fs) :
    JS X w (.Assign [.Tuple es k pt] (.Tuple vs k2 pt2) pos) fun env st => (args ss env st).run env fun ds st => setAll fs ds env st := by
  obtain ⟨h1, h2⟩ := each_all (env := X.env) t.plain.1
  refine PS.imp (L2.ps_asg (L2.pe_tup (pa_args js)) (L2.pg_tup (n := fs.length) C.calm (jts_run t) (by rw [h1, t.plain.2]) h2) (by rfl) hw (by rfl)) fun Z σ H ⟨env, st, ρ, Ow, fr, p⟩ => ?_
  refine ⟨env, st, ρ, Ow, fr.en, fr.sr, (PostR.run fr p).eqn.mono fun ds st1 H1 ρ1 e1 s1 q xs rs => ?_⟩
  obtain ⟨eq, f1, q⟩ := q
  have len : xs.length = ss.length := by rw [rs.length, args_len eq]
  refine ⟨lim_len (lim_k (by rw [len]; exact hs)), fun r hr => ⟨r, xs, rfl, .inl (.inl L2.upd_same), by rw [len, hl], env, st1, ρ1, Ow, ds, ?_, rs.ext (Ext.new hr), ?_⟩⟩
  · exact f1.ext (Ext.new hr) (s1.new hr)
  · exact PostR.later (f1.step (Ext.new hr)) (q.only (t.pl _ _ _))
end
end G
namespace G
open PySem PySem.Spec PyProof.Rows
open L2 (V Hp HO upd SqL SqT Rd VK XK TE TT TA TI TS TG TGs Ends WX Cx PE PT PA PI PS PSs PG PGs Inv OpR CallR RelV Vals R2 PC PW)
section
variable {X : Cx} {w : WS} {N : List PySem.Str} {sc : Scope} {n : Nat} {e a b c tg : Expr} {pos pos' : Pos} {se sa sb sc' : Sem} {str : Bool} {x : PySem.Str} {i : Nat}
/-- two states are alike but for some slots -/
def Off (is : List Nat) (σ σ' : L2.St) : Prop := σ'.length = σ.length ∧ ∀ j, j ∉ is → σ'[j]? = σ[j]?
theorem Off.trans {is js : List Nat} {σ σ1 σ2 : L2.St} (a : Off is σ σ1) (b : Off js σ1 σ2) : Off (is ++ js) σ σ2 :=
  ⟨b.1.trans a.1, fun j hj => by
    rw [List.mem_append, not_or] at hj
    rw [b.2 j hj.2, a.2 j hj.1]⟩
def tPt (T : Tb) (Ow0 : List Addr) (p : Pt) : TG := fun v σ H Q => ∃ env st ρ Ow d env', Fr T Ow0 H ρ Ow σ env st ∧ RV T H ρ Ow v d ∧ setPt p d env = some env' ∧ ∀ σ', Fr T Ow0 H ρ Ow σ' env' st → Off (ptSlots p) σ σ' → Q σ' H
def tPts (T : Tb) (Ow0 : List Addr) (ps : List Pt) : TGs := fun vs σ H Q => ∃ env st ρ Ow ds env', Fr T Ow0 H ρ Ow σ env st ∧ RVs T H ρ Ow vs ds ∧ setPts ps ds env = some env' ∧ ∀ σ', Fr T Ow0 H ρ Ow σ' env' st → Off (ptsSlots ps) σ σ' → Q σ' H
theorem setPts_len : ∀ {ps : List Pt} {ds : List D} {env env' : Env}, setPts ps ds env = some env' → ds.length = ps.length
  | [], [], _, _, _ => rfl
  | [], _ :: _, _, _, h => by simp [setPts] at h
  | _ :: _, [], _, _, h => by simp [setPts] at h
  | p :: ps, d :: ds, env, env', h => by
    simp only [setPts] at h
    obtain ⟨e1, h1, h2⟩ := Option.bind_eq_some_iff.mp h
    simp [setPts_len h2]
variable {T : Tb} {Ow0 : List Addr}
theorem pt_nm (h : NmL X x i) : PG X (.Name x pos) (tPt T Ow0 (.nm i)) :=
  PG.imp (L2.pg_name h.nd h.at_ h.loc h.fn) fun v σ H Q ⟨env, st, ρ, Ow, d, env', f, r, e, q⟩ => by
    have e' : some (env.set i (.v d)) = some env' := by simpa [setPt] using e
    cases e'
    exact q _ (f.set i r) ⟨by simp, fun j hj => List.getElem?_set_ne fun e => hj (by simp [ptSlots, e])⟩
theorem pts_nil : PGs X [] (tPts T Ow0 []) := PGs.imp L2.pgs_nil fun vs σ H Q ⟨env, st, ρ, Ow, ds, env', f, rs, e, q⟩ => by
  cases rs with
  | nil =>
    have e' : some env = some env' := by simpa [setPts] using e
    cases e'
    exact ⟨rfl, q σ f ⟨rfl, fun _ _ => rfl⟩⟩
  | cons _ _ => simp [setPts] at e
theorem pts_cons {es : List Expr} {p : Pt} {ps : List Pt} (h : plainT e = true) (t : PG X e (tPt T Ow0 p)) (ts : PGs X es (tPts T Ow0 ps)) : PGs X (e :: es) (tPts T Ow0 (p :: ps)) :=
  PGs.imp (L2.pgs_cons t ts (by rw [each_cons h]; rfl)) fun vs σ H Q ⟨env, st, ρ, Ow, ds, env', f, rs, e, q⟩ => by
    cases rs with
    | nil => simp [setPts] at e
    | @cons v vs d ds r rs =>
      simp only [setPts] at e
      obtain ⟨e1, h1, h2⟩ := Option.bind_eq_some_iff.mp e
      exact ⟨v, vs, rfl, env, st, ρ, Ow, d, e1, f, r, h1, fun σ' f' o1 => ⟨e1, st, ρ, Ow, ds, env', f', rs, h2, fun σ2 f2 o2 => q σ2 f2 (o1.trans o2)⟩⟩
theorem pt_tp {es : List Expr} {k : Nat} {ps : List Pt} (hc : X.calm = true) (hK : X.K = T.K) (hp : es.all plainT = true) (hl : es.length = ps.length) (ts : PGs X es (tPts T Ow0 ps)) : PG X (.Tuple es k pos) (tPt T Ow0 (.tp ps)) := by
  obtain ⟨h1, h2⟩ := each_all (env := X.env) hp
  have g1 := L2.pg_tup (n := ps.length) (pos := pos) (k := k) hc ts (by rw [h1, hl]) h2
  have g2 := L2.pg_lst (n := ps.length) (pos := pos) (k := k) hc ts (by rw [h1, hl]) h2
  have g : PG X (.Tuple es k pos) fun v σ H Q => L2.gTup X.K ps.length (tPts T Ow0 ps) v σ H Q ∨ L2.gLst X.K ps.length (tPts T Ow0 ps) v σ H Q :=
    ⟨fun pins s σ H v u Q I r t => t.elim (g1.run pins s σ H v u Q I r) (g2.run pins s σ H v u Q I r)⟩
  refine PG.imp g fun v σ H Q ⟨env, st, ρ, Ow, d, env', f, r, e, q⟩ => ?_
  cases d with
  | tup ds =>
    have e' : setPts ps ds env = some env' := by simpa [setPt] using e
    cases r with
    | @tup a vs _ q2 z rs => exact .inl ⟨a, vs, rfl, by rw [hK]; exact q2.sq, by rw [rs.length]; exact setPts_len e', env, st, ρ, Ow, ds, env', f, rs, e', q⟩
  | lst ds =>
    have e' : setPts ps ds env = some env' := by simpa [setPt] using e
    cases r with
    | @lst a vs _ q2 n1 n2 z rs => exact .inr ⟨a, vs, rfl, .inl (.inl q2), by rw [rs.length]; exact setPts_len e', env, st, ρ, Ow, ds, env', f, rs, e', q⟩
  | exc c ds =>
    have e' : setPts ps ds env = some env' := by simpa [setPt] using e
    cases r with
    | @raw a vs _ q2 n z rs => exact .inl ⟨a, vs, rfl, .inl q2, by rw [rs.length]; exact setPts_len e', env, st, ρ, Ow, ds, env', f, rs, e', q⟩
  | _ => simp [setPt] at e
theorem js_for {iter : Expr} {body : List Stmt} {p : Pt} {f : StS} (C : CxS X w N sc n) (hf : plainE iter = true) (j : PI X tg iter (tIt w.T w.xf w.W true se.items)) (t : PG X tg (tPt w.T w.Ow0 p)) (jb : JSs X w body f) :
    JS X w (.For tg iter body [] pos) fun env st => (se.items env st).run env fun xs st => forL f p xs env st :=
  PS.imp (L2.ps_for C.own C.calm j t jb (fun x => plain_fold hf _ _)) fun Z σ H ⟨env, st, ρ, Ow, fr, po⟩ => by
    refine ⟨env, st, ρ, Ow, fr.en, fr.sr, (PostR.run fr po).mono fun ds st1 H1 ρ1 e1 s1 q J wk => ?_⟩
    obtain ⟨f1, q⟩ := q
    refine ⟨fun i m σ' H' => i ≤ ds.length ∧ m = ds.length - i ∧ ∃ env st ρ' Ow', Keeps H1 ρ1 Ow H' ρ' Ow' ∧ Fr w.T w.Ow0 H' ρ' Ow' σ' env st ∧ PostR w H' ρ' Ow' Z (forL f p (ds.drop i) env st), ⟨ds.length, Nat.zero_le _, rfl, env, st1, ρ1, Ow, Keeps.refl _ _ _, f1, q⟩, ?_⟩
    rintro i m σ2 H2 ⟨hi, rfl, env2, st2, ρ2, Ow2, k2, f2, p2⟩
    by_cases hl : i = ds.length
    · subst hl
      rw [List.drop_length] at p2
      exact .inl ⟨wk.stop H2 ρ2 Ow2 k2, p2 _ _ _ _ f2.refl f2⟩
    · have hlt : i < ds.length := by omega
      obtain ⟨d, hd⟩ : ∃ d, ds[i]? = some d := ⟨ds[i], List.getElem?_eq_getElem hlt⟩
      obtain ⟨go, yl⟩ := wk.step i d H2 ρ2 Ow2 st2 hd k2 f2.sr
      have hdr : ds.drop i = d :: ds.drop (i + 1) := by
        rw [List.drop_eq_getElem_cons hlt]
        have := (List.getElem?_eq_some_iff.mp hd).2
        rw [this]
      rw [hdr] at p2
      refine .inr ⟨go, fun σ' H' => ∃ env st ρ' Ow', Keeps H1 ρ1 Ow H' ρ' Ow' ∧ Fr w.T w.Ow0 H' ρ' Ow' σ' env st ∧ PostR w H' ρ' Ow' Z (forL f p (ds.drop (i + 1)) env st), fun σ' H' h => ⟨ds.length - (i + 1), by omega, by omega, rfl, h⟩, fun y H3 hy => ?_⟩
      obtain ⟨nw, ry⟩ := yl y H3 hy
      have f3 := f2.ext (nw.ext ρ2) (nw.st f2.sr)
      have stp3 := f2.step (nw.ext ρ2)
      have p3 : PostR w H2 ρ2 Ow2 Z (match setPt p d env2 with
        | none => .bad
        | some env => match f env st2 with
          | .nx env st => forL f p (ds.drop (i + 1)) env st
          | .ct env st => forL f p (ds.drop (i + 1)) env st
          | .bk env st => .nx env st
          | o => o) := p2
      cases hs : setPt p d env2 with
      | none => rw [hs] at p3; exact p3.elim
      | some env3 =>
        rw [hs] at p3
        refine ⟨env2, st2, ρ2, Ow2, d, env3, f3, ry, hs, fun σ3 f4 _ => ⟨env3, st2, ρ2, Ow2, f4, ?_⟩⟩
        have p4 : PostR w H2 ρ2 Ow2 Z (match f env3 st2 with
          | .nx env st => forL f p (ds.drop (i + 1)) env st
          | .ct env st => forL f p (ds.drop (i + 1)) env st
          | .bk env st => .nx env st
          | o => o) := p3
        have k3 : Keeps H1 ρ1 Ow H3 ρ2 Ow2 := k2.trans stp3.kp
        cases hr : f env3 st2 with
        | nx env4 st4 =>
          rw [hr] at p4
          exact fun σ5 H5 ρ5 Ow5 s5 f5 => ⟨env4, st4, ρ5, Ow5, k3.trans s5.kp, f5, PostR.later (stp3.trans s5) p4⟩
        | ct env4 st4 =>
          rw [hr] at p4
          exact fun σ5 H5 ρ5 Ow5 s5 f5 => ⟨env4, st4, ρ5, Ow5, k3.trans s5.kp, f5, PostR.later (stp3.trans s5) p4⟩
        | bk env4 st4 =>
          rw [hr] at p4
          exact fun σ5 H5 ρ5 Ow5 s5 f5 => p4 σ5 H5 ρ5 Ow5 (stp3.trans s5) f5
        | rt d4 st4 =>
          rw [hr] at p4
          exact fun v H5 ρ5 Ow5 s5 => p4 v H5 ρ5 Ow5 (stp3.trans s5)
        | ex env4 c4 fs4 st4 =>
          rw [hr] at p4
          exact fun cls dx σ5 H5 ρ5 Ow5 s5 => p4 cls dx σ5 H5 ρ5 Ow5 (stp3.trans s5)
        | bad => rw [hr] at p4; exact p4
theorem js_while {body : List Stmt} {f : StS} (C : CxS X w N sc n) (jc : JE X w.T w.xf w.W c sc' str) (jb : JSs X w body f) : JS X w (.While c body [] pos) (whileL sc'.test f 2000) :=
  PS.imp (L2.ps_while C.own jc.test jb) fun Z σ H ⟨env, st, ρ, Ow, fr, po⟩ => by
    refine ⟨fun m σ' H' => ∃ env st ρ' Ow', Fr w.T w.Ow0 H' ρ' Ow' σ' env st ∧ PostR w H' ρ' Ow' Z (whileL sc'.test f m env st), ⟨2000, env, st, ρ, Ow, fr, po⟩, ?_⟩
    rintro m σ2 H2 ⟨env2, st2, ρ2, Ow2, f2, p2⟩
    cases m with
    | zero => exact p2.elim
    | succ m =>
      have p3 : PostR w H2 ρ2 Ow2 Z ((sc'.test env2 st2).run env2 fun b st => if b then (match f env2 st with
        | .nx env st => whileL sc'.test f m env st
        | .ct env st => whileL sc'.test f m env st
        | .bk env st => .nx env st
        | o => o) else .nx env2 st) := p2
      refine ⟨env2, st2, ρ2, Ow2, f2.en, f2.sr, (PostR.run f2 p3).mono fun b st3 H3 ρ3 e3 s3 q => ?_⟩
      obtain ⟨f3, q⟩ := q
      cases b with
      | false => exact q _ _ _ _ f3.refl f3
      | true =>
        have p4 : PostR w H3 ρ3 Ow2 Z (match f env2 st3 with
          | .nx env st => whileL sc'.test f m env st
          | .ct env st => whileL sc'.test f m env st
          | .bk env st => .nx env st
          | o => o) := q
        show ∃ N : L2.St → Hp → Prop, _
        refine ⟨fun σ' H' => ∃ env st ρ' Ow', Fr w.T w.Ow0 H' ρ' Ow' σ' env st ∧ PostR w H' ρ' Ow' Z (whileL sc'.test f m env st), fun σ' H' h => ⟨m, Nat.lt_succ_self m, h⟩, env2, st3, ρ3, Ow2, f3, ?_⟩
        cases hr : f env2 st3 with
        | nx env4 st4 =>
          rw [hr] at p4
          exact fun σ5 H5 ρ5 Ow5 s5 f5 => ⟨env4, st4, ρ5, Ow5, f5, PostR.later s5 p4⟩
        | ct env4 st4 =>
          rw [hr] at p4
          exact fun σ5 H5 ρ5 Ow5 s5 f5 => ⟨env4, st4, ρ5, Ow5, f5, PostR.later s5 p4⟩
        | bk env4 st4 => rw [hr] at p4; exact p4
        | rt d4 st4 => rw [hr] at p4; exact p4
        | ex env4 c4 fs4 st4 => rw [hr] at p4; exact p4
        | bad => rw [hr] at p4; exact p4
theorem isList {K : PySem.W.Frag} {H : Hp} {a : Addr} {vs : List V} (h : H a = some (.lst vs)) : L2.tyV K "list" (.ref a) H := .inl ⟨rfl, vs, .inl (.inl h)⟩
theorem js_app {apos cpos : Pos} (he : plainE e = true) (hl : (apos.endLine == cpos.line) = true) (hx : PE X (.Name x pos') (L2.tVar i)) (j : JE X w.T w.xf w.W e se true) :
    JS X w (.Expr (.Call (.Attribute (.Name x pos') "append" apos) [e] [] cpos) pos) (appR i se) :=
  PS.imp (L2.ps_expr (L2.pe_bm PySem.F.plainAttrs_list PySem.F.slot_list_append PySem.F.type_list_append L2.mt_append hx (L2.pa_cons j.val L2.pa_nil (plain_star he _ _)) (base_plain rfl _ _ _)
      (by rw [plain_star he]; rfl) hl (plain_star he _ _) (by rfl)) (by rfl)) fun Z σ H ⟨env, st, ρ, Ow, fr, p⟩ => by
    unfold appR at p
    split at p
    · rename_i xs hs
      obtain ⟨p0, us, h1, m, h2, z, rs⟩ := fr.en.own hs
      refine ⟨_, h1, isList h2, env, st, ρ, Ow, fr.en, fr.sr, (PostR.run fr p).mono fun d st1 H1 ρ1 e1 s1 q y ry => ?_⟩
      obtain ⟨f1, q⟩ := q
      have q' : PostR w H1 ρ1 Ow Z (if xs.length < LIM then .nx (env.set i (.own (xs ++ [d]))) st1 else .bad) := q
      split at q'
      · rename_i hlt
        obtain ⟨p1, us1, g1, m1, g2, z1, rs1⟩ := f1.en.own hs
        rw [h1] at g1; cases g1
        refine ⟨p0, us1, y, rfl, rfl, g2, by rw [← lim_line, rs1.length]; exact hlt, ?_⟩
        obtain ⟨stp, f2⟩ := f1.updOwn (us := us1 ++ [y]) (ys := xs ++ [d]) hs h1 (by rw [List.length_append, rs1.length]; exact hlt) (rs1.append (.cons ry .nil))
        exact q' _ _ _ _ stp f2
      · exact q'.elim
    · exact p.elim
theorem js_aug1 {o : Op2} {op : Operator} (h : NmL X x i) (g : Int → Int → Int) (hg : ∀ x y env st, aug1 o i x (.int y) env st = .nx (env.set i (.v (.int (g x y)))) st) (hp : L2.PIp X op (L2.ipI g)) (j : JE X w.T w.xf w.W e se str) :
    JS X w (.AugAssign (.Name x pos') op e pos) (augR i o se) :=
  PS.imp (L2.ps_aug h.nd h.at_ h.loc j.val hp h.fn) fun Z σ H ⟨env, st, ρ, Ow, fr, p⟩ => by
    unfold augR at p
    split at p
    · rename_i x0 he
      obtain ⟨v, hv, r⟩ := fr.en.get he
      cases r
      refine ⟨_, hv, env, st, ρ, Ow, fr.en, fr.sr, (PostR.run fr p).mono fun d st1 H1 ρ1 e1 s1 q y ry => ?_⟩
      obtain ⟨f1, q⟩ := q
      cases d with
      | int y0 =>
        have e2 := ry.w.u.int
        subst e2
        rw [hg] at q
        exact ⟨x0, y0, rfl, rfl, q _ _ _ _ f1.refl (f1.set i (.int _))⟩
      | _ => cases o <;> exact q.elim
    · exact p.elim
theorem js_aug {o : Op2} {op : Operator} (h : NmL X x i) (ho : (o = .add ∧ op = .Add) ∨ (o = .sub ∧ op = .Sub)) (j : JE X w.T w.xf w.W e se str) : JS X w (.AugAssign (.Name x pos') op e pos) (augR i o se) := by
  rcases ho with ⟨rfl, rfl⟩ | ⟨rfl, rfl⟩
  · exact js_aug1 h (fun a b => a + b) (fun _ _ _ _ => rfl) L2.ip_add j
  · exact js_aug1 h (fun a b => a - b) (fun _ _ _ _ => rfl) L2.ip_sub j
end
end G
namespace G
open PySem PySem.Spec PyProof.Rows
open L2 (V Hp HO upd SqL SqT Rd VK XK TE TT TA TI TS TG TGs Ends WX Cx PE PT PA PI PS PSs PG PGs Inv OpR CallR RelV Vals R2 PC PW)
section
variable {X : Cx} {w : WS} {x : PySem.Str} {i : Nat} {e e2 : Expr} {pos pos' : Pos} {se sk : Sem} {str : Bool}
theorem js_ins {apos cpos : Pos} (he : plainE e = true) (he2 : plainE e2 = true) (hl : (apos.endLine == cpos.line) = true) (hx : PE X (.Name x pos') (L2.tVar i)) (jk : JE X w.T w.xf w.W e sk true) (j : JE X w.T w.xf w.W e2 se true) :
    JS X w (.Expr (.Call (.Attribute (.Name x pos') "insert" apos) [e, e2] [] cpos) pos) (insS i sk se) :=
  PS.imp (L2.ps_expr (L2.pe_bm PySem.F.plainAttrs_list PySem.F.slot_list_insert PySem.F.type_list_insert L2.mt_insert hx (L2.pa_cons jk.val (L2.pa_cons j.val L2.pa_nil (plain_star he2 _ _)) (plain_star he _ _)) (base_plain rfl _ _ _)
      (by rw [plain_star he, plain_star he2]; rfl) hl (plain_star he _ _) (by rw [plain_star he2]; rfl)) (by rfl)) fun Z σ H ⟨env, st, ρ, Ow, fr, p⟩ => by
    unfold insS at p
    split at p
    · rename_i xs hs
      obtain ⟨p0, us, h1, m, h2, z, rs⟩ := fr.en.own hs
      refine ⟨_, h1, isList h2, env, st, ρ, Ow, fr.en, fr.sr, (PostR.run fr p).mono fun dk st1 H1 ρ1 e1 s1 q yk ryk => ?_⟩
      obtain ⟨f1, q⟩ := q
      refine ⟨env, st1, ρ1, Ow, f1.en, f1.sr, (PostR.run f1 q).mono fun d st2 H2 ρ2 e2 s2 q2 y ry => ?_⟩
      obtain ⟨f2, q2⟩ := q2
      cases dk with
      | int k =>
        cases ryk
        have q' : PostR w H2 ρ2 Ow Z (if 0 ≤ k ∧ k ≤ xs.length ∧ xs.length < LIM then .nx (env.set i (.own (xs.take k.toNat ++ d :: xs.drop k.toNat))) st2 else .bad) := q2
        split at q'
        · rename_i hlt
          obtain ⟨p1, us1, g1, m1, g2, z1, rs1⟩ := f2.en.own hs
          rw [h1] at g1; cases g1
          have hl1 : us1.length = xs.length := rs1.length
          have hL : LIM < 2 ^ 63 := by unfold LIM; decide
          refine ⟨p0, us1, k, y, rfl, rfl, g2, by rw [← lim_line, hl1]; exact hlt.2.2, hlt.1, by omega, ?_⟩
          have rr : RVs w.T H2 ρ2 Ow (us1.take k.toNat ++ [y] ++ us1.drop k.toNat) (xs.take k.toNat ++ d :: xs.drop k.toNat) := by
            rw [List.append_assoc]
            exact (rs1.take _).append (.cons ry (rs1.drop _))
          obtain ⟨stp, f3⟩ := f2.updOwn (us := us1.take k.toNat ++ [y] ++ us1.drop k.toNat) (ys := xs.take k.toNat ++ d :: xs.drop k.toNat) hs h1 (by simp only [List.length_append, List.length_take, List.length_drop, List.length_singleton]; omega) rr
          exact q' _ _ _ _ stp f3
        · exact q'.elim
      | _ => exact q2.elim
    · exact p.elim
end
end G
namespace G
open PySem PySem.Spec PyProof.Rows
open L2 (V Hp HO upd SqL SqT Rd VK XK TE TT TA TI TS TG TGs Ends WX Cx PE PT PA PI PS PSs PG PGs Inv OpR CallR RelV Vals R2 PC PW Sp Room Env0 CR FnScope cxOf Binds Gl)
/-- a call's wish -/
def Want (T : Tb) (xf : Nat → List Nm) (c : Fd) (vs : List V) (H : Hp) (Q : VK) (E : XK) : Prop :=
  ∃ st ρ Ow ds, StR T H ρ Ow st ∧ RVs T H ρ Ow vs ds ∧ Post ⟨T, xf, fun cls dx _ H' => E cls dx H', []⟩ H ρ Ow (fun d _ H' ρ' => ∀ v, RV T H' ρ' Ow v d → Q v H') (c ds st)
/-- a call's wish of a new list -/
def Give (fr : Bool) (T : Tb) (Q : VK) (d : D) (H : Hp) (ρ Ow : List Addr) : Prop := match fr with
  | false => ∀ v, RV T H ρ Ow v d → Q v H
  | true => ∃ xs, d = .lst xs ∧ ∀ p vs, H p = none → RVs T H ρ Ow vs xs → vs.length ≤ LIM → Q (.ref p) (upd H p (.lst vs))
def WantX (fr : Bool) (T : Tb) (xf : Nat → List Nm) (c : Fd) (vs : List V) (H : Hp) (Q : VK) (E : XK) : Prop :=
  ∃ st ρ Ow ds, StR T H ρ Ow st ∧ RVs T H ρ Ow vs ds ∧ Post ⟨T, xf, fun cls dx _ H' => E cls dx H', []⟩ H ρ Ow (fun d _ H' ρ' => Give fr T Q d H' ρ' Ow) (c ds st)
/-- what surrounds all: the program, the module's facts -/
structure Wd where
  P : Program
  w : World
  K : PySem.W.Frag
  mg : PySem.Str → Option Value
  base : Heap
  T : Tb
  xf : Nat → List Nm
/-- a def keeps its meaning -/
structure FnG (Y : Wd) (k : Nat) (f : Addr) (fd : FuncData) (ps : List PySem.Str) (c : Fd) : Prop where
  run : ∀ (A : Around) (outer : List PySem.Env) (s : Shared) (H : Hp) (args : Args) (us : List Value) (vs : List V) (Q : VK) (E : XK), Room k A → A.guards = some [] → Env0 Y.P Y.w Y.K Y.mg Y.base A outer s H → BindsTo s fd args (ps.zip us) → Vals vs us → vs.length = ps.length → Want Y.T Y.xf c vs H Q E →
    codeAny (model Y.P Y.w) A (.call (.ref f) args) (CR (L2.CX Y.P Y.w) outer Y.P Y.w H s Q E) s
/-- the same, of a def that gives a new list -/
structure FnX (fr : Bool) (Y : Wd) (k : Nat) (f : Addr) (fd : FuncData) (ps : List PySem.Str) (c : Fd) : Prop where
  run : ∀ (A : Around) (outer : List PySem.Env) (s : Shared) (H : Hp) (args : Args) (us : List Value) (vs : List V) (Q : VK) (E : XK), Room k A → A.guards = some [] → Env0 Y.P Y.w Y.K Y.mg Y.base A outer s H → BindsTo s fd args (ps.zip us) → Vals vs us → vs.length = ps.length → WantX fr Y.T Y.xf c vs H Q E →
    codeAny (model Y.P Y.w) A (.call (.ref f) args) (CR (L2.CX Y.P Y.w) outer Y.P Y.w H s Q E) s
theorem FnX.g {Y : Wd} {j : Nat} {f : Addr} {fd : FuncData} {ps : List PySem.Str} {c : Fd} (F : FnX false Y j f fd ps c) : FnG Y j f fd ps c := ⟨F.run⟩
theorem FnG.mono {Y : Wd} {j k : Nat} {f : Addr} {fd : FuncData} {ps : List PySem.Str} {c : Fd} (F : FnG Y j f fd ps c) (h : j ≤ k) : FnG Y k f fd ps c :=
  ⟨fun A outer s H args us vs Q E hr => F.run A outer s H args us vs Q E (hr.mono h)⟩
section
variable {Y : Wd} {N ps : List PySem.Str} {qual : PySem.Str} {scope : Scope} {f : Addr} {cdv : Value} {k : Nat}
/-- the state at a body's start -/
theorem start_en {T : Tb} {H : Hp} {ρ Ow : List Addr} {vs : List V} {ds : List D} {st : Store} {m : Nat} (hm : N.length = m) (hl : vs.length ≤ m) (sr : StR T H ρ Ow st) (rs : RVs T H ρ Ow vs ds) :
    Fr T Ow H ρ Ow (L2.start N vs) (ds.map Sl.v ++ List.replicate (m - ds.length) .em) st := by
  have e1 := rs.length
  have none_own : ∀ (i : Nat) (xs : List D), (ds.map Sl.v ++ List.replicate (m - ds.length) .em)[i]? ≠ some (.own xs) := fun i xs h => by
    by_cases hi : i < (ds.map Sl.v).length
    · rw [List.getElem?_append_left hi, List.getElem?_map] at h
      cases e : ds[i]? with
      | none => rw [e] at h; cases h
      | some d => rw [e] at h; cases h
    · rw [List.getElem?_append_right (by omega), List.getElem?_replicate] at h
      split at h <;> cases h
  refine ⟨⟨?_, fun i s h => ?_, fun i j xs ys a h1 h2 _ _ => absurd h1 (none_own i xs)⟩, sr, fun a ha => ha, fun i xs a h1 _ => absurd h1 (none_own i xs)⟩
  · unfold L2.start
    simp only [List.length_append, List.length_map, List.length_replicate]
    omega
  · by_cases hi : i < (ds.map Sl.v).length
    · rw [List.getElem?_append_left hi, List.getElem?_map] at h
      cases e : ds[i]? with
      | none => rw [e] at h; cases h
      | some d =>
        rw [e] at h
        cases h
        obtain ⟨v, hv, r⟩ := rs.get e
        have hi2 : i < (vs.map some).length := by
          have := (List.getElem?_eq_some_iff.mp hv).1
          simpa using this
        unfold L2.start
        rw [List.getElem?_append_left hi2, List.getElem?_map, hv]
        exact r
    · rw [List.getElem?_append_right (by omega), List.getElem?_replicate] at h
      split at h
      · cases h
        cases (L2.start N vs)[i]? with
        | none => trivial
        | some o => cases o <;> trivial
      · cases h
/-- the heap without one place -/
def er (H : Hp) (a : Addr) : Hp := fun b => if b = a then none else H b
theorem er_ne {H : Hp} {a b : Addr} (h : b ≠ a) : er H a b = H b := by unfold er; rw [if_neg h]
theorem er_same {H : Hp} {a : Addr} : er H a a = none := by unfold er; rw [if_pos rfl]
theorem er_upd {H : Hp} {a : Addr} {o : HO} (h : H a = some o) : upd (er H a) a o = H := by
  funext b
  by_cases e : b = a
  · rw [e, L2.upd_same, h]
  · rw [L2.upd_ne e, er_ne e]
section
variable {T : Tb} {H : Hp} {ρ Ow : List Addr} {a : Addr} {us : List V}
theorem _root_.L2.Rd.er {b : Addr} {vs : List V} (h : H a = some (.lst us)) (q : Rd H b (.tup vs)) : Rd (G.er H a) b (.tup vs) := by
  have ne : b ≠ a := fun e => by
    subst e
    rcases q with q | ⟨o, q⟩ <;> rw [h] at q <;> cases q
  rcases q with q | ⟨o, q⟩
  · exact .inl (by rw [er_ne ne]; exact q)
  · exact .inr ⟨o, by rw [er_ne ne]; exact q⟩
theorem StT.er {K : PySem.W.Frag} (h : H a = some (.lst us)) {b : Addr} {vs : List V} (q : StT K H ρ b vs) : StT K (er H a) ρ b vs := by
  rcases q with ⟨⟨o, q, hd⟩, n⟩ | q
  · have ne : b ≠ a := fun e => by rw [e, h] at q; cases q
    exact .inl ⟨⟨o, by rw [er_ne ne]; exact q, hd⟩, n⟩
  · exact .inr q
theorem StL.er {K : PySem.W.Frag} (h : H a = some (.lst us)) {b : Addr} {vs : List V} (q : StL K H ρ b vs) : StL K (er H a) ρ b vs := by
  rcases q with ⟨⟨o, q⟩, n⟩ | q
  · have ne : b ≠ a := fun e => by rw [e, h] at q; cases q
    exact .inl ⟨⟨o, by rw [er_ne ne]; exact q⟩, n⟩
  · exact .inr q
mutual
theorem RV.er (h : H a = some (.lst us)) (m : a ∈ Ow) : ∀ {d : D} {v : V}, RV T H ρ Ow v d → RV T (er H a) ρ Ow v d
  | _, _, .non => .non
  | _, _, .bl b => .bl b
  | _, _, .int i => .int i
  | _, _, .str s h c => .str s h c
  | _, _, .tup q z r => .tup (q.er h) z (RVs.er h m r)
  | _, _, .lst q n1 n2 z r => .lst (by rw [er_ne fun e => n2 (by rw [e]; exact m)]; exact q) n1 n2 z (RVs.er h m r)
  | _, _, .fl q z r => .fl (q.er h) z (RVs.er h m r)
  | _, _, .loc h => .loc h
  | _, _, .obj q n1 n2 z r => .obj (by rw [er_ne fun e => n2 (by rw [e]; exact m)]; exact q) n1 n2 z (RVs.er h m r)
  | _, _, .dct q n1 n2 hk r => .dct (by rw [er_ne fun e => n2 (by rw [e]; exact m)]; exact q) n1 n2 hk (RVs.er h m r)
  | _, _, .cls c => .cls c
  | _, _, .raw q n z r => .raw (q.er h) n z (RVs.er h m r)
theorem RVs.er (h : H a = some (.lst us)) (m : a ∈ Ow) : ∀ {ds : List D} {vs : List V}, RVs T H ρ Ow vs ds → RVs T (er H a) ρ Ow vs ds
  | _, _, .nil => .nil
  | _, _, .cons r rs => .cons (RV.er h m r) (RVs.er h m rs)
end
theorem TabG.er {P : Addr} {q : PySem.Str} (h : H a = some (.lst us)) (t : TabG H ρ P q) : TabG (G.er H a) ρ P q := by
  have n := t.notList (vs := us)
  obtain ⟨ps, h1, h2, h3⟩ := t
  refine ⟨ps, by rw [er_ne fun e => n (by rw [e]; exact h)]; exact h1, h2, fun pos cv hc => ?_⟩
  obtain ⟨c, e1, e2, e3⟩ := h3 pos cv hc
  exact ⟨c, e1, by rw [er_ne fun e => by rw [e, h] at e2; exact codeO_list e2.symm]; exact e2, e3⟩
theorem StR.er {st : Store} (h : H a = some (.lst us)) (m : a ∈ Ow) {Ow0 : List Addr} (sub : ∀ b ∈ Ow0, b ∈ Ow) (n : a ∉ Ow0) (s : StR T H ρ Ow st) : StR T (er H a) ρ Ow0 st := by
  have wk : ∀ b, (G.er H a) b ≠ none → b ∉ ρ → b ∉ Ow → b ∉ Ow0 := fun b _ _ hb h2 => hb (sub b h2)
  refine ⟨s.len, s.nd, fun b hb h2 => s.apart b hb (sub b h2), fun b hb => ?_, fun l b ob h1 h2 => ?_, fun i q hq => ⟨(s.tab i q hq).1, (s.tab i q hq).2.er h⟩⟩
  · obtain ⟨vs, q⟩ := s.lists b (sub b hb)
    exact ⟨vs, by rw [er_ne fun e => n (by rw [← e]; exact hb)]; exact q⟩
  · have q := s.at_ l b ob h1 h2
    have ne : b ≠ a := fun e => s.apart b (List.mem_of_getElem? h1) (by rw [e]; exact m)
    cases ob with
    | lst ds =>
      obtain ⟨p, vs, g, z, r⟩ := q
      exact ⟨p, vs, by rw [er_ne ne]; exact g, z, (r.er h m).ow wk⟩
    | ins c fs =>
      obtain ⟨p, dx, vs, g, z, z2, r⟩ := q
      exact ⟨p, dx, vs, by rw [er_ne ne]; exact g, z, z2, (r.er h m).ow wk⟩
    | dic z ks =>
      obtain ⟨kk, e1, e2, g⟩ := q
      exact ⟨kk, e1, e2, g.at (er_ne ne)⟩
end
/-- from the def's meaning to its body's -/
theorem body_want {fr : Bool} {T : Tb} {xf : Nat → List Nm} {H : Hp} {ρ Ow : List Addr} {E : XK} {Q : VK} {r : R} {o : O D} (sr : ∀ a ∈ Ow, a ∉ ρ) (ho : o = (match r with
    | .rt d st => .ok d st
    | .nx _ st => .ok .non st
    | .ex _ c fs st => .ex c fs st
    | _ => .bad)) (p : Post ⟨T, xf, fun cls dx _ H' => E cls dx H', []⟩ H ρ Ow (fun d _ H' ρ' => Give fr T Q d H' ρ' Ow) o) :
    PostR ⟨T, xf, fun cls dx _ H' => E cls dx H', Ow, fr⟩ H ρ Ow { nx := fun _ H' => Q .non H', rt := Q } r := by
  have ext : ∀ {H' : Hp} {ρ' Ow' : List Addr} {st' : Store}, Step Ow H ρ Ow H' ρ' Ow' → StR T H' ρ' Ow' st' → Ext H ρ H' ρ' ∧ StR T H' ρ' Ow st' := fun {H' ρ' Ow' st'} s z => by
    refine ⟨⟨fun a u h n => ?_, s.kp.pre, s.kp.frz⟩, z.ow (fun a _ _ n h => n (s.out a h).2) (fun a ha h => z.apart a ha (s.out a h).2) fun a h => z.lists a (s.out a h).2⟩
    by_cases ha : a ∈ Ow
    · exact ⟨by rw [(s.out a ha).1]; exact h, z.disj a (s.out a ha).2⟩
    · exact ⟨(s.kp.keep a u h n ha).1, (s.kp.keep a u h n ha).2.1⟩
  subst ho
  cases r with
  | rt d st =>
    intro v H' ρ' Ow' s z r
    obtain ⟨e, z'⟩ := ext s z
    cases fr with
    | false => 
      have r : RV T H' ρ' Ow' v d := r
      exact p H' ρ' e z' v (r.ow fun a _ _ n h => n (s.out a h).2)
    | true =>
      obtain ⟨a, vs, xs, rfl, rfl, ha, ha0, h, zz, rs⟩ := r
      have hN : H a = none := by
        cases hH : H a with
        | none => rfl
        | some o =>
          by_cases hρ : a ∈ ρ
          · obtain ⟨more, x⟩ := s.kp.pre
            exact absurd ha (z.apart a (by rw [x]; exact List.mem_append_left _ hρ))
          · exact absurd ha (s.kp.keep a o hH hρ ha0).2.2
      have e' : Ext H ρ (er H' a) ρ' := ⟨fun b u hb nb => ⟨by rw [er_ne fun eb => by rw [eb, hN] at hb; cases hb]; exact (e.keep b u hb nb).1, (e.keep b u hb nb).2⟩, e.pre, fun b ob u hb => by rw [er_ne fun eb => by rw [eb, hN] at hb; cases hb]; exact e.frz b ob u hb⟩
      have q := p (er H' a) ρ' e' (z.er h ha (fun b hb => (s.out b hb).2) ha0)
      obtain ⟨xs', ex, q⟩ := q
      cases ex
      have := q a vs er_same ((rs.er h ha).ow fun b _ _ n h2 => n (s.out b h2).2) zz
      rw [er_upd h] at this
      exact this
  | nx env st =>
    intro σ' H' ρ' Ow' s fr'
    obtain ⟨e, z'⟩ := ext s fr'.sr
    have q := p H' ρ' e z'
    cases fr with
    | false => exact q .non .non
    | true =>
      obtain ⟨xs', ex, _⟩ := q
      cases ex
  | ex env c fs st =>
    intro cls dx σ' H' ρ' Ow' s fr' x
    obtain ⟨e, z'⟩ := ext s fr'.sr
    have p' : Post ⟨T, xf, fun cls dx _ H' => E cls dx H', []⟩ H ρ Ow' (fun d _ H' ρ' => Give fr T Q d H' ρ' Ow) (.ex c fs st) := p.shed fun a ha => (s.out a ha).2
    exact p' cls dx H' ρ' e fr'.sr x
  | bk _ _ => exact p.elim
  | ct _ _ => exact p.elim
  | bad => exact p.elim
theorem fnX_of (fr : Bool) {name : PySem.Str} {params : Arguments} {body : List Stmt} {dV kV doc pm ct oc : Value} {an od : Option Addr} {osl : Array (Option Value)} {g : StS} {c : Fd} {m : Nat}
    (lk : Y.K.lookup f = some ⟨oc, od, .func (PySem.W.fnOf name qual params body scope dV kV doc pm an cdv ct), osl⟩) (hcd : PySem.W.codeIn Y.K cdv qual = true) (S : FnScope N ps scope) (hm : N.length = m) (eK : Y.K = Y.T.K) (hx0 : Y.T.hx = none)
    (hc : ∀ ds st, ds.length = ps.length → c ds st = (match g (ds.map Sl.v ++ List.replicate (m - ds.length) .em) st with
      | .rt d st => .ok d st
      | .nx _ st => .ok .non st
      | .ex _ c fs st => .ex c fs st
      | _ => .bad))
    (hbody : ∀ (X : Cx) (W : WX) (Ow0 : List Addr), CxS X ⟨Y.T, Y.xf, W, Ow0, fr⟩ N scope k → X.prog = Y.P → X.w = Y.w → X.K = Y.K → X.mg = Y.mg → X.base = Y.base → X.env.qual = qual ++ ".<locals>." → X.env.code = cdv → X.stack = X.env :: X.outer → X.env.frame = some X.env.locals → JSs X ⟨Y.T, Y.xf, W, Ow0, fr⟩ body g) :
    FnX fr Y (k + 1) f (PySem.W.fnOf name qual params body scope dV kV doc pm an cdv ct) ps c := by
  refine ⟨fun A outer s H args us vs Q E hr hgd e0 hb r hl ⟨st, ρ, Ow, ds, sr, rs, p⟩ => ?_⟩
  have same : ∀ b o, Y.base.get? b = some o → s.heap.get? b = some o := fun b o e => (e0.bs b o e).1
  have KX : Y.K.In s.heap := e0.mod.kin.keeps same
  have inNames : ∀ y ∈ ps.zip us, scope.names.lookup y.1 = some .local ∨ (scope.names.lookup y.1 = some .cell ∧ ((cellsFrom (s.heap.objs.size + 1) scope.names []).lookup y.1).isSome = true) := by
    rintro ⟨x, v⟩ hy
    cases S.par x (List.of_mem_zip hy).1 with
    | inl q => exact .inl q
    | inr q => exact .inr ⟨q, PySem.W.cellsFrom_some _ _ _ (.inl q)⟩
  have hpl : ps.length ≤ m := by
    have q := congrArg List.length S.pre
    rw [List.length_take, hm] at q
    omega
  refine codeAny_call_function hr.depth (KX _ _ lk) rfl S.co S.gen rfl (PySem.W.codeRec_of KX hcd) (hb _ _ _ _ (wpAny_newFunctionEnv_cells S.kind inNames fun env he s1 x => ?_))
  subst he
  refine ⟨(e0.mod.nolimit.keeps same).keeps x.toInCall.keep, codeAny_func ?_⟩
  -- the body's context
  generalize hX : cxOf (L2.CX Y.P Y.w) Y.P Y.w Y.K Y.mg Y.base N qual scope f cdv A outer s H E = X
  have I : Inv X [] (L2.start N vs) H s1 := by rw [← hX]; exact L2.inv_start S hr.hd e0 hl r x
  have CX0 : CxS X ⟨Y.T, Y.xf, fun cls dx _ H' => E cls dx H', Ow, fr⟩ N scope k := by
    subst hX
    exact ⟨⟨⟨eK, rfl, S.nd, rfl, L2H.roomH_of (hr.deeper _), hgd⟩, rfl, hr.deeper _, hx0⟩, fun _ => rfl, L2.passes_of rfl, L2.takes_of rfl rfl rfl rfl⟩
  have J := hbody X _ Ow CX0 (by rw [← hX]; rfl) (by rw [← hX]; rfl) (by rw [← hX]; rfl) (by rw [← hX]; rfl) (by rw [← hX]; rfl) (by rw [← hX]; rfl) (by rw [← hX]; rfl) (by rw [← hX]; rfl) (by rw [← hX]; rfl)
  have hds : ds.length = ps.length := by rw [← rs.length]; exact hl
  have wish : tStm ⟨Y.T, Y.xf, fun cls dx _ H' => E cls dx H', Ow, fr⟩ g { nx := fun _ H' => Q .non H', rt := Q } (L2.start N vs) H :=
    ⟨_, st, ρ, Ow, start_en hm (by rw [hl]; exact hpl) sr rs, body_want sr.disj (hc ds st hds) p⟩
  have done := J.run [] s1 (L2.start N vs) H _ I wish
  subst hX
  refine wpAny_mono done (fun fl s' hs => ?_) fun e s' hs => hs
  cases fl with
  | ret u =>
    obtain ⟨v, σ', H', I', rv, q⟩ := hs
    exact ⟨v, H', I'.os, I'.bare, I'.base, I'.hok, rv, q⟩
  | next =>
    obtain ⟨σ', H', I', q⟩ := hs
    exact ⟨V.non, H', I'.os, I'.bare, I'.base, I'.hok, rfl, q⟩
  | brk =>
    obtain ⟨_, _, _, q⟩ := hs
    exact q.elim
  | cont =>
    obtain ⟨_, _, _, q⟩ := hs
    exact q.elim
end
section
variable {Y : Wd} {X : Cx} {W : WX} {N : List PySem.Str} {sc : Scope} {n k : Nat}
/-- the context's world -/
structure CxY (X : Cx) (Y : Wd) (W : WX) (N : List PySem.Str) (sc : Scope) (n : Nat) : Prop extends CxC X Y.T N sc n where
  eP : X.prog = Y.P
  ew : X.w = Y.w
  eKY : X.K = Y.K
  em : X.mg = Y.mg
  eb : X.base = Y.base
  pass : ∀ σ, L2.PassesAt (L2.CX X.prog X.w) X σ (L2.WE W σ)
theorem CxS.y {Ow0 : List Addr} {fr : Bool} (C : CxS X ⟨Y.T, Y.xf, W, Ow0, fr⟩ N sc n) (eP : X.prog = Y.P) (ew : X.w = Y.w) (eK : X.K = Y.K) (em : X.mg = Y.mg) (eb : X.base = Y.base) : CxY X Y W N sc n :=
  ⟨C.toCxC, eP, ew, eK, em, eb, L2.passAt C.tk⟩
theorem code_fnG {f : Addr} {fd : FuncData} {ps : List PySem.Str} {c : Fd} {pins : List (Addr × PySem.Obj)} {σ : L2.St} {H : Hp} {s : Shared} {Q : VK} {pos us : List Value} {kw : List (PySem.Str × Value)} {vs : List V} (C : CxY X Y W N sc n) (F : FnG Y k f fd ps c) (hk : k ≤ n)
    (hb : BindsTo s fd ⟨pos, kw⟩ (ps.zip us)) (I : Inv X pins σ H s) (r : Vals vs us) (hl : vs.length = ps.length) (h : Want Y.T Y.xf c vs H Q (L2.WE W σ)) :
    codeAny (model X.prog X.w) X.A (.call (.ref f) ⟨pos, kw⟩) (fun r s' => match r with | .ok (.ret v) => L2.EP X pins σ Q v s' | .ok _ => False | .error e => X.xe e s') s := by
  have e0 : Env0 Y.P Y.w Y.K Y.mg Y.base X.A X.stack s H := by
    have q := I.env0
    rw [C.eP, C.ew, C.eKY, C.em, C.eb] at q
    exact q
  have go := F.run X.A X.stack s H ⟨pos, kw⟩ us vs Q (L2.WE W σ) (C.room.mono hk) C.guards e0 hb r hl h
  rw [← C.eP, ← C.ew] at go
  refine codeAny_mono go fun res s' hq => ?_
  cases res with
  | error e => exact C.pass σ pins H s e s' I hq
  | ok fl =>
    cases fl with
    | ret u => exact I.after hq
    | _ => exact hq.elim
theorem run_fnG {f : Addr} {fd : FuncData} {ps : List PySem.Str} {c : Fd} {pins : List (Addr × PySem.Obj)} {σ : L2.St} {H : Hp} {s : Shared} {Q : VK} {pos us : List Value} {kw : List (PySem.Str × Value)} {vs : List V} (C : CxY X Y W N sc n) (F : FnG Y k f fd ps c) (hk : k ≤ n)
    (hb : BindsTo s fd ⟨pos, kw⟩ (ps.zip us)) (I : Inv X pins σ H s) (r : Vals vs us) (hl : vs.length = ps.length) (h : Want Y.T Y.xf c vs H Q (L2.WE W σ)) :
    wpAny (model X.prog X.w) X.A (PySem.call (.ref f) pos kw) (L2.EP X pins σ Q) X.xe s := wpAny_call (code_fnG C F hk hb I r hl h)
/-- a def that may be called by its name -/
structure Fk (Y : Wd) (x : PySem.Str) (f : Addr) (fd : FuncData) (ps : List PySem.Str) : Prop where
  mg : Y.mg x = some (.ref f)
  keep : PySem.W.keepIn Y.K (.ref f) = true
  binds : Binds Y.K fd ps []
  ne : (x == ("__debug__" : PySem.Str)) = false
theorem plain_all : ∀ {es : List Expr} {ss : List Sem} {T : Tb} {xf : Nat → List Nm} {pos : Pos}, JEs X T xf W es ss → (backTo pos (starEach es X.env)).any (·.1) = false
  | _, _, _, _, _, .nil => rfl
  | _, _, _, _, _, .cons h j js => by
    rw [plain_star h]
    have q := plain_all (pos := ‹Pos›) js
    show (false || (backTo _ (starEach _ X.env)).any (·.1)) = false
    rw [q]; rfl
variable {x : PySem.Str} {f : Addr} {fd : FuncData} {ps : List PySem.Str} {c : Fd} {p pos : Pos} {e : Expr} {es : List Expr} {ss : List Sem}
theorem args_want (C : CxY X Y W N sc n) {σ : L2.St} {H : Hp} {Q : VK} (hl : ss.length = ps.length) (q : tVal Y.T Y.xf W true (many ss c) σ H Q) :
    tArg Y.T Y.xf W (args ss) σ H fun vs H1 => vs.length = ps.length ∧ Want Y.T Y.xf c vs H1 Q (L2.WE W σ) := by
  obtain ⟨env, st, ρ, Ow, en, sr, p⟩ := q
  refine ⟨env, st, ρ, Ow, en, sr, (Post.bind p).eqn.mono fun ds st1 H1 ρ1 e1 s1 q vs rs => ?_⟩
  refine ⟨by rw [rs.length, args_len q.1, hl], st1, ρ1, Ow, ds, s1, rs, ?_⟩
  have q2 := q.2
  cases hc : c ds st1 with
  | ok d st2 => rw [hc] at q2; exact q2
  | ex cc fs st2 => rw [hc] at q2; exact q2
  | bad => rw [hc] at q2; exact q2
theorem je_call (C : CxY X Y W N sc n) (F : FnG Y k f fd ps c) (hk : k ≤ n) (B : Fk Y x f fd ps) (hg : Gl X x) (hl : ss.length = ps.length) (js : JEs X Y.T Y.xf W es ss) :
    JE X Y.T Y.xf W (.Call (.Name x p) es [] pos) (Sem.of (many ss c)) true := by
  refine .of C.toCxG ⟨fun pins s σ H Q I q => ?_⟩
  have q1 := args_want C hl q
  have hm : X.mg x = some (.ref f) := by rw [C.em]; exact B.mg
  have hkp : PySem.W.keepIn X.K (.ref f) = true := by rw [C.eKY]; exact B.keep
  have bind : ∀ (s : Shared) (us : List Value), Y.K.In s.heap → us.length = ps.length → BindsTo s fd ⟨us, []⟩ (ps.zip us) := fun s us hK hu => by
    have b := B.binds s us hK (by rw [List.append_nil]; exact hu)
    rw [List.append_nil] at b
    exact b
  refine wpAny_Call_Name_kw (L2.ld_glob I hg hm ?_ B.ne)
  cases js with
  | nil =>
    obtain ⟨env, st, ρ, Ow, en, sr, po⟩ := q1
    obtain ⟨h1, h2⟩ := Post.ok sr po [] .nil
    exact PySem.W.callWith_K0 I.kIn hkp (run_fnG (us := []) C F hk (bind s [] (by rw [← C.eKY]; exact I.kIn) (by rw [← h1]; rfl)) I .nil h1 h2)
  | @cons e0 s0 es0 ss0 h j js =>
    refine PySem.W.callWith_K (h₀ := X.base) I.ok.mod.kin hkp (L2.thn ((pa_args (.cons h j js)).run pos pins s σ H _ I q1) fun us s1 ⟨vs, H1, I1, r, h1, h2⟩ => ⟨I1.kIn, ?_⟩) (plain_star h _ _) (plain_all js)
    exact run_fnG C F hk (bind s1 us (by rw [← C.eKY]; exact I1.kIn) (by rw [← r.length]; exact h1)) I1 r h1 h2
end
end G
namespace G
open PySem PySem.Spec PyProof.Rows
open L2 (V Hp HO upd SqL SqT Rd VK TE TT TA TI WX XK Cx PE PT PA PI Inv OpR CallR RelV Vals R2 PC PW)
section
variable {X : Cx} {T : Tb}
theorem allDig {s : List Nat} (h : s.all isDig = true) : NumText.AllDigits s := fun c hc => by
  have := List.all_eq_true.mp h c hc
  unfold isDig at this
  simp at this
  exact this
theorem foldDig : ∀ (s : List Nat) (a : Nat), s.foldl (fun n c => 10 * n + (c - 48)) a = s.foldl (fun acc c => acc * 10 + (c - 48)) a
  | [], _ => rfl
  | c :: s, a => by
    simp only [List.foldl_cons]
    rw [foldDig s, Nat.mul_comm]
theorem cr_int : CallR X (.type "int") (rBi T (bi .int)) := by
  intro pins s σ H xs us Q I r ⟨st, ρ, Ow, ds, dz, sr, rs, e, k⟩
  simp only [bi] at e
  split at e <;> try contradiction
  · rename_i i _
    cases e
    obtain ⟨v, rfl, r1⟩ := rs.one
    have e1 := r1.u.int
    subst e1
    exact L2.call_int1 pins s σ H _ us Q I r (.inl ⟨_, rfl, k _ _ (.inl rfl) (.int _)⟩)
  · rename_i b _
    cases e
    obtain ⟨v, rfl, r1⟩ := rs.one
    have e1 := r1.u.bl
    subst e1
    exact L2.call_int1 pins s σ H _ us Q I r (.inr ⟨_, rfl, k _ _ (.inl rfl) (.int _)⟩)
  · rename_i x _
    obtain ⟨v, rfl, r1⟩ := rs.one
    obtain ⟨rfl, z, c⟩ := r1.u.str
    split at e
    · rename_i hl
      cases e
      refine L2.call_int_str pins s σ H _ us Q I r ⟨_, _, rfl, intText_digits (x := ⟨x.toArray⟩) (allDig hl.2.2) hl.1 (by have := hl.2.1; simp [Str.length]; omega), by have := hl.2.1; simp [Str.length]; omega, ?_⟩
      have e2 : digVal x = NumText.digitsVal x := foldDig x 0
      have q := k (.int (digVal x : Nat)) H (.inl rfl) (.int _)
      rw [e2] at q
      exact q
    · cases e
theorem cr_abs : CallR X (.builtin "abs") (rBi T (bi .abs)) := by
  intro pins s σ H xs us Q I r ⟨st, ρ, Ow, ds, dz, sr, rs, e, k⟩
  simp only [bi] at e
  split at e <;> try contradiction
  rename_i i _
  cases e
  obtain ⟨v, rfl, r1⟩ := rs.one
  have e1 := r1.u.int
  subst e1
  refine L2.call_abs pins s σ H _ us Q I r ⟨_, rfl, ?_⟩
  have q := k (.int (i.natAbs : Int)) H (.inl rfl) (.int _)
  have e3 : ((i.natAbs : Nat) : Int) = if i < 0 then -i else i := by split <;> omega
  rw [e3] at q
  exact q
theorem cr_bool : CallR X (.type "bool") (rBi T (bi .bool)) := by
  intro pins s σ H xs us Q I r ⟨st, ρ, Ow, ds, dz, sr, rs, e, k⟩
  simp only [bi] at e
  split at e <;> try contradiction
  · cases e
    obtain ⟨v, rfl, r1⟩ := rs.one
    have e1 := r1.u.bl
    subst e1
    exact L2.call_bool1 pins s σ H _ us Q I r (.inr ⟨_, rfl, k _ _ (.inl rfl) (.bl _)⟩)
  · cases e
    obtain ⟨v, rfl, r1⟩ := rs.one
    have e1 := r1.u.int
    subst e1
    exact L2.call_bool1 pins s σ H _ us Q I r (.inl ⟨_, rfl, k _ _ (.inl rfl) (.bl _)⟩)
theorem sqE (hK : X.K = T.K) {H : Hp} {a : Addr} {vs : List V} (q : SqL T.K H a vs ∨ SqT T.K H a vs) : SqL X.K H a vs ∨ SqT X.K H a vs := by rw [hK]; exact q
theorem RW.seqL {H : Hp} {ρ Ow : List Addr} {st : Store} {v : V} {d : D} {ds : List D} (s : StR T H ρ Ow st) (r : RW T H ρ Ow v d) (hn : ∀ zs, d ≠ .tup zs) (e : seqv st d = some ds) : ∃ a vs, v = .ref a ∧ SqL T.K H a vs ∧ vs.length ≤ LIM ∧ RVs T H ρ Ow vs ds := by
  cases d with
  | tup xs => exact absurd rfl (hn xs)
  | lst xs =>
    cases e
    obtain ⟨a, vs, h1, h2, h3, h4⟩ := r.u.lst
    exact ⟨a, vs, h1, .inl (.inl h2), h3, h4⟩
  | fl xs =>
    cases e
    rcases r with r | ⟨_, _, _, _, h, _⟩
    · cases r with
      | fl q z rs => exact ⟨_, _, rfl, q.sq, z, rs⟩
    · cases h
  | loc l =>
    have w := r.view s
    unfold seqv at e
    cases e2 : st[l]? with
    | none => simp [e2] at e
    | some o =>
      cases o with
      | ins c fs => simp [e2] at e
      | dic z ks => simp [e2] at e
      | lst xs =>
        simp [e2] at e
        subst e
        rw [view_lst e2] at w
        obtain ⟨a, vs, h1, h2, h3, h4⟩ := w.lst
        exact ⟨a, vs, h1, .inl (.inl h2), h3, h4⟩
  | _ => cases e
theorem RW.list {H : Hp} {ρ Ow : List Addr} {st : Store} {v : V} {d : D} {ds : List D} (s : StR T H ρ Ow st) (r : RW T H ρ Ow v d) (e : listv st d = some ds) : ∃ a vs, v = .ref a ∧ SqL T.K H a vs ∧ vs.length ≤ LIM ∧ RVs T H ρ Ow vs ds := by
  cases d with
  | tup xs => cases e
  | _ => exact r.seqL s (fun zs h => by cases h) e
theorem cr_tuple (hK : X.K = T.K) : CallR X (.type "tuple") (rBi T (bi .tuple)) := by
  intro pins s σ H xs us Q I r ⟨st, ρ, Ow, ds, dz, sr, rs, e, k⟩
  simp only [bi] at e
  split at e <;> try contradiction
  obtain ⟨ys, hy, e2⟩ := Option.map_eq_some_iff.mp e
  subst e2
  obtain ⟨v, rfl, r1⟩ := rs.one
  rename_i d _
  by_cases ht : ∃ zs, d = .tup zs
  · obtain ⟨zs, rfl⟩ := ht
    cases hy
    obtain ⟨a, vs, rfl, q, z, rr⟩ := r1.u.tup
    exact call_tupleF pins s σ H _ us Q I r ⟨a, vs, rfl, .inr ⟨by rw [hK]; exact q.sq, k _ _ (.inl rfl) (.tup q z rr)⟩⟩
  · obtain ⟨a, vs, rfl, q, z, rr⟩ := r1.seqL sr (fun zs h => ht ⟨zs, h⟩) hy
    exact call_tupleF pins s σ H _ us Q I r ⟨a, vs, rfl, .inl ⟨by rw [hK]; exact q, fun l o hl ho => k _ _ (.inr ⟨l, _, hl, rfl⟩) (rv_tup hl ho (sr.fresh hl).1 z rr)⟩⟩
theorem cr_list (hK : X.K = T.K) : CallR X (.type "list") (rBi T (bi .list)) := by
  intro pins s σ H xs us Q I r ⟨st, ρ, Ow, ds, dz, sr, rs, e, k⟩
  simp only [bi] at e
  split at e <;> try contradiction
  obtain ⟨ys, hy, e2⟩ := Option.map_eq_some_iff.mp e
  subst e2
  obtain ⟨v, rfl, r1⟩ := rs.one
  obtain ⟨a, vs, rfl, q, z, rr⟩ := r1.seq sr hy
  exact L2.call_list_of pins s σ H _ us Q I r ⟨a, vs, rfl, sqE hK q, fun l hl => k _ _ (.inr ⟨l, _, hl, rfl⟩) (rv_lst hl (sr.fresh hl).1 (sr.fresh hl).2 z rr)⟩
theorem cr_divmod : CallR X (.builtin "divmod") (rBi T (bi .divmod)) := by
  intro pins s σ H xs us Q I r ⟨st, ρ, Ow, ds, dz, sr, rs, e, k⟩
  simp only [bi] at e
  split at e <;> try contradiction
  rename_i i j _
  split at e
  · rename_i hd
    cases e
    obtain ⟨v, w, rfl, r1, r2⟩ := rs.two
    have e1 := r1.u.int
    have e2 := r2.u.int
    subst e1 e2
    have hw := okDiv_w (i := i) hd
    refine call_divmodF pins s σ H _ us Q I r ⟨i, j, rfl, ⟨hw.1, ?_⟩, fun p o hp ho => k _ _ (.inr ⟨p, _, hp, rfl⟩) (rv_tup hp ho (sr.fresh hp).1 (by rw [lim_line, sizeLine_eq]; simp) (.cons (.int _) (.cons (.int _) .nil)))⟩
    refine PyProof.noPylong_of_log2 ?_
    unfold okDiv DIV at hd
    rw [Bool.and_eq_true, decide_eq_true_eq, decide_eq_true_eq] at hd
    have h0 : j.natAbs ≠ 0 := by omega
    exact Nat.lt_trans ((Nat.log2_lt h0).mpr hd.2) (by decide)
  · cases e
theorem cr_min (hc : X.calm = true) (hK : X.K = T.K) : CallR X (.builtin "min") (rBi T (bi .min)) := by
  intro pins s σ H xs us Q I r ⟨st, ρ, Ow, ds, dz, sr, rs, e, k⟩
  simp only [bi] at e
  split at e <;> try contradiction
  · rename_i i j _
    cases e
    obtain ⟨v, w, rfl, r1, r2⟩ := rs.two
    have e1 := r1.u.int
    have e2 := r2.u.int
    subst e1 e2
    exact L2.call_min2 hc pins s σ H _ us Q I r ⟨_, _, rfl, k _ _ (.inl rfl) (.int _)⟩
  · rename_i d _
    obtain ⟨ys, hy, e2⟩ := Option.bind_eq_some_iff.mp e
    obtain ⟨is, hi, e3⟩ := Option.bind_eq_some_iff.mp e2
    obtain ⟨m, hm, e4⟩ := Option.map_eq_some_iff.mp e3
    subst e4
    obtain ⟨v, rfl, r1⟩ := rs.one
    obtain ⟨a, vs, rfl, q, z, rr⟩ := r1.list sr hy
    have ev := ints_vals hi rr
    subst ev
    obtain ⟨m1, m2⟩ := minI_ok hm
    refine L2.cr_min hc pins s σ H _ us Q I r ⟨a, is, rfl, by rw [hK]; exact q, List.length_pos_of_mem m1, fun m' h1 h2 => ?_⟩
    have : m' = m := by have := h2 m m1; have := m2 m' h1; omega
    subst this
    exact k _ _ (.inl rfl) (.int _)
theorem cr_max (hc : X.calm = true) (hK : X.K = T.K) : CallR X (.builtin "max") (rBi T (bi .max)) := by
  intro pins s σ H xs us Q I r ⟨st, ρ, Ow, ds, dz, sr, rs, e, k⟩
  simp only [bi] at e
  split at e <;> try contradiction
  · rename_i i j _
    cases e
    obtain ⟨v, w, rfl, r1, r2⟩ := rs.two
    have e1 := r1.u.int
    have e2 := r2.u.int
    subst e1 e2
    exact L2.call_max2 hc pins s σ H _ us Q I r ⟨_, _, rfl, k _ _ (.inl rfl) (.int _)⟩
  · rename_i d _
    obtain ⟨ys, hy, e2⟩ := Option.bind_eq_some_iff.mp e
    obtain ⟨is, hi, e3⟩ := Option.bind_eq_some_iff.mp e2
    obtain ⟨m, hm, e4⟩ := Option.map_eq_some_iff.mp e3
    subst e4
    obtain ⟨v, rfl, r1⟩ := rs.one
    obtain ⟨a, vs, rfl, q, z, rr⟩ := r1.list sr hy
    have ev := ints_vals hi rr
    subst ev
    obtain ⟨m1, m2⟩ := maxI_ok hm
    refine L2.cr_max hc pins s σ H _ us Q I r ⟨a, is, rfl, by rw [hK]; exact q, List.length_pos_of_mem m1, fun m' h1 h2 => ?_⟩
    have : m' = m := by have := h2 m m1; have := m2 m' h1; omega
    subst this
    exact k _ _ (.inl rfl) (.int _)
theorem cr_sum (hc : X.calm = true) (hK : X.K = T.K) : CallR X (.builtin "sum") (rBi T (bi .sum)) := by
  intro pins s σ H xs us Q I r ⟨st, ρ, Ow, ds, dz, sr, rs, e, k⟩
  simp only [bi] at e
  split at e <;> try contradiction
  rename_i d _
  obtain ⟨ys, hy, e2⟩ := Option.bind_eq_some_iff.mp e
  obtain ⟨is, hi, e4⟩ := Option.map_eq_some_iff.mp e2
  subst e4
  obtain ⟨v, rfl, r1⟩ := rs.one
  obtain ⟨a, vs, rfl, q, z, rr⟩ := r1.list sr hy
  have ev := ints_vals hi rr
  subst ev
  exact L2.cr_sum hc pins s σ H _ us Q I r ⟨a, is, rfl, by rw [hK]; exact q, k _ _ (.inl rfl) (.int _)⟩
theorem cr_all (hc : X.calm = true) (hK : X.K = T.K) : CallR X (.builtin "all") (rBi T (bi .all)) := by
  intro pins s σ H xs us Q I r ⟨st, ρ, Ow, ds, dz, sr, rs, e, k⟩
  simp only [bi] at e
  split at e <;> try contradiction
  rename_i d _
  obtain ⟨ys, hy, e2⟩ := Option.bind_eq_some_iff.mp e
  obtain ⟨bs, hi, e4⟩ := Option.map_eq_some_iff.mp e2
  subst e4
  obtain ⟨v, rfl, r1⟩ := rs.one
  obtain ⟨a, vs, rfl, q, z, rr⟩ := r1.list sr hy
  have ev := bls_vals hi rr
  subst ev
  exact L2.cr_all hc pins s σ H _ us Q I r ⟨a, bs, rfl, by rw [hK]; exact q, k _ _ (.inl rfl) (.bl _)⟩
theorem cr_any (hc : X.calm = true) (hK : X.K = T.K) : CallR X (.builtin "any") (rBi T (bi .any)) := by
  intro pins s σ H xs us Q I r ⟨st, ρ, Ow, ds, dz, sr, rs, e, k⟩
  simp only [bi] at e
  split at e <;> try contradiction
  rename_i d _
  obtain ⟨ys, hy, e2⟩ := Option.bind_eq_some_iff.mp e
  obtain ⟨bs, hi, e4⟩ := Option.map_eq_some_iff.mp e2
  subst e4
  obtain ⟨v, rfl, r1⟩ := rs.one
  obtain ⟨a, vs, rfl, q, z, rr⟩ := r1.list sr hy
  have ev := bls_vals hi rr
  subst ev
  exact L2.cr_any hc pins s σ H _ us Q I r ⟨a, bs, rfl, by rw [hK]; exact q, k _ _ (.inl rfl) (.bl _)⟩
theorem cr_sorted (hK : X.K = T.K) : CallR X (.builtin "sorted") (rBi T (bi .sorted)) := by
  intro pins s σ H xs us Q I r ⟨st, ρ, Ow, ds, dz, sr, rs, e, k⟩
  simp only [bi] at e
  split at e <;> try contradiction
  rename_i d _
  obtain ⟨ys, hy, e2⟩ := Option.bind_eq_some_iff.mp e
  obtain ⟨is, hi, e4⟩ := Option.map_eq_some_iff.mp e2
  subst e4
  obtain ⟨v, rfl, r1⟩ := rs.one
  obtain ⟨a, vs, rfl, q, z, rr⟩ := r1.list sr hy
  have ev := ints_vals hi rr
  subst ev
  refine L2.cr_sortedI pins s σ H _ us Q I r ⟨a, is, rfl, by rw [hK]; exact q, fun ns' p hp hs hn => ?_⟩
  have en : ns' = is.mergeSort leI := sorted_uniq hp hs
  subst en
  refine k _ _ (.inr ⟨p, _, hn, rfl⟩) (rv_lst hn (sr.fresh hn).1 (sr.fresh hn).2 ?_ (rvs_ints _))
  rw [List.length_map, hp.length_eq]
  simpa using z
theorem natStr_ok (n : Nat) : (natStr n).all okCode = true := List.all_eq_true.mpr fun c hc => by
  have := TL.numL_digits n c hc
  unfold okCode
  exact decide_eq_true (by omega)
theorem natStr_len {n : Nat} (h : n < 2 ^ 1900) : (natStr n).length ≤ 1900 := by
  unfold natStr
  rw [List.length_map]
  exact PySem.toDigits_len_pow (b := 10) (by decide) (by decide) (Nat.lt_of_lt_of_le h (Nat.pow_le_pow_left (by decide) _))
theorem intStr_ok (i : Int) : (intStr i).all okCode = true := by
  cases i with
  | ofNat n => exact natStr_ok n
  | negSucc n =>
    show (okCode 45 && (natStr (n + 1)).all okCode) = true
    rw [natStr_ok]; rfl
theorem intStr_len {i : Int} (h : i.natAbs < 2 ^ 1900) : (intStr i).length ≤ LIM := by
  rw [lim_line, sizeLine_eq]
  cases i with
  | ofNat n =>
    have := natStr_len (n := n) h
    show (natStr n).length ≤ _
    omega
  | negSucc n =>
    have := natStr_len (n := n + 1) h
    show (45 :: natStr (n + 1)).length ≤ _
    rw [List.length_cons]
    omega
theorem cr_str : CallR X (.type "str") (rBi T (bi .str)) := by
  intro pins s σ H xs us Q I r ⟨st, ρ, Ow, ds, dz, sr, rs, e, k⟩
  simp only [bi] at e
  split at e <;> try contradiction
  · rename_i i _
    split at e
    · rename_i hl
      cases e
      obtain ⟨v, rfl, r1⟩ := rs.one
      have e1 := r1.u.int
      subst e1
      refine L2.call_str_int pins s σ H _ us Q I r ⟨i, rfl, ?_, ?_⟩
      · by_cases h0 : i.natAbs = 0
        · rw [h0]; decide
        · exact Nat.lt_trans ((Nat.log2_lt h0).mpr hl) (by decide)
      · have q := k (.str ⟨(intStr i).toArray⟩) H (.inl rfl) (.str _ (intStr_len hl) (intStr_ok i))
        rw [← intStr_eq] at q
        exact q
    · cases e
  · rename_i x _
    cases e
    obtain ⟨v, rfl, r1⟩ := rs.one
    obtain ⟨rfl, z, c⟩ := r1.u.str
    exact SkE.call_str_str pins s σ H _ us Q I r ⟨_, rfl, k _ _ (.inl rfl) (.str _ z c)⟩
end
end G
namespace G
open PySem PySem.Spec PyProof.Rows
open L2 (V Hp HO upd SqL SqT Rd VK TE TT TA TI WX XK Cx PE PT PA PI Inv OpR CallR RelV Vals R2 PC PW Gl)
section
variable {X : Cx} {T : Tb} {xf : Nat → List Nm} {W : WX} {N : List PySem.Str} {sc : Scope} {n : Nat}
inductive JWs (X : Cx) (T : Tb) (xf : Nat → List Nm) (W : WX) : List Expr → List Sem → Prop
  | nil : JWs X T xf W [] []
  | cons {e : Expr} {s : Sem} {str : Bool} {es : List Expr} {ss : List Sem} (h : plainE e = true) (j : JE X T xf W e s str) (js : JWs X T xf W es ss) : JWs X T xf W (e :: es) (s :: ss)
def tArgW (T : Tb) (xf : Nat → List Nm) (W : WX) (f : Env → Store → O (List D)) : TA := fun σ H Q => At T xf W f (fun ds ρ Ow H' => ∀ vs, RWs T H' ρ Ow vs ds → Q vs H') σ H
theorem RWs.ext {H H' : Hp} {ρ ρ' Ow : List Addr} (e : Ext H ρ H' ρ') {vs : List V} {ds : List D} (r : RWs T H ρ Ow vs ds) : RWs T H' ρ' Ow vs ds := by
  induction r with
  | nil => exact .nil
  | cons r rs ih => exact .cons (r.ext e) ih
theorem pa_argsW : ∀ {es : List Expr} {ss : List Sem}, JWs X T xf W es ss → PA X es (tArgW T xf W (args ss))
  | _, _, .nil => PA.imp L2.pa_nil fun σ H Q ⟨env, st, ρ, Ow, en, sr, p⟩ => Post.ok sr p [] .nil
  | _, _, .cons h j js => PA.imp (L2.pa_cons j.val (pa_argsW js) (plain_star h _ _)) fun σ H Q ⟨env, st, ρ, Ow, en, sr, p⟩ => by
    refine ⟨env, st, ρ, Ow, en, sr, (Post.bind p).mono fun d st1 H1 ρ1 e1 s1 q v r => ?_⟩
    refine ⟨env, st1, ρ1, Ow, en.ext e1 sr.disj, s1, (Post.bind q).mono fun ds st2 H2 ρ2 e2 s2 q2 vs rs => ?_⟩
    exact Post.ok s2 q2 _ (.cons (RW.ext e2 r.w) rs)
theorem plain_allW : ∀ {es : List Expr} {ss : List Sem} {pos : Pos}, JWs X T xf W es ss → (backTo pos (starEach es X.env)).any (·.1) = false
  | _, _, _, .nil => rfl
  | _, _, _, .cons h j js => by
    rw [plain_star h]
    have q := plain_allW (pos := ‹Pos›) js
    show (false || (backTo _ (starEach _ X.env)).any (·.1)) = false
    rw [q]; rfl
def biTy : Bi → Bool
  | .int | .str | .bool | .tuple | .list => true
  | _ => false
def biNm : Bi → String
  | .len => "len" | .int => "int" | .str => "str" | .repr => "repr" | .abs => "abs" | .bool => "bool" | .min => "min" | .max => "max" | .sum => "sum" | .sorted => "sorted"
  | .tuple => "tuple" | .list => "list" | .all => "all" | .any => "any" | .divmod => "divmod"
def biFn (f : Bi) : Value := if biTy f then .type (biNm f) else .builtin (biNm f)
theorem cr_bi (C : CxC X T N sc n) (f : Bi) (hf : f ≠ .repr) : CallR X (biFn f) (rBi T (bi f)) := by
  cases f with
  | len => exact cr_len C.eK
  | int => exact cr_int
  | str => exact cr_str
  | repr => exact absurd rfl hf
  | abs => exact cr_abs
  | bool => exact cr_bool
  | min => exact cr_min C.calm C.eK
  | max => exact cr_max C.calm C.eK
  | sum => exact cr_sum C.calm C.eK
  | sorted => exact cr_sorted C.eK
  | tuple => exact cr_tuple C.eK
  | list => exact cr_list C.eK
  | all => exact cr_all C.calm C.eK
  | any => exact cr_any C.calm C.eK
  | divmod => exact cr_divmod
theorem bi_blt (f : Bi) : bootBuiltins (biNm f) = some (biFn f) := by cases f <;> kernel_rfl
theorem bi_ne (f : Bi) : ((biNm f : PySem.Str)) ≠ "__name__" := by cases f <;> decide
theorem bi_nd (f : Bi) : (((biNm f : PySem.Str)) == ("__debug__" : PySem.Str)) = false := by cases f <;> decide
variable {p pos : Pos} {es : List Expr} {ss : List Sem}
theorem bi_imp {f : Bi} {σ : L2.St} {H : Hp} {Q : VK} (q : tVal T xf W true (many ss fun ds st => .of (bi f st ds) st) σ H Q) : tArgW T xf W (args ss) σ H fun vs H1 => rBi T (bi f) vs H1 Q := by
  obtain ⟨env, st, ρ, Ow, en, sr, p⟩ := q
  refine ⟨env, st, ρ, Ow, en, sr, (Post.bind p).mono fun ds st1 H1 ρ1 e1 s1 q vs rs => ?_⟩
  cases e : bi f st1 ds with
  | none => rw [e] at q; exact q.elim
  | some dz =>
    rw [e] at q
    exact ⟨st1, ρ1, Ow, ds, dz, s1, rs, e, fun v H' nw r => q H' ρ1 (nw.ext ρ1) (nw.st s1) v r⟩
theorem je_biR {f : Bi} (C : CxG X T N sc n) (hc : CallR X (biFn f) (rBi T (bi f))) (hg : Gl X (biNm f)) (hm : X.mg (biNm f) = none) (hne : es ≠ []) (js : JWs X T xf W es ss) :
    JE X T xf W (.Call (.Name (biNm f) p) es [] pos) (Sem.of (many ss fun ds st => .of (bi f st ds) st)) true := by
  refine .of C ?_
  cases js with
  | nil => exact absurd rfl hne
  | cons h j js =>
    unfold biFn at hc
    have hv := bi_blt f
    unfold biFn at hv
    split at hc
    · rename_i ht
      rw [if_pos ht] at hv
      exact PE.imp (L2.pe_callTy hc hg hm hv (pa_argsW (.cons h j js)) (bi_ne f) (bi_nd f) (plain_star h _ _) (plain_allW js)) fun σ H Q q => bi_imp q
    · rename_i ht
      rw [if_neg ht] at hv
      exact PE.imp (L2.pe_callB hc hg hm hv (pa_argsW (.cons h j js)) (bi_ne f) (bi_nd f) (plain_star h _ _) (plain_allW js)) fun σ H Q q => bi_imp q
theorem je_bi {f : Bi} (C : CxC X T N sc n) (hf : f ≠ .repr) (hg : Gl X (biNm f)) (hm : X.mg (biNm f) = none) (hne : es ≠ []) (js : JWs X T xf W es ss) :
    JE X T xf W (.Call (.Name (biNm f) p) es [] pos) (Sem.of (many ss fun ds st => .of (bi f st ds) st)) true := je_biR C.toCxG (cr_bi C f hf) hg hm hne js
end
end G
namespace G
open PySem PySem.Spec PyProof.Rows
open L2 (V Hp HO upd SqL SqT Rd VK TE TT TA TI WX XK Cx PE PT PA PI Inv OpR CallR RelV Vals R2 PC PW Gl)
section
variable {X : Cx} {T : Tb} {N : List PySem.Str} {sc : Scope} {n : Nat}
mutual
theorem okEq_dict : ∀ (n : Nat) (d : D), okEq n d = true → (toPy d).hasDict = false
  | _, .non, _ => rfl
  | _, .bl _, _ => rfl
  | _, .int _, _ => rfl
  | _, .str _, _ => rfl
  | 0, .tup _, h => by simp [okEq] at h
  | n + 1, .tup xs, h => okEqs_dict n xs (by simpa [okEq] using h)
  | 0, .lst _, h => by simp [okEq] at h
  | n + 1, .lst xs, h => okEqs_dict n xs (by simpa [okEq] using h)
  | _, .dct _ _, h => by simp [okEq] at h
  | _, .loc _, h => by simp [okEq] at h
  | _, .obj _ _, h => by simp [okEq] at h
  | _, .exc _ _, h => by simp [okEq] at h
  | _, .cls _, h => by simp [okEq] at h
  | _, .fl _, h => by simp [okEq] at h
theorem okEqs_dict : ∀ (n : Nat) (ds : List D), okEqs n ds = true → PyData.hasDictAll (toPys ds) = false
  | _, [], _ => rfl
  | n, d :: ds, h => by
    have h' : (okEq n d && okEqs n ds) = true := h
    rw [Bool.and_eq_true] at h'
    show ((toPy d).hasDict || PyData.hasDictAll (toPys ds)) = false
    rw [okEq_dict n d h'.1, okEqs_dict n ds h'.2]; rfl
end
theorem dp_ofU {H : Hp} {ρ Ow : List Addr} : ∀ (n : Nat) (d : D) (v : V), okEq n d = true → RU T H ρ Ow v d → L2.Dp T.K H v (toPy d) ∧ (toPy d).depth ≤ n := by
  intro n d v h r
  rcases r with r | ⟨a, vs, ds, rfl, rfl, h1, z, rs⟩
  · obtain ⟨h1, _, h3⟩ := dp_of n d v h r
    exact ⟨h1, h3⟩
  · cases n with
    | zero => simp [okEq] at h
    | succ n =>
      obtain ⟨g1, g2, g3⟩ := dps_of n ds vs (by simpa [okEq] using h) rs
      exact ⟨.lst (.inl (.inl h1)) g1, by simp [toPy, PyData.depth]; exact g3⟩
theorem cr_repr (C : CxG X T N sc n) : CallR X (.builtin "repr") (rBi T (bi .repr)) := by
  intro pins s σ H xs us Q I r ⟨st, ρ, Ow, ds, dz, sr, rs, e, k⟩
  simp only [bi] at e
  split at e <;> try contradiction
  rename_i d _
  obtain ⟨v, rfl, r1⟩ := rs.one
  have ru := r1.view sr
  split at e
  · rename_i hok
    cases e
    generalize G.view st d = x at ru hok k
    unfold okRep at hok
    simp only [Bool.and_eq_true, decide_eq_true_eq] at hok
    obtain ⟨⟨⟨h1, h2⟩, h3⟩, h4⟩ := hok
    have fin : ∀ {v : V} {H' : Hp}, v = .str (toPy x).shown → New1 H H' → Q v H' := fun {v H'} ev nw => by
      have q := k (.str ⟨(reprD x).toArray⟩) H' nw (.str _ h3 h4)
      have es : (⟨(reprD x).toArray⟩ : PySem.Str) = (toPy x).shown := by unfold reprD; simp
      rw [es] at q
      rw [ev]; exact q
    have hl : (toPy x).shown.length ≤ sizeLine := by
      rw [← lim_line]
      have : (toPy x).shown.length = (reprD x).length := by unfold reprD; simp [Str.length]
      rw [this]; exact h3
    obtain ⟨u, rfl, r0⟩ := r.one
    obtain ⟨hd, hdep⟩ := dp_ofU 32 x v h1 ru
    have hdict := okEq_dict 32 x h1
    generalize toPy x = p at hd hdep fin hl h2 hdict
    cases hd with
    | non =>
      have eu : u = .none := r0
      subst eu
      exact PySem.P.repr_of_none ⟨.str _, H, I.tok _, ⟨_, rfl⟩, fin rfl (.inl rfl)⟩
    | bl b =>
      have eu : u = .bool b := r0
      subst eu
      exact PySem.P.repr_of_bool ⟨.str _, H, I.tok _, ⟨_, rfl⟩, fin rfl (.inl rfl)⟩
    | int i =>
      obtain ⟨t, rfl⟩ := r0
      exact PySem.P.repr_of_int (by simpa [PyData.showable] using h2) ⟨.str _, H, I.tok _, ⟨_, rfl⟩, fin rfl (.inl rfl)⟩
    | str y =>
      obtain ⟨t, rfl⟩ := r0
      exact PySem.P.repr_of_str ⟨.str _, H, I.tok _, ⟨_, rfl⟩, fin rfl (.inl rfl)⟩ hl
    | tup q qs =>
      rename_i a vs xs
      have eu : u = .ref a := r0
      subst eu
      obtain ⟨as, rd⟩ := L2.Dp.reads I (.tuple xs) (.ref a) (.ref a) (by rw [C.eK]; exact .tup q qs) rfl
      refine repr_of_reads' (h₀ := s.heap) rd h2 (PyData.noDict_hsm hdict) C.guards ?_ (fun _ _ h => h) (fun h' u tk hk => ⟨.str _, H, I.kept hk, ⟨_, rfl⟩, fin rfl (.inl rfl)⟩) hl
      have := C.rm.un
      omega
    | lst q qs =>
      rename_i a vs xs
      have eu : u = .ref a := r0
      subst eu
      obtain ⟨as, rd⟩ := L2.Dp.reads I (.list xs) (.ref a) (.ref a) (by rw [C.eK]; exact .lst q qs) rfl
      refine repr_of_reads' (h₀ := s.heap) rd h2 (PyData.noDict_hsm hdict) C.guards ?_ (fun _ _ h => h) (fun h' u tk hk => ⟨.str _, H, I.kept hk, ⟨_, rfl⟩, fin rfl (.inl rfl)⟩) hl
      have := C.rm.un
      omega
  · split at e
    rotate_left
    · cases e
    rename_i x hx
    cases e
    rw [hx] at ru
    obtain ⟨u, rfl, r0⟩ := r.one
    rcases ru with ru | ⟨_, _, _, _, h, _⟩
    rotate_left
    · cases h
    cases ru with
    | dct qd n1 n2 hk rd =>
      rename_i a kvs
      have e0 : kvs = [] := by
        cases kvs with
        | nil => rfl
        | cons p r => cases hk
      subst e0
      have eu : u = .ref a := r0
      subst eu
      obtain ⟨_, hsm, vs, kv, o, es, ep, ho, ⟨c1, c2, c3⟩, hd, _, hes, _⟩ := L2.dk_of I.hok qd
      cases kv
      have e1 : es = #[] := by
        have : es.toList = [] := by
          have := hes.length
          simpa using this
        simpa using congrArg List.toArray this
      subst e1
      have rd : Reads s.heap (.ref a) (.dict []) [a] := Reads.dict (as := []) (bs := []) ho c1 hd .nil .nil
      have hu := C.rm.un
      refine repr_of_reads' (h₀ := s.heap) rd (by rfl) (fun _ hm => ?_) C.guards (by simp only [PyData.depth, PyData.depthKv]; omega) (fun _ _ h => h) (fun h' u tk hk => ⟨.str _, H, I.kept hk, ⟨_, rfl⟩, ?_⟩) (by decide)
      · simp at hm
        rw [hm] at hsm
        simp at hsm
      · exact k (.str ⟨#[123, 125]⟩) H (.inl rfl) (.str [123, 125] (by rw [LIM]; decide) (by decide))
end
end G
namespace G
open PySem PySem.Spec PyProof.Rows
open L2 (V Hp HO upd SqL SqT Rd VK XK TE TT TA TI TS TG TGs Ends WX Cx PE PT PA PI PS PSs PG PGs Inv OpR CallR RelV Vals R2 PC PW)
section
variable {T : Tb} {H H' H1 H2 : Hp} {ρ ρ' ρ1 ρ2 Ow Ow' Ow1 Ow2 Ow0 : List Addr} {σ : L2.St} {env : Env} {st st' : Store}
theorem wipe_len (env : Env) : ∀ is : List Nat, (wipe env is).length = env.length
  | [] => rfl
  | i :: is => by simp only [wipe]; rw [List.length_set, wipe_len env is]
theorem wipe_at {env : Env} {i : Nat} {s : Sl} : ∀ {is : List Nat}, (wipe env is)[i]? = some s → s = .em ∨ (env[i]? = some s ∧ i ∉ is)
  | [], h => .inr ⟨h, by simp⟩
  | j :: is, h => by
    simp only [wipe] at h
    by_cases hi : j = i
    · subst hi
      by_cases hj : j < (wipe env is).length
      · rw [List.getElem?_set_self hj] at h; cases h; exact .inl rfl
      · rw [List.getElem?_eq_none (by simpa using hj)] at h; cases h
    · rw [List.getElem?_set_ne hi] at h
      rcases wipe_at h with h | ⟨h1, h2⟩
      · exact .inl h
      · exact .inr ⟨h1, by simp only [List.mem_cons, not_or]; exact ⟨fun e => hi e.symm, h2⟩⟩
theorem SlR.em (o : Option (Option V)) : SlR T H ρ Ow o .em := by
  cases o with
  | none => trivial
  | some o => cases o <;> trivial
theorem EnR.wipe (en : EnR T H ρ Ow σ env) (is : List Nat) : EnR T H ρ Ow (L2.wipe σ is) (wipe env is) := by
  refine ⟨by rw [wipe_len, L2.wipe_length]; exact en.len, fun i s h => ?_, fun i j xs ys a h1 h2 h3 h4 => ?_⟩
  · rcases wipe_at h with rfl | ⟨h1, h2⟩
    · exact SlR.em _
    · rw [L2.wipe_out h2]; exact en.at_ i s h1
  · rcases wipe_at h1 with h | ⟨g1, g2⟩
    · cases h
    · rcases wipe_at h2 with h | ⟨k1, k2⟩
      · cases h
      · rw [L2.wipe_out g2] at h3
        rw [L2.wipe_out k2] at h4
        exact en.apart i j xs ys a g1 k1 h3 h4
theorem wipe_off {σ' : L2.St} {is js : List Nat} (h : Off js (L2.wipe σ is) σ') (hs : ∀ j ∈ js, j ∈ is) : L2.wipe σ' is = L2.wipe σ is := by
  have key : ∀ (is0 : List Nat) (a b : L2.St), a.length = b.length → (∀ j, j ∉ is0 → a[j]? = b[j]?) → L2.wipe a is0 = L2.wipe b is0 := by
    intro is0
    induction is0 with
    | nil =>
      intro a b hl h
      exact List.ext_getElem? fun j => h j (by simp)
    | cons i is0 ih =>
      intro a b hl h
      unfold L2.wipe
      have e1 : L2.wipe (a.set i none) is0 = L2.wipe (b.set i none) is0 := ih _ _ (by simp [hl]) fun j hj => by
        by_cases hi : i = j
        · subst hi
          by_cases hb : i < a.length
          · rw [List.getElem?_set_self hb, List.getElem?_set_self (by rw [← hl]; exact hb)]
          · rw [List.getElem?_eq_none (by simpa using hb), List.getElem?_eq_none (by rw [List.length_set, ← hl]; simpa using hb)]
        · rw [List.getElem?_set_ne hi, List.getElem?_set_ne hi]
          exact h j (by simp only [List.mem_cons, not_or]; exact ⟨fun e => hi e.symm, hj⟩)
      have comm : ∀ (c : L2.St) (ks : List Nat), (L2.wipe c ks).set i none = L2.wipe (c.set i none) ks := by
        intro c ks
        induction ks with
        | nil => rfl
        | cons k ks ihk =>
          unfold L2.wipe
          rw [← ihk]
          by_cases hk : k = i
          · subst hk; rfl
          · rw [List.set_comm _ _ hk]
      rw [comm, comm, e1]
  have h1 : L2.wipe σ' is = L2.wipe (L2.wipe σ is) is := key is _ _ h.1 fun j hj => h.2 j fun hm => hj (hs j hm)
  rw [h1]
  exact key is _ _ (L2.wipe_length _ _) fun j hj => L2.wipe_out hj
/-- a list that no slot holds is written -/
theorem StR.updOw (sr : StR T H ρ Ow st) {a : Addr} {us : List V} (m : a ∈ Ow) : StR T (upd H a (.lst us)) ρ Ow st := by
  have hn : a ∉ ρ := sr.disj a m
  refine ⟨sr.len, sr.nd, sr.apart, fun b hb => ?_, fun l b ob h1 h2 => (sr.at_ l b ob h1 h2).keeps (Keeps.upd m fun ob u z => by obtain ⟨ws, q0⟩ := sr.lists a m; rw [q0] at z; cases z) sr.lists (L2.upd_ne fun e => hn (by rw [← e]; exact List.mem_of_getElem? h1)), fun i q h => ⟨(sr.tab i q h).1, (sr.tab i q h).2.keeps (Keeps.upd m fun ob u z => by obtain ⟨ws, q0⟩ := sr.lists a m; rw [q0] at z; cases z) sr.lists (L2.upd_ne fun e => hn (by rw [← e]; exact List.mem_of_getElem? (sr.tab i q h).1))⟩⟩
  by_cases e : b = a
  · exact ⟨us, by rw [e, L2.upd_same]⟩
  · obtain ⟨vs, q⟩ := sr.lists b hb
    exact ⟨vs, by rw [L2.upd_ne e]; exact q⟩
theorem EnR.updOw (en : EnR T H ρ Ow σ env) (sr : StR T H ρ Ow st) {a : Addr} {us : List V} (m : a ∈ Ow) (na : ∀ (i : Nat) (xs : List D), env[i]? = some (.own xs) → σ[i]? ≠ some (some (.ref a))) : EnR T (upd H a (.lst us)) ρ Ow σ env := by
  refine ⟨en.len, fun i s h => ?_, en.apart⟩
  have q := en.at_ i s h
  cases s with
  | em => exact SlR.em _
  | v d =>
    cases hs : σ[i]? with
    | none => rw [hs] at q; exact q.elim
    | some o =>
      rw [hs] at q
      cases o with
      | none => exact q.elim
      | some v =>
        have q' : RV T H ρ Ow v d := q
        exact q'.keeps (Keeps.upd m fun ob u z => by obtain ⟨ws, q0⟩ := sr.lists a m; rw [q0] at z; cases z) sr.lists
  | own zs =>
    obtain ⟨b, ws, g1, g2, g3, g4, g5⟩ := en.own h
    have ne : b ≠ a := fun e => na i zs h (by rw [g1, e])
    rw [g1]
    exact ⟨g2, ws, by rw [L2.upd_ne ne]; exact g3, g4, g5.keeps (Keeps.upd m fun ob u z => by obtain ⟨ws, q0⟩ := sr.lists a m; rw [q0] at z; cases z) sr.lists⟩
  | xc c fs =>
    obtain ⟨b, dx, fl, g1, g2, g3⟩ := en.xc h
    rw [g1]
    exact ⟨dx, fl, g2, g3.keeps (Keeps.upd m fun ob u z => by obtain ⟨ws, q0⟩ := sr.lists a m; rw [q0] at z; cases z) sr.lists⟩
end
section
variable {X : Cx} {T : Tb} {xf : Nat → List Nm} {W : WX} {N : List PySem.Str} {sc scope : Scope} {n : Nat} {elt tg iter : Expr} {pos : Pos} {sE sI : G.Sem} {rE rI : Bool}
/-- the block of a comprehension -/
def Blk (X : Cx) (scope : Scope) (X' : Cx) : Prop := ∃ (s : Shared) (H : Hp) (C : Addr) (cl : List (PySem.Str × Addr)) (fp : List Addr), X' = X.blk s H scope (compEnvC scope cl C X.env) fp
theorem Blk.cx {X' : Cx} (C : CxC X T N sc n) (b : Blk X scope X') : CxC X' T N (L2.relS scope sc) n := by
  obtain ⟨s, H, a, cl, fp, rfl⟩ := b
  refine ⟨⟨C.eK, C.eN, C.nd, ?_, C.rm, C.guards⟩, C.calm, C.room, C.hx0⟩
  show relabel scope X.env = _
  rw [← C.eS]; rfl
/-- the block lets nothing out -/
def W0 : WX := fun _ _ _ _ => False
inductive JIf (X : Cx) (T : Tb) (xf : Nat → List Nm) (W : WX) : List Expr → List G.Sem → Prop
  | nil : JIf X T xf W [] []
  | one {e : Expr} {s : G.Sem} {r : Bool} (j : JE X T xf W e s r) : JIf X T xf W [e] [s]
theorem jif_run {ifs : List Expr} {ss : List G.Sem} (h : JIf X T xf W ifs ss) : L2.PTs X ifs (tTst T xf W (testsV ss)) := by
  cases h with
  | nil =>
    refine ⟨fun pins s σ H Q I ⟨env, st, ρ, Ow, en, sr, p⟩ => L2.pts_nil.run pins s σ H Q I (Post.ok sr p)⟩
  | one j => exact L2.pts_one j.test
/-- no exception comes out -/
theorem Post.calm {α : Type} {w w' : Wo} (hT : w.T = w'.T) {H : Hp} {ρ Ow : List Addr} {Q : α → Store → Hp → List Addr → Prop} {o : O α} (h : ∃ a st, o = .ok a st) (p : Post w H ρ Ow Q o) : Post w' H ρ Ow Q o := by
  obtain ⟨a, st, rfl⟩ := h
  intro H' ρ' e s
  exact p H' ρ' e (by rw [hT]; exact s)
theorem lc_imp {ss : List G.Sem} {p : Pt} {own : List (PySem.Str × Nat)} (hp : ∀ j ∈ ptSlots p, j ∈ own.map (·.2)) :
    ∀ σ H Q, tFre T xf W (lcV sI sE (own.map (·.2)) p ss) σ H Q → L2.tLc (tIt T xf W rI sI.items) (tPt T [] p) (tTst T xf W0 (testsV ss)) (tVal T xf W0 true sE.val) (own.map (·.2)) σ H Q := by
  intro σ H Q ⟨env, st, ρ, Ow, en, sr, po⟩
  refine ⟨env, st, ρ, Ow, en, sr, (Post.bind po).mono fun ds st1 H1 ρ1 e1 s1 q J wk D hD => ?_⟩
  have q1 := Post.bind q
  clear q
  have en1 := en.ext e1 sr.disj
  have nD : D ∉ ρ1 := (s1.fresh hD).1
  have slotNe : ∀ (i : Nat) (xs : List G.D), env[i]? = some (.own xs) → σ[i]? ≠ some (some (.ref D)) := fun i xs h e => by
    obtain ⟨b, ws, g1, g2, g3, g4, g5⟩ := en1.own h
    rw [e] at g1; cases g1
    rw [hD] at g3; cases g3
  refine ⟨fun i m H' => i ≤ ds.length ∧ m = ds.length - i ∧ ∃ st ρ' acc vs, Ext H1 ρ1 H' ρ' ∧ StR T H' ρ' (D :: Ow) st ∧ EnR T H' ρ' (D :: Ow) σ env ∧ H' D = some (.lst vs) ∧ vs.length ≤ LIM ∧ RVs T H' ρ' (D :: Ow) vs acc ∧
      Post ⟨T, xf, W, σ⟩ H1 ρ1 Ow (fun ds st H' ρ' => Post ⟨T, xf, W, σ⟩ H' ρ' Ow (fun (d : G.D) _ H'' ρ'' => ∃ xs, d = .lst xs ∧ ∀ p vs, H'' p = none → RVs T H'' ρ'' Ow vs xs → vs.length ≤ LIM → Q (.ref p) (upd H'' p (.lst vs))) (.ok (.lst ds) st)) (compL (turnV (own.map (·.2)) sE p ss env) (ds.drop i) acc st), ⟨ds.length, Nat.zero_le _, rfl, st1, ρ1, [], [], ?_⟩, ?_⟩
  · exact ⟨Ext.new hD, s1.newOw hD, en1.newOw s1 hD, L2.upd_same, Nat.zero_le _, .nil, q1⟩
  · rintro i m H2 ⟨hi2, rfl, st2, ρ2, acc, vs, e2, s2, n2, hD2, hl2, rs2, p2⟩
    have k2 : Keeps H2 ρ2 (D :: Ow) (fun b => if b = D then none else H2 b) ρ2 Ow := ⟨fun a o h m1 m2 => by
      have ne : a ≠ D := fun e => m2 (by simp [e])
      exact ⟨by rw [if_neg ne]; exact h, m1, fun hm => m2 (by simp [hm])⟩, ⟨[], by simp⟩, fun a ob u h => by
      have ne : a ≠ D := fun e => by rw [e, hD2] at h; cases h
      rw [if_neg ne]; exact h⟩
    have DOw : D ∉ Ow := (s1.fresh hD).2
    have Dρ2 : D ∉ ρ2 := s2.disj D (by simp)
    have per : Per rI H1 ρ1 Ow H2 ρ2 (D :: Ow) := by
      have out : ∀ a, H1 a ≠ none → a ∉ Ow → a ∉ D :: Ow := fun a h n hm => by
        rcases List.mem_cons.mp hm with e | hm
        · rw [e] at h; exact h hD
        · exact n hm
      cases rI with
      | true => exact ⟨fun a o h m1 m2 => ⟨(e2.keep a o h m1).1, (e2.keep a o h m1).2, out a (by rw [h]; simp) m2⟩, e2.pre, e2.frz⟩
      | false => exact ⟨e2, out⟩
    by_cases hl : i = ds.length
    · subst hl
      rw [List.drop_length] at p2
      refine .inl ⟨wk.stop H2 ρ2 (D :: Ow) per, ?_⟩
      -- the new list's place taken out, then put back
      have e3 : Ext H1 ρ1 (fun b => if b = D then none else H2 b) ρ2 := ⟨fun a o h m1 => by
        have ne : a ≠ D := fun e => by rw [e, hD] at h; cases h
        exact ⟨by rw [if_neg ne]; exact (e2.keep a o h m1).1, (e2.keep a o h m1).2⟩, e2.pre, fun a ob u h => by
        have ne : a ≠ D := fun e => by rw [e, hD] at h; cases h
        rw [if_neg ne]; exact e2.frz a ob u h⟩
      have s3 : StR T (fun b => if b = D then none else H2 b) ρ2 Ow st2 := by
        refine ⟨s2.len, s2.nd, fun a ha hm => s2.apart a ha (by simp [hm]), fun a hm => ?_, fun l b ob h1 h2 => (s2.at_ l b ob h1 h2).keeps k2 s2.lists ?_, fun i q h => ⟨(s2.tab i q h).1, (s2.tab i q h).2.keeps k2 s2.lists (if_neg fun e => Dρ2 (by rw [← e]; exact List.mem_of_getElem? (s2.tab i q h).1))⟩⟩
        · obtain ⟨us, q⟩ := s2.lists a (by simp [hm])
          exact ⟨us, by rw [if_neg (fun e => DOw (by rw [← e]; exact hm))]; exact q⟩
        · exact if_neg fun e => Dρ2 (by rw [← e]; exact List.mem_of_getElem? h1)
      have p3 := p2 _ _ e3 s3
      obtain ⟨xs, ex, q3⟩ := Post.ok s3 p3
      cases ex
      have q4 := q3 D vs (if_pos rfl) (rs2.keeps k2 s2.lists) hl2
      have eH : upd (fun b => if b = D then none else H2 b) D (.lst vs) = H2 := by
        funext b
        by_cases hb : b = D
        · rw [hb, L2.upd_same, hD2]
        · rw [L2.upd_ne hb, if_neg hb]
      rw [eH] at q4
      exact q4
    · have hlt : i < ds.length := by omega
      obtain ⟨d, hd⟩ : ∃ d, ds[i]? = some d := ⟨ds[i], List.getElem?_eq_getElem hlt⟩
      have hdr : ds.drop i = d :: ds.drop (i + 1) := by
        rw [List.drop_eq_getElem_cons hlt]
        have := (List.getElem?_eq_some_iff.mp hd).2
        rw [this]
      rw [hdr] at p2
      obtain ⟨go, yl⟩ := wk.step i d H2 ρ2 (D :: Ow) st2 hd per s2
      refine .inr ⟨go, fun H' => ∃ st ρ' acc vs, Ext H1 ρ1 H' ρ' ∧ StR T H' ρ' (D :: Ow) st ∧ EnR T H' ρ' (D :: Ow) σ env ∧ H' D = some (.lst vs) ∧ vs.length ≤ LIM ∧ RVs T H' ρ' (D :: Ow) vs acc ∧
        Post ⟨T, xf, W, σ⟩ H1 ρ1 Ow (fun ds st H' ρ' => Post ⟨T, xf, W, σ⟩ H' ρ' Ow (fun (d : G.D) _ H'' ρ'' => ∃ xs, d = .lst xs ∧ ∀ p vs, H'' p = none → RVs T H'' ρ'' Ow vs xs → vs.length ≤ LIM → Q (.ref p) (upd H'' p (.lst vs))) (.ok (.lst ds) st)) (compL (turnV (own.map (·.2)) sE p ss env) (ds.drop (i + 1)) acc st), fun H' h => ⟨ds.length - (i + 1), by omega, by omega, rfl, h⟩, fun y H3 hy => ?_⟩
      obtain ⟨nw, ry⟩ := yl y H3 hy
      have e3 : Ext H1 ρ1 H3 ρ2 := e2.trans (nw.ext ρ2)
      have s3 : StR T H3 ρ2 (D :: Ow) st2 := nw.st s2
      have n3 : EnR T H3 ρ2 (D :: Ow) σ env := n2.ext (nw.ext ρ2) s2.disj
      have rs3 : RVs T H3 ρ2 (D :: Ow) vs acc := rs2.ext (nw.ext ρ2)
      have hD3 : H3 D = some (.lst vs) := ((nw.ext ρ2).keep D _ hD2 Dρ2).1
      have less : ∀ {H' : Hp} {ρ' : List Addr} {st : Store}, StR T H' ρ' (D :: Ow) st → StR T H' ρ' Ow st := fun z => z.ow (fun a _ _ n h => n (by simp [h])) (fun a ha hm => z.apart a ha (by simp [hm])) fun a hm => z.lists a (by simp [hm])
      have step : compL (turnV (own.map (·.2)) sE p ss env) (d :: ds.drop (i + 1)) acc st2 = (match turnV (own.map (·.2)) sE p ss env d st2 with
        | .ok (some y) st' => if acc.length < LIM then compL (turnV (own.map (·.2)) sE p ss env) (ds.drop (i + 1)) (acc ++ [y]) st' else .bad
        | .ok none st' => compL (turnV (own.map (·.2)) sE p ss env) (ds.drop (i + 1)) acc st'
        | _ => .bad) := rfl
      rw [step] at p2
      cases hs : setPt p d (wipe env (own.map (·.2))) with
      | none =>
        have e0 : turnV (own.map (·.2)) sE p ss env d st2 = .bad := by unfold turnV; rw [hs]
        rw [e0] at p2; exact p2.elim
      | some env3 =>
        have f3 : Fr T [] H3 ρ2 (D :: Ow) (L2.wipe σ (own.map (·.2))) (wipe env (own.map (·.2))) st2 := ⟨n3.wipe _, s3, fun a h => by simp at h, fun _ _ _ _ _ => by simp⟩
        refine ⟨_, st2, ρ2, D :: Ow, d, env3, f3, ry, hs, fun σ4 f4 off => ⟨wipe_off off hp, ?_⟩⟩
        -- the tests
        cases ht2 : testsV ss env3 st2 with
        | ok t st4 =>
          have e0 : turnV (own.map (·.2)) sE p ss env d st2 = (if t then (sE.val env3 st4).bind fun y st => .ok (some y) st else .ok none st4) := by unfold turnV; rw [hs]; simp only [ht2, O.bind]
          rw [e0] at p2
          refine ⟨env3, st2, ρ2, D :: Ow, f4.en, f4.sr, ?_⟩
          rw [ht2]
          intro H4 ρ4 e4 s4
          have hD4 : H4 D = some (.lst vs) := (e4.keep D _ hD3 Dρ2).1
          have n4 : EnR T H4 ρ4 (D :: Ow) σ env := n3.ext e4 s3.disj
          cases t with
          | false =>
            exact ⟨st4, ρ4, acc, vs, e3.trans e4, s4, n4, hD4, hl2, rs3.ext e4, p2⟩
          | true =>
            simp only [↓reduceIte]
            refine ⟨env3, st4, ρ4, D :: Ow, f4.en.ext e4 f4.sr.disj, s4, ?_⟩
            cases hv : sE.val env3 st4 with
            | ok y0 st5 =>
              have e5 : (if true = true then (sE.val env3 st4).bind fun y st => O.ok (some y) st else .ok none st4) = .ok (some y0) st5 := by rw [if_pos rfl, hv]; rfl
              rw [e5] at p2
              have p5 : Post ⟨T, xf, W, σ⟩ H1 ρ1 Ow _ (if acc.length < LIM then compL (turnV (own.map (·.2)) sE p ss env) (ds.drop (i + 1)) (acc ++ [y0]) st5 else .bad) := p2
              split at p5
              · rename_i hacc
                intro H5 ρ5 e5' s5 y ryy
                have hD5 : H5 D = some (.lst vs) := (e5'.keep D _ hD4 (s4.disj D (by simp))).1
                have rs5 : RVs T H5 ρ5 (D :: Ow) vs acc := (rs3.ext e4).ext e5'
                have hz : vs.length < LIM := by rw [rs5.length]; exact hacc
                have kk : Keeps H5 ρ5 (D :: Ow) (upd H5 D (.lst (vs ++ [y]))) ρ5 (D :: Ow) := Keeps.upd (by simp) fun ob u z => by rw [hD5] at z; cases z
                refine ⟨vs, hD5, by rw [← lim_line]; exact hz, st5, ρ5, acc ++ [y0], vs ++ [y], ?_, s5.updOw (by simp), (n4.ext e5' s4.disj).updOw s5 (by simp) slotNe, L2.upd_same, by rw [List.length_append]; exact hz, ?_, p5⟩
                · have e15 := (e3.trans e4).trans e5'
                  refine ⟨fun a o h m1 => ⟨?_, (e15.keep a o h m1).2⟩, e15.pre, fun a ob u h => (kk.frz a ob u (e15.frz a ob u h))⟩
                  rw [L2.upd_ne fun e => by rw [e, hD] at h; cases h]
                  exact (e15.keep a o h m1).1
                · exact (rs5.append (.cons ryy .nil)).keeps kk s5.lists
              · exact p5.elim
            | ex c fs st5 => rw [if_pos rfl, hv] at p2; exact p2.elim
            | bad => rw [if_pos rfl, hv] at p2; exact p2.elim
        | ex c fs st4 =>
          have e0 : turnV (own.map (·.2)) sE p ss env d st2 = .ex c fs st4 := by unfold turnV; rw [hs]; simp only [ht2, O.bind]
          rw [e0] at p2; exact p2.elim
        | bad =>
          have e0 : turnV (own.map (·.2)) sE p ss env d st2 = .bad := by unfold turnV; rw [hs]; simp only [ht2, O.bind]
          rw [e0] at p2; exact p2.elim
/-- the rule's conditions -/
structure LcOk (X : Cx) (T : Tb) (xf : Nat → List Nm) (W : WX) (N : List PySem.Str) (sc scope : Scope) (elt tg iter : Expr) (ifs : List Expr) (own : List (PySem.Str × Nat)) (sI sE : G.Sem) (p : Pt) (ss : List G.Sem) (rI : Bool) : Prop where
  fold : plainE iter = true
  blk : L2.BlkOk N sc scope own
  items : PI X tg iter (tIt T xf W rI sI.items)
  slots : ∀ j ∈ ptSlots p, j ∈ own.map (·.2)
  tgt : ∀ X', Blk X scope X' → PG X' tg (tPt T [] p)
  ifs : ∀ X', Blk X scope X' → JIf X' T xf W0 ifs ss
  elt : ∀ X', Blk X scope X' → JE X' T xf W0 elt sE true
theorem jf_lc {ifs : List Expr} {ss : List G.Sem} {p : Pt} {own : List (PySem.Str × Nat)} (C : CxC X T N sc n) (L : LcOk X T xf W N sc scope elt tg iter ifs own sI sE p ss rI) :
    JF X T xf W (.ListComp elt [⟨tg, iter, ifs, 0⟩] scope pos) (G.Sem.of (lcV sI sE (own.map (·.2)) p ss)) :=
  PE.imp (L2.pe_lc C.calm (by rw [C.eN]; exact C.nd) L.items (by rw [C.eN, C.eS]; exact L.blk) (fun s H a cl fp => L.tgt _ ⟨s, H, a, cl, fp, rfl⟩) (fun s H a cl fp => jif_run (L.ifs _ ⟨s, H, a, cl, fp, rfl⟩)) (fun s H a cl fp => (L.elt _ ⟨s, H, a, cl, fp, rfl⟩).val) (fun x => plain_fold L.fold _ _)) (lc_imp L.slots)
theorem lcV_sh {own : List Nat} {p : Pt} {ss : List G.Sem} : ∀ env st d st', (G.Sem.of (lcV sI sE own p ss)).val env st = .ok d st' → ∃ xs, d = .lst xs := by
  intro env st d st' h
  have h' : lcV sI sE own p ss env st = .ok d st' := h
  unfold lcV at h'
  cases h1 : sI.items env st with
  | ok xs st1 =>
    rw [h1] at h'
    have h2 : ((compL (turnV own sE p ss env) xs [] st1).bind fun ds st => O.ok (G.D.lst ds) st) = .ok d st' := h'
    cases h3 : compL (turnV own sE p ss env) xs [] st1 with
    | ok ys st2 => rw [h3] at h2; cases h2; exact ⟨_, rfl⟩
    | ex _ _ _ => rw [h3] at h2; cases h2
    | bad => rw [h3] at h2; cases h2
  | ex _ _ _ => rw [h1] at h'; cases h'
  | bad => rw [h1] at h'; cases h'
/-- a new list is a value -/
theorem fre_val {f : Env → Store → O G.D} {e : Expr} (sh : ∀ env st d st', f env st = .ok d st' → ∃ xs, d = .lst xs) (h : PE X e (tFre T xf W f)) : PE X e (tVal T xf W true f) :=
  PE.imp h fun σ H Q ⟨env, st, ρ, Ow, en, sr, po⟩ => by
    refine ⟨env, st, ρ, Ow, en, sr, ?_⟩
    cases hf : f env st with
    | ok d st1 =>
      rw [hf] at po
      intro H1 ρ1 e1 s1
      obtain ⟨xs, rfl⟩ := sh _ _ _ _ hf
      exact ⟨xs, rfl, fun p vs hp rs z => po _ ρ1 (e1.trans (Ext.new hp)) (s1.new hp) _ (rv_lst hp (s1.fresh hp).1 (s1.fresh hp).2 z rs)⟩
    | ex c fs st1 => rw [hf] at po; exact po
    | bad => rw [hf] at po; exact po
theorem je_lc {ifs : List Expr} {ss : List G.Sem} {p : Pt} {own : List (PySem.Str × Nat)} (C : CxC X T N sc n) (L : LcOk X T xf W N sc scope elt tg iter ifs own sI sE p ss rI) :
    JE X T xf W (.ListComp elt [⟨tg, iter, ifs, 0⟩] scope pos) (G.Sem.of (lcV sI sE (own.map (·.2)) p ss)) true := .of C.toCxG (fre_val lcV_sh (jf_lc C L))
/-- name = [..], on one line: the list goes to the name within the block's end -/
theorem js_lcN {Y : WS} {i : Nat} {y : PySem.Str} {py spos : Pos} {ifs : List Expr} {ss : List G.Sem} {p : Pt} {own : List (PySem.Str × Nat)} (C : CxC X Y.T N sc n) (h : NmL X y i) (hl : X.env.scope.names.lookup y = some .local)
    (hsw : swapsWith (.ListComp elt [⟨tg, iter, ifs, 0⟩] scope pos) (some (.Name y py)) spos.line X.env = pure true) (L : LcOk X Y.T Y.xf Y.W N sc scope elt tg iter ifs own sI sE p ss rI) :
    JS X Y (.Assign [.Name y py] (.ListComp elt [⟨tg, iter, ifs, 0⟩] scope pos) spos) fun env st => ((G.Sem.of (lcV sI sE (own.map (·.2)) p ss)).val env st).run env fun d st => .nx (env.set i (.v d)) st :=
  PS.imp (L2.ps_setLc C.calm h.nd h.at_ hl hsw L.items (by rw [C.eN, C.eS]; exact L.blk) (fun s H a cl fp => L.tgt _ ⟨s, H, a, cl, fp, rfl⟩) (fun s H a cl fp => jif_run (L.ifs _ ⟨s, H, a, cl, fp, rfl⟩)) (fun s H a cl fp => (L.elt _ ⟨s, H, a, cl, fp, rfl⟩).val) (fun x => plain_fold L.fold _ _)) fun Z σ H ⟨env, st, ρ, Ow, fr, po⟩ => by
    refine lc_imp L.slots σ H _ ⟨env, st, ρ, Ow, fr.en, fr.sr, ?_⟩
    cases hf : lcV sI sE (own.map (·.2)) p ss env st with
    | ok d st1 =>
      have po' : PostR Y H ρ Ow Z (.nx (env.set i (.v d)) st1) := by
        have q : PostR Y H ρ Ow Z ((lcV sI sE (own.map (·.2)) p ss env st).run env fun d st => .nx (env.set i (.v d)) st) := po
        rw [hf] at q; exact q
      intro H1 ρ1 e1 s1
      obtain ⟨xs, rfl⟩ := lcV_sh env st d st1 hf
      refine ⟨xs, rfl, fun p vs hp rs z => ?_⟩
      have e2 := e1.trans (Ext.new (o := .lst vs) hp)
      have f2 := fr.ext e2 (s1.new hp)
      exact po' _ _ _ _ (fr.step e2) (f2.set i (rv_lst hp (s1.fresh hp).1 (s1.fresh hp).2 z rs))
    | ex c fs st1 =>
      have q : PostR Y H ρ Ow Z ((lcV sI sE (own.map (·.2)) p ss env st).run env fun d st => .nx (env.set i (.v d)) st) := po
      rw [hf] at q
      exact fun cls dx H1 ρ1 e1 s1 x => q cls dx σ H1 ρ1 Ow (fr.step e1) (fr.ext e1 s1) x
    | bad =>
      have q : PostR Y H ρ Ow Z ((lcV sI sE (own.map (·.2)) p ss env st).run env fun d st => .nx (env.set i (.v d)) st) := po
      rw [hf] at q; exact q
end
end G
namespace G
open PySem PySem.Spec PyProof.Rows
open L2 (V Hp HO upd SqL SqT Rd VK XK TE TT TA TI TS TG TGs Ends WX Cx PE PT PA PI PS PSs PG PGs Inv OpR CallR RelV Vals R2 PC PW)
end G
namespace G
open PySem PySem.Spec PyProof.Rows
open L2 (V Hp HO upd SqL SqT Rd VK XK TE TT TA TI TS TG TGs Ends WX Cx PE PT PA PI PS PSs PG PGs Inv OpR CallR RelV Vals R2 PC PW Gl)
section
variable {X : Cx} {T : Tb} {xf : Nat → List Nm} {W : WX} {N : List PySem.Str} {sc : Scope} {n : Nat} {tg a b : Expr} {p pos tpos : Pos} {str : Bool}
/-- what is walked -/
def JI (X : Cx) (T : Tb) (xf : Nat → List Nm) (W : WX) (tg e : Expr) (s : G.Sem) (str : Bool) : Prop := PI X tg e (tIt T xf W str s.items)
theorem ji_of {e : Expr} {s : G.Sem} (j : JE X T xf W e s str) : JI X T xf W tg e s str := j.items tg
theorem walk_rng {H : Hp} {ρ Ow : List Addr} (lo hi : Int) : Walk str T (L2.Itr lo (hi - lo).toNat) H ρ Ow (rangeD lo hi) := by
  refine ⟨fun i d H' ρ' Ow' st hd p s => ?_, fun H' ρ' Ow' p => ?_⟩
  · have hi2 : i < (hi - lo).toNat := by
      have := (List.getElem?_eq_some_iff.mp hd).1
      simpa [rangeD] using this
    refine ⟨hi2, fun x H'' h => ?_⟩
    obtain ⟨rfl, rfl⟩ := h
    have hd' : (rangeD lo hi)[i]? = some (D.int (lo + (i : Int))) := by
      unfold rangeD
      rw [List.getElem?_map, List.getElem?_range hi2]; rfl
    rw [hd] at hd'
    cases hd'
    exact ⟨.inl rfl, .int _⟩
  · show (hi - lo).toNat ≤ (rangeD lo hi).length
    simp [rangeD]
theorem lim_int : (LIM : Int) < 2 ^ 62 := by rw [lim_line, sizeLine_eq]; decide
theorem ji_rng1 {s : G.Sem} (C : CxG X T N sc n) (hg : Gl X "range") (hm : X.mg "range" = none) (h : plainE a = true) (j : JE X T xf W a s true) :
    JI X T xf W tg (.Call (.Name "range" p) [a] [] pos) (.walk fun env st => (args [s] env st).bind fun ds st => rngI ds st) str :=
  PI.imp (L2.pi_range1 hg hm (pa_args (.cons h j .nil)) (by rw [plain_star h]; rfl)) fun σ H R ⟨env, st, ρ, Ow, en, sr, po⟩ => by
    refine ⟨env, st, ρ, Ow, en, sr, (Post.bind po).eqn.mono fun ds st1 H1 ρ1 e1 s1 q vs rs => ?_⟩
    obtain ⟨eq, q⟩ := q
    have hl := args_len eq
    match ds, rs, q, hl with
    | [d], .cons r .nil, q, _ =>
      cases d with
      | int j =>
        cases r
        have q' : Post ⟨T, xf, W, σ⟩ H1 ρ1 Ow _ (if -(LIM : Int) ≤ j ∧ j ≤ LIM then .ok (rangeD 0 j) st1 else .bad) := q
        split at q'
        · rename_i hj
          have w := walk_rng (T := T) (str := str) (H := H1) (ρ := ρ1) (Ow := Ow) 0 j
          rw [Int.sub_zero] at w
          have hb := lim_int
          exact ⟨j, rfl, by omega, by omega, Post.ok s1 q' _ w⟩
        · exact q'.elim
      | _ => exact q.elim
/-- an item's tuple -/
theorem lst_key {H : Hp} {ρ Ow : List Addr} {st : Store} {v : V} {ds : List D} (s : StR T H ρ Ow st) (r : RX str T H ρ Ow v (.lst ds)) : ∃ a, v = .ref a ∧ ∀ H' ρ' Ow', Per str H ρ Ow H' ρ' Ow' → ∃ vs, SqL T.K H' a vs ∧ RVs T H' ρ' Ow' vs ds := by
  have hv : ∃ a, v = .ref a := by
    rcases r.w with r2 | ⟨a, vs, es, e1, e2, h1, h2, z, rs⟩
    · cases r2; exact ⟨_, rfl⟩
    · exact ⟨a, e1⟩
  obtain ⟨a, rfl⟩ := hv
  refine ⟨a, rfl, fun H' ρ' Ow' p => ?_⟩
  cases str with
  | true =>
    have r' : RV T H ρ Ow (.ref a) (.lst ds) := r
    have r2 := r'.keeps p s.lists
    cases r2 with
    | lst q n1 n2 z rs => exact ⟨_, .inl (.inl q), rs⟩
  | false =>
    obtain ⟨e, ho⟩ := p
    rcases RW.ext e (RW.ow (fun a h _ n => ho a h n) r) with r2 | ⟨b, vs, es, e1, e2, h1, h2, z, rs⟩
    · cases r2 with
      | lst q n1 n2 z rs => exact ⟨_, .inl (.inl q), rs⟩
    · cases e1; cases e2
      exact ⟨vs, .inl (.inl h1), rs⟩
theorem tup_key {H : Hp} {ρ Ow : List Addr} {st : Store} {v : V} {ds : List D} (s : StR T H ρ Ow st) (r : RX str T H ρ Ow v (.tup ds)) : ∃ a, v = .ref a ∧ ∀ H' ρ' Ow', Per str H ρ Ow H' ρ' Ow' → ∃ vs, SqT T.K H' a vs ∧ RVs T H' ρ' Ow' vs ds := by
  have hv : ∃ a, v = .ref a := by
    rcases r.w with r2 | ⟨a, vs, es, e1, e2, h1, h2, z, rs⟩
    · cases r2; exact ⟨_, rfl⟩
    · exact ⟨a, e1⟩
  obtain ⟨a, rfl⟩ := hv
  refine ⟨a, rfl, fun H' ρ' Ow' p => ?_⟩
  cases str with
  | true =>
    have r' : RV T H ρ Ow (.ref a) (.tup ds) := r
    have r2 := r'.keeps p s.lists
    cases r2 with
    | tup q z rs => exact ⟨_, q.sq, rs⟩
  | false =>
    obtain ⟨e, ho⟩ := p
    rcases RW.ext e (RW.ow (fun a h _ n => ho a h n) r) with r2 | ⟨b, vs, es, e1, e2, h1, h2, z, rs⟩
    · cases r2 with
      | tup q z rs => exact ⟨_, q.sq, rs⟩
    · cases e2
theorem pair_lim : 2 ≤ LIM := by rw [lim_line, sizeLine_eq]; decide
theorem enumD_at {ds : List D} {i : Nat} {e : D} (h : (enumD ds)[i]? = some e) : ∃ d, ds[i]? = some d ∧ e = .exc 0 [.int i, d] := by
  unfold enumD at h
  rw [List.getElem?_map, List.getElem?_zipIdx] at h
  cases hd : ds[i]? with
  | none => rw [hd] at h; cases h
  | some d =>
    rw [hd] at h
    cases h
    exact ⟨d, rfl, by simp⟩
theorem walk_enL {H : Hp} {ρ Ow : List Addr} {ds : List D} {a : Addr} (key : ∀ H' ρ' Ow', Per str H ρ Ow H' ρ' Ow' → ∃ vs, SqL T.K H' a vs ∧ RVs T H' ρ' Ow' vs ds) : Walk str T (L2.Ite T.K a) H ρ Ow (enumD ds) := by
  refine ⟨fun i e H' ρ' Ow' st h0 p s => ?_, fun H' ρ' Ow' p => ?_⟩
  · obtain ⟨d, hd, rfl⟩ := enumD_at h0
    obtain ⟨vs, q, rs⟩ := key H' ρ' Ow' p
    obtain ⟨v, hv, rv⟩ := rs.get hd
    refine ⟨⟨vs, v, q, hv⟩, fun x H2 y => ?_⟩
    obtain ⟨t, y0, rfl, ht, rfl, hy⟩ := y
    have e := hy vs q
    rw [hv] at e; cases e
    exact ⟨.inr ⟨t, _, ht, rfl⟩, rv_raw ht (s.fresh ht).1 pair_lim (.cons (.int _) (.cons rv .nil))⟩
  · obtain ⟨vs, q, rs⟩ := key H' ρ' Ow' p
    exact ⟨vs, q, by rw [rs.length]; simp [enumD]⟩
end
end G
namespace G
open PySem PySem.Spec PyProof.Rows
open L2 (V Hp HO upd SqL SqT Rd VK XK TE TT TA TI TS TG TGs Ends WX Cx PE PT PA PI PS PSs PG PGs Inv OpR CallR RelV Vals R2 PC PW Gl It Turn FpOk)
def IterS : Bool → Heap → Addr → Addr → Nat → Prop
  | true, h, it, a, i => h.IsTupleIter it a i
  | false, h, it, a, i => h.IsListIter it a i
def ItemsS : Bool → Heap → Addr → Array Value → Prop
  | true, h, a, u => h.IsTuple a u
  | false, h, a, u => h.IsList a u
theorem ItemsS.lt {k : Bool} {h : Heap} {a : Addr} {u : Array Value} (p : ItemsS k h a u) : a < h.objs.size := by
  cases k with
  | true => obtain ⟨o, ho, _⟩ := p; exact Heap.lt_size ho
  | false => obtain ⟨o, ho, _⟩ := p; exact Heap.lt_size ho
theorem IterS.obj {k : Bool} {h : Heap} {it a : Addr} {i : Nat} (p : IterS k h it a i) : ∃ o, h.get? it = some o ∧ ∀ v, o.data ≠ .cell v := by
  cases k with
  | true => obtain ⟨o, ho, _, hd⟩ := p; exact ⟨o, ho, fun v q => by rw [hd] at q; cases q⟩
  | false => obtain ⟨o, ho, _, hd⟩ := p; exact ⟨o, ho, fun v q => by rw [hd] at q; cases q⟩
theorem IterS.at {k : Bool} {h h' : Heap} {it a : Addr} {i : Nat} (p : IterS k h it a i) (f : ∀ o, h.get? it = some o → h'.get? it = some o) : IterS k h' it a i := by
  cases k with
  | true => exact Heap.IsTupleIter.at p f
  | false => exact Heap.IsListIter.at p f
end G
namespace G
open PySem PySem.Spec PyProof.Rows
open L2 (V Hp HO upd SqL SqT Rd VK XK TE TT TA TI TS TG TGs Ends WX Cx PE PT PA PI PS PSs PG PGs Inv OpR CallR RelV Vals R2 PC PW Gl It Turn FpOk)
theorem meets_enum1 {v : Value} {o : PySem.Obj} {P : Heap → Prop} (B : Begins v o P) :
    Meets (Builtin.«enumerate.__new__» ⟨[.type "enumerate", v], []⟩) (fun _ R s => P s.heap ∧
      R (.ok (.ret (.ref (s.heap.push o).objs.size))) { s with heap := (s.heap.push o).push { cls := .type "enumerate", data := .fields #[.none, .bool false, .ref s.heap.objs.size, rawInt 0, .none, .none] } }) :=
  .of_wp fun prog w A R s h => by
    obtain ⟨hp, g, d, tk, os⟩ := s; obtain ⟨h1, h⟩ := h
    have hsub := sub_enumerate
    have q1 : ∀ {A' : Around} {E : Value → Shared → Prop} {Q : Value → Shared → Prop}, Q (.ref hp.objs.size) ⟨(hp.push o), g, d, tk, os⟩ → wpAny (model prog w) A' (pyIter v) Q E ⟨hp, g, d, tk, os⟩ :=
      fun q => B.iter prog w _ _ ⟨hp, g, d, tk, os⟩ _ h1 q
    wp_walk using q1
    refine wpAny_stack_any fun st => wpAny_pure ?_
    split
    · rename_i c _ _ _ _ _
      cases (c == Value.type "enumerate")
      · wp_walk using q1
        exact ⟨_, rfl, h⟩
      · wp_walk using q1
        exact ⟨_, rfl, h⟩
    · wp_walk using q1
      exact ⟨_, rfl, h⟩
theorem call_enum1 {prog : Program} {w : World} {A : Around} {E : Value → Shared → Prop} {s : Shared} {v : Value} {o : PySem.Obj} {P : Heap → Prop} {Q : Value → Shared → Prop} (B : Begins v o P) (h1 : P s.heap)
    (h : ∀ h', IsEnum h' (s.heap.objs.size + 1) s.heap.objs.size 0 .none → h'.get? s.heap.objs.size = some o → h'.objs.size = s.heap.objs.size + 2 →
      (∀ b o, s.heap.get? b = some o → h'.get? b = some o) → Q (.ref (s.heap.objs.size + 1)) { s with heap := h' }) :
    wpAny (model prog w) A (PySem.call (.type "enumerate") [v]) Q E s := by
  refine callType_new F.called_enumerate (by decide) (F.typeCall_enumerate_1 _) (F.newCall_enumerate_1 _) (fun obj => F.args_object_init_2 obj _) F.entry_enumerate_new (meets_enum1 B) ⟨h1, ?_⟩
  have hz : (s.heap.push o).objs.size = s.heap.objs.size + 1 := Heap.size_push ..
  show _ ∧ _
  rw [hz]
  have he : IsEnum ((s.heap.push o).push { cls := .type "enumerate", data := .fields #[.none, .bool false, .ref s.heap.objs.size, rawInt 0, .none, .none] }) (s.heap.objs.size + 1) s.heap.objs.size 0 .none := by
    have := Heap.get?_push_size (s.heap.push o) (o := { cls := .type "enumerate", data := .fields #[.none, .bool false, .ref s.heap.objs.size, rawInt 0, .none, .none] }) rfl
    rw [hz] at this; exact this
  exact ⟨⟨_, he, rfl⟩, h _ he (Heap.get?_push_of_some _ (Heap.get?_push_size _ B.free)) (by rw [Heap.size_push, hz]) fun b o' x => Heap.get?_push_of_some _ (Heap.get?_push_of_some _ x)⟩
/-- the tuple at a, each item in a new pair -/
def IteT (K : PySem.W.Frag) (a : Addr) : It :=
  ⟨fun i H => ∃ (xs : List V) (x : V), SqT K H a xs ∧ xs[i]? = some x, fun i H v H' => ∃ T x, v = .ref T ∧ H T = none ∧ H' = upd H T (.tup [.int (i : Nat), x]) ∧ ∀ xs, SqT K H a xs → xs[i]? = some x, fun i H => ∃ xs : List V, SqT K H a xs ∧ xs.length = i⟩
theorem turn_enumT {P : Program} {w : World} {K : PySem.W.Frag} {elts : List Expr} {kk : Nat} {tpos : Pos} (a e it : Addr) :
    Turn P w K (.Tuple elts kk tpos) (IteT K a) [e, it] e (fun i h => (∃ old, IsEnum h e it ((i : Nat) : Int) old) ∧ h.IsTupleIter it a i ∧ e ≠ it ∧ a ≠ it) where
  mem := by simp
  obj := fun i h st b hb => by
    obtain ⟨⟨old, he⟩, ⟨o, ho, hc, hd⟩, _⟩ := st
    have e' : b = e ∨ b = it := by simpa using hb
    rcases e' with z | z
    · rw [z]; exact ⟨_, he, fun v q => nomatch q⟩
    · rw [z]; exact ⟨o, ho, fun v q => by rw [hd] at q; cases q⟩
  keep := fun i h h' st k => let ⟨⟨old, he⟩, hi, hne⟩ := st; ⟨⟨old, k e (by simp) _ he⟩, hi.at fun o q => k it (by simp) o q, hne⟩
  item := by
    intro X hP hw hK hc i pins s σ H E I hf st hg
    subst hP hw hK
    obtain ⟨⟨old, he⟩, hit, hne, hai⟩ := st
    obtain ⟨xs, x, hq, hx⟩ := hg
    obtain ⟨its, rv, p, hz⟩ := I.tuple hq
    obtain ⟨u, hu, ru⟩ := rv.get hx
    have p' : s.heap.IsTuple a its.toArray := p
    have hel : e < s.heap.objs.size := Heap.lt_size he
    have hil : it < s.heap.objs.size := by obtain ⟨_, q, _⟩ := hit; exact Heap.lt_size q
    have hea : e ≠ a := fun z => by
      obtain ⟨o, ho, hc2, _⟩ := p'
      rw [← z] at ho
      have he' := he
      unfold IsEnum at he'
      rw [ho] at he'
      cases he'
      exact absurd (Value.type.inj (show Value.type "enumerate" = Value.type "tuple" from hc2)) (by decide)
    have D := Draws.tuple (prog := X.prog) (w := X.w) (A := X.A.in1) (show X.A.in1.handled = none from I.ok.hd hc) it a hai its.toArray
    have hlt : i < its.toArray.size := by
      have := (List.getElem?_eq_some_iff.mp hu).1
      simpa using this
    refine wpAny_pyNext_enum_itemD D he ⟨hit, p'⟩ hlt hne (by simp [hne, hea]) fun x2 h' tk hx2 ho hst hT hsz hk => ?_
    have eu : x2 = u := by
      have h1 : its.toArray[i]? = some u := by simpa using hu
      rw [h1] at hx2
      exact (Option.some.inj hx2).symm
    subst eu
    refine ⟨_, rfl, wpAny_letOwnedTupleGo_enum (s := { s with heap := h', toks := tk + 1 }) ho fun h'' he' sb => ?_⟩
    have hT2 : h''.get? s.heap.objs.size = some { cls := .type "tuple", data := .seq #[.int i tk, x2] } := (sb.2 _ (Nat.ne_of_gt hel)).trans hT
    have new : L2.ObjOk X.prog X.w (upd H s.heap.objs.size (.tup [.int (i : Nat), x])) h'' s.heap.objs.size (.tup [.int (i : Nat), x]) :=
      ⟨by show 2 ≤ sizeLine; decide, [.int i tk, x2], .cons ⟨_, rfl⟩ (.cons ru .nil), ⟨_, hT2, rfl, _, rfl⟩⟩
    have I1 : Inv X pins σ (upd H s.heap.objs.size (.tup [.int (i : Nat), x])) { s with heap := h'', toks := tk + 1 } :=
      I.turnedNew (ch := [e, it]) (fun b ob hb q => (sb.2 b (fun z => hb (by simp [z]))).trans (hk b ob (fun z => hb (by simp [z])) (fun z => hb (by simp [z])) q)) hf (Nat.le_refl _) new
    refine ⟨.ref s.heap.objs.size, _, I1, rfl, ⟨_, x, rfl, I.hok.fresh (Nat.le_refl _), rfl, fun ys hy => by rw [I.tuple_inj hy hq]; exact hx⟩, ⟨⟨x2, ?_⟩, hst.1.at fun o q => (sb.2 it (Ne.symm hne)).trans q, hne, hai⟩, fun b hb => ?_⟩
    · have e1 : ((i + 1 : Nat) : Int) = (i : Int) + 1 := by omega
      rw [e1]; exact he'
    · have hb' : b < s.heap.objs.size := by
        have e' : b = e ∨ b = it := by simpa using hb
        rcases e' with z | z
        · rw [z]; exact hel
        · rw [z]; exact hil
      rw [L2.upd_ne (Nat.ne_of_lt hb')]
      exact (hf b hb).1
  done := by
    intro X hP hw hK hc i pins s σ H E I hf st hg
    subst hP hw hK
    obtain ⟨⟨old, he⟩, hit, hne, hai⟩ := st
    obtain ⟨xs, hq, hx⟩ := hg
    obtain ⟨its, rv, p, hz⟩ := I.tuple hq
    obtain ⟨f0, f1, f2, f3, f4, f5⟩ := hf it (by simp)
    have hl := rv.length
    have p' : s.heap.IsTuple a its.toArray := p
    have D := Draws.tuple (prog := X.prog) (w := X.w) (A := X.A.in1) (show X.A.in1.handled = none from I.ok.hd hc) it a hai its.toArray
    have ei : i = its.toArray.size := by rw [List.size_toArray, ← hl, hx]
    subst ei
    exact wpAny_pyNext_enum_endD D he ⟨hit, p'⟩ fun h' eb => ⟨rfl, I.turned (t' := s.toks) (fun b o hb q => eb b o hb q) f0 f1 f3 f4 f5⟩
  self := fun A i s Q E st h => let ⟨⟨_, he⟩, _⟩ := st; wpAny_pyIter_enum he h
section
variable {X : Cx} {T : Tb} {xf : Nat → List Nm} {W : WX} {N : List PySem.Str} {sc : Scope} {n : Nat} {tg e e2 : Expr} {p pos tpos : Pos} {str : Bool} {elts : List Expr} {kk : Nat} {ta : TA}
def iEnumA (K : PySem.W.Frag) (ta : TA) : TI := fun σ H R => ta σ H fun vs H1 => ∃ a xs, vs = [.ref a] ∧ ((SqL K H1 a xs ∧ R (L2.Ite K a) H1) ∨ (SqT K H1 a xs ∧ R (IteT K a) H1))
theorem pi_enumA (hg : Gl X "enumerate") (hm : X.mg "enumerate" = none) (ha : PA X [e] ta) (hs : starEach [e] X.env = [(false, eval e X.env)]) :
    PI X (.Tuple elts kk tpos) (.Call (.Name "enumerate" p) [e] [] pos) (iEnumA X.K ta) := by
  refine ⟨fun pins s σ H R I h => ?_⟩
  refine Call_ (L2.ld_blt I hg hm boot_enumerate (PyProof.Rows.callWith_type1 (L2.thn (ha.run pos pins s σ H _ I h) fun us s1 ⟨vs, H1, I1, r1, q1⟩ => ?_) hs rfl))
  obtain ⟨a, xs, ex, q1⟩ := q1
  subst ex
  cases r1 with
  | cons r rr =>
    cases rr
    cases r
    have hf0 : ∀ b ∈ [s1.heap.objs.size + 1, s1.heap.objs.size], FpOk X pins H1 b := fun b hb => by
      have e' : b = s1.heap.objs.size + 1 ∨ b = s1.heap.objs.size := by simpa using hb
      rcases e' with z | z
      · rw [z]; exact I1.fpOk (Nat.le_succ _) (I1.hok.fresh (Nat.le_succ _))
      · rw [z]; exact I1.fpOk (Nat.le_refl _) (I1.hok.fresh (Nat.le_refl _))
    rcases q1 with ⟨hq, q⟩ | ⟨hq, q⟩
    · obtain ⟨its, rv, p', hz⟩ := I1.list hq
      refine call_enumerate_list p'.isList fun h' he hit hsz hk => wpAny_pyIter_enum he ?_
      have I2 : Inv X pins σ H1 { s1 with heap := h' } := I1.kept (t' := s1.toks) hk
      exact ⟨_, [s1.heap.objs.size + 1, s1.heap.objs.size], _, _, H1, rfl, I2, L2.turn_enum a _ _, ⟨⟨.none, he⟩, hit, Nat.succ_ne_self _⟩, hf0, q⟩
    · obtain ⟨its, rv, p', hz⟩ := I1.tuple hq
      have p2 : s1.heap.IsTuple a its.toArray := p'
      refine call_enum1 (begins_tuple a its.toArray) p2 fun h' he hit hsz hk => wpAny_pyIter_enum he ?_
      have I2 : Inv X pins σ H1 { s1 with heap := h' } := I1.kept (t' := s1.toks) hk
      have hlt : a < s1.heap.objs.size := by obtain ⟨o, ho, _⟩ := p2; exact Heap.lt_size ho
      exact ⟨_, [s1.heap.objs.size + 1, s1.heap.objs.size], _, _, H1, rfl, I2, turn_enumT a _ _, ⟨⟨.none, he⟩, ⟨_, hit, rfl, rfl⟩, Nat.succ_ne_self _, Nat.ne_of_lt hlt⟩, hf0, q⟩
theorem walk_enT {H : Hp} {ρ Ow : List Addr} {ds : List D} {a : Addr} (key : ∀ H' ρ' Ow', Per str H ρ Ow H' ρ' Ow' → ∃ vs, SqT T.K H' a vs ∧ RVs T H' ρ' Ow' vs ds) : Walk str T (IteT T.K a) H ρ Ow (enumD ds) := by
  refine ⟨fun i e H' ρ' Ow' st h0 p s => ?_, fun H' ρ' Ow' p => ?_⟩
  · obtain ⟨d, hd, rfl⟩ := enumD_at h0
    obtain ⟨vs, q, rs⟩ := key H' ρ' Ow' p
    obtain ⟨v, hv, rv⟩ := rs.get hd
    refine ⟨⟨vs, v, q, hv⟩, fun x H2 y => ?_⟩
    obtain ⟨t, y0, rfl, ht, rfl, hy⟩ := y
    have e := hy vs q
    rw [hv] at e; cases e
    exact ⟨.inr ⟨t, _, ht, rfl⟩, rv_raw ht (s.fresh ht).1 pair_lim (.cons (.int _) (.cons rv .nil))⟩
  · obtain ⟨vs, q, rs⟩ := key H' ρ' Ow' p
    exact ⟨vs, q, by rw [rs.length]; simp [enumD]⟩
theorem ji_enum {s : G.Sem} (C : CxG X T N sc n) (hg : Gl X "enumerate") (hm : X.mg "enumerate" = none) (h : plainE e = true) (j : JE X T xf W e s str) :
    JI X T xf W (.Tuple elts kk tpos) (.Call (.Name "enumerate" p) [e] [] pos) (.walk fun env st => (s.val env st).bind fun x st => .of ((seqF x).map enumD) st) str :=
  PI.imp (pi_enumA hg hm (L2.pa_cons j.val L2.pa_nil (plain_star h _ _)) (by rw [plain_star h]; rfl)) fun σ H R ⟨env, st, ρ, Ow, en, sr, po⟩ => by
    refine ⟨env, st, ρ, Ow, en, sr, (Post.bind po).mono fun d st1 H1 ρ1 e1 s1 q v r => ?_⟩
    obtain ⟨ds, hds, q⟩ := Post.of s1 q
    rw [C.eK]
    cases d with
    | lst xs =>
      cases hds
      obtain ⟨a, rfl, key⟩ := lst_key s1 r
      obtain ⟨vs, hq, _⟩ := key H1 ρ1 Ow (Ext.per (Ext.refl _ _) str Ow)
      exact ⟨a, vs, rfl, .inl ⟨hq, q _ (walk_enL key)⟩⟩
    | tup xs =>
      cases hds
      obtain ⟨a, rfl, key⟩ := tup_key s1 r
      obtain ⟨vs, hq, _⟩ := key H1 ρ1 Ow (Ext.per (Ext.refl _ _) str Ow)
      exact ⟨a, vs, rfl, .inr ⟨hq, q _ (walk_enT key)⟩⟩
    | _ => cases hds
end
end G
namespace G
open PySem PySem.Spec PyProof.Rows
open L2 (V Hp HO upd SqL SqT Rd VK XK TE TT TA TI TS TG TGs Ends WX Cx PE PT PA PI PS PSs PG PGs Inv OpR CallR RelV Vals R2 PC PW Gl Room)
end G
namespace G
open PySem PySem.Spec PyProof.Rows
open L2 (V Hp HO upd SqL SqT Rd VK XK TE TT TA TI TS TG TGs Ends WX Cx PE PT PA PI PS PSs PG PGs Inv OpR CallR RelV Vals R2 PC PW Gl Room)
end G
namespace G
open PySem PySem.Spec PyProof.Rows
open L2 (V Hp HO upd SqL SqT Rd VK XK TE TT TA TI TS TG TGs Ends WX Cx PE PT PA PI PS PSs PG PGs Inv OpR CallR RelV Vals R2 PC PW Gl Room)
end G
namespace G
open PySem PySem.Spec PyProof.Rows
open L2 (V Hp HO upd SqL SqT Rd VK XK TE TT TA TI TS TG TGs Ends WX Cx PE PT PA PI PS PSs PG PGs Inv OpR CallR RelV Vals R2 PC PW Gl Room)
section
variable {X : Cx} {Y : Wd} {W : WX} {N : List PySem.Str} {sc : Scope} {n k : Nat} {Γ : Ctx} {x : PySem.Str} {e o : Expr} {es : List Expr} {ss : List G.Sem} {pos apos : Pos} {so : G.Sem}
structure MeOk (Y : Wd) (k : Nat) (c : Nat) (m : Nm) (call : Fd) (np : Nat) : Prop where
  ex : ∃ (f : Addr) (fd : FuncData) (ps : List PySem.Str), L2.Meth Y.K (Y.T.cls c) (Y.T.nm m) f ∧ FnG Y k f fd ps call ∧ L2.Binds Y.K fd ps [] ∧ ps.length = np
/-- a class method of a class that is named -/
structure CmOk (Y : Wd) (k : Nat) (c : Nat) (m : PySem.Str) (call : Fd) (np : Nat) : Prop where
  ex : ∃ (mc : Value) (p g : Addr) (fd : FuncData) (ps : List PySem.Str), ClX.CRead Y.K (Y.T.cls c) mc ∧ ClX.CMet Y.K (Y.T.cls c) mc m p g ∧ FnG Y k g fd ps call ∧ L2.Binds Y.K fd ps [] ∧ ps.length = np
end
end G
namespace G
open PySem PySem.Spec PyProof.Rows
open L2 (V Hp HO upd SqL SqT Rd VK XK TE TT TA TI TS TG TGs Ends WX Cx PE PT PA PI PS PSs PG PGs Inv OpR CallR RelV Vals R2 PC PW Gl Room)
/-- what is asked of a class's instances -/
structure ClTy (K : PySem.W.Frag) (C : Addr) : Prop where
  cl : L2.Cls K C
  ha : PySem.W.findIn K (.ref C) "__class__" = some (some (.builtin "object.__class__"))
  hn : PySem.W.specialIn K (.builtin "object.__class__") "__get__" = some (some (.builtin "getset_descriptor.__get__"))
  htk : PySem.W.takesIn K (.builtin "object.__class__") = some true
  hm : PySem.W.mroIn K C (.type "object") = some true
/-- the answers of a class u that the type τ means -/
structure IsOk (K : PySem.W.Frag) (T : Tb) (Γ : Ctx) (τ : Ty) (u : Value) : Prop where
  non : PySem.W.kitOne K (.type "NoneType") u = some false
  bl : PySem.W.kitOne K (.type "bool") u = some τ.isBl
  int : PySem.W.kitOne K (.type "int") u = some τ.isInt
  str : PySem.W.kitOne K (.type "str") u = some τ.isStr
  tup : PySem.W.kitOne K (.type "tuple") u = some τ.isTup
  lst : PySem.W.kitOne K (.type "list") u = some false
  dct : PySem.W.kitOne K (.type "dict") u = some false
  ins : ∀ c q, Γ.cls c = some q → ClTy K (T.cls c) ∧ PySem.W.kitOne K (.ref (T.cls c)) u = some (τ.isOwn c)
section
variable {X : Cx} {Y : Wd} {T : Tb} {xf : Nat → List Nm} {W : WX} {N : List PySem.Str} {sc : Scope} {n k : Nat} {Γ : Ctx} {x : PySem.Str} {e : Expr} {p p2 pos apos : Pos} {s : G.Sem} {str : Bool}
theorem isi_ty {K : PySem.W.Frag} (eK : T.K = K) {τ : Ty} {u : Value} (O : IsOk K T Γ τ u) {H : Hp} {ρ Ow : List Addr} {st : Store} {v : V} {d : D} {b : Bool} (sr : StR T H ρ Ow st) (r : RW T H ρ Ow v d) (h : isiV Γ st d τ = some b) : ∃ t, L2.TyX K H v t ∧ PySem.W.kitOne K t u = some b := by
  have own : ∀ {a : Addr} {dx : Addr} {gs : List (PySem.Str × V)} {c : Nat}, H a = some (.ins (T.cls c) dx gs) → (if (Γ.cls c).isSome = true then some (τ.isOwn c) else none) = some b → ∃ t, L2.TyX K H (.ref a) t ∧ PySem.W.kitOne K t u = some b := by
    intro a dx gs c ha h
    split at h
    · rename_i hc
      cases h
      obtain ⟨q, hq⟩ := Option.isSome_iff_exists.mp hc
      obtain ⟨h1, h2⟩ := O.ins c q hq
      exact ⟨_, .base (.ins ha h1.cl h1.ha h1.hn h1.htk h1.hm), h2⟩
    · cases h
  have tupC : ∀ {a : Addr} {vs : List V}, StT T.K H ρ a vs → L2.TyX K H (.ref a) (.type "tuple") := by
    intro a vs q
    rw [eK] at q
    rcases q with ⟨⟨o, q, _⟩, _⟩ | ⟨o, its, m, h1, _, h2, _⟩
    · exact .fTuple q
    · exact .kTuple h1 h2
  rcases r with r | ⟨a, vs, ds, rfl, rfl, h1, h2, z, rs⟩
  · cases r with
    | non => cases h; exact ⟨_, .base .non, O.non⟩
    | bl y => cases h; exact ⟨_, .base (.bl y), O.bl⟩
    | int i => cases h; exact ⟨_, .base (.int i), O.int⟩
    | str y _ _ => cases h; exact ⟨_, .base (.str _), O.str⟩
    | tup q z rs => cases h; exact ⟨_, tupC q, O.tup⟩
    | raw q n z rs => cases h
    | lst q n1 n2 z rs => cases h; exact ⟨_, .base (.lst q), O.lst⟩
    | fl q z rs =>
      cases h
      refine ⟨.type "list", ?_, O.lst⟩
      rw [eK] at q
      rcases q with ⟨⟨o, q⟩, _⟩ | q
      · exact .base (.frz q)
      · rcases q (fun _ => none) with (q | ⟨o, q⟩) | ⟨o, its, m, h1, h2, _⟩
        · cases q
        · cases q
        · exact .kList h1 h2
    | @loc a l hl =>
      unfold isiV at h
      cases hs : st[l]? with
      | none => simp [hs] at h
      | some ob =>
        cases ob with
        | lst xs =>
          simp only [hs] at h
          cases h
          obtain ⟨_, vs, q, _⟩ := sr.at_ l a _ hl hs
          exact ⟨_, .base (.lst q), O.lst⟩
        | ins c fs =>
          simp only [hs] at h
          obtain ⟨_, dx, vs, q, _⟩ := sr.at_ l a _ hl hs
          exact own q h
        | dic z ks => simp [hs] at h
    | obj q n1 n2 z rs => exact own q h
    | cls c => cases h
    | dct q n1 n2 hk r =>
      cases h
      exact ⟨_, .base (.dK q), O.dct⟩
  · cases h
    exact ⟨_, .base (.lst h1), O.lst⟩
/-- isinstance(e, C) -/
theorem je_isi {τ : Ty} {u : Value} {c : V} (M : CxY X Y W N sc n) (O : IsOk Y.K Y.T Γ τ u) (hv : L2.ClsV c u) (hg : Gl X "isinstance") (hm : X.mg "isinstance" = none) (h : plainE e = true) (hc : PE X (.Name x p2) (L2.tC c)) (j : JE X Y.T Y.xf W e s str) :
    JE X Y.T Y.xf W (.Call (.Name "isinstance" p) [e, .Name x p2] [] pos) (G.Sem.of (one s fun d st => .of ((isiV Γ st d τ).map .bl) st)) true := by
  refine .of M.toCxG (PE.imp (L2.pe_callB L2.call_isi hg hm PyProof.Rows.boot_isinstance (L2.pa_cons j.val (L2.pa_cons hc L2.pa_nil (by rfl)) (plain_star h _ _)) (by decide) (by decide) (plain_star h _ _) (by rfl)) fun σ H Q ⟨env, st, ρ, Ow, en, sr, po⟩ => ?_)
  refine ⟨env, st, ρ, Ow, en, sr, (Post.bind po).mono fun d st1 H1 ρ1 e1 s1 q v r => ?_⟩
  cases hi : isiV Γ st1 d τ with
  | none => rw [hi] at q; exact q.elim
  | some b =>
    rw [hi] at q
    obtain ⟨t, h1, h2⟩ := isi_ty (K := Y.K) (by rw [← M.eK, M.eKY]) O s1 r.w hi
    have eK : X.K = Y.K := M.eKY
    exact ⟨v, c, t, u, b, rfl, hv, by rw [eK]; exact h1, by rw [eK]; exact h2, Post.ok s1 q _ (.bl b)⟩
end
end G
namespace G
open PySem PySem.Spec PyProof.Rows
open L2 (V Hp HO upd SqL SqT Rd VK XK TE TT TA TI TS TG TGs Ends WX Cx PE PT PA PI PS PSs PG PGs Inv OpR CallR RelV Vals R2 PC PW Gl Room)
section
variable {X : Cx} {Y : Wd} {T : Tb} {xf : Nat → List Nm} {W : WX} {N : List PySem.Str} {sc : Scope} {n k : Nat} {e : Expr} {es : List Expr} {p p2 pos apos cpos : Pos} {s : G.Sem} {ss : List G.Sem} {str : Bool}
theorem join_strs (sep : List Nat) : ∀ ss : List (List Nat), PySem.Str.join ⟨sep.toArray⟩ (ss.map fun w => (⟨w.toArray⟩ : PySem.Str)) = ⟨(joinS sep ss).toArray⟩
  | [] => rfl
  | [x] => rfl
  | x :: y :: r => by
    have ih := join_strs sep (y :: r)
    show (⟨x.toArray⟩ : PySem.Str) ++ ⟨sep.toArray⟩ ++ PySem.Str.join ⟨sep.toArray⟩ ((y :: r).map fun w => (⟨w.toArray⟩ : PySem.Str)) = _
    rw [ih]
    have e1 : ∀ a b : List Nat, (⟨a.toArray⟩ : PySem.Str) ++ ⟨b.toArray⟩ = ⟨(a ++ b).toArray⟩ := fun a b => by rw [← List.append_toArray]; rfl
    rw [e1, e1]
    rfl
end
end G
namespace G
open PySem PySem.Spec PyProof.Rows
open L2 (V Hp HO upd SqL SqT Rd VK XK TE TT TA TI TS TG TGs Ends WX Cx PE PT PA PI PS PSs PG PGs Inv OpR CallR RelV Vals R2 PC PW Gl Room)
section
variable {X : Cx} {Y : Wd} {T : Tb} {xf : Nat → List Nm} {W : WX} {N : List PySem.Str} {sc : Scope} {n k : Nat} {e o : Expr} {es : List Expr} {p p2 pos apos cpos : Pos} {s t : G.Sem} {ss : List G.Sem} {str str2 : Bool}
theorem je_join {x : List Nat} (C : CxG X T N sc n) {j0 : Nat} (hx : x.length ≤ LIM ∧ x.all okCode = true) (hl : (apos.endLine == pos.line) = true) (h : plainE e = true) (j : JE X T xf W e s str) :
    JE X T xf W (.Call (.Attribute (.Constant (.str ⟨x.toArray⟩) j0 p) "join" apos) [e] [] pos) (G.Sem.of (one s fun d st => .of (mt .join st (.str x) [d]) st)) true :=
  .of C (PE.imp (L2.pe_join L2.pe_str j.val (by rw [plain_star h]; rfl) (base_plain rfl _ _ _) hl) fun σ H Q ⟨env, st, ρ, Ow, en, sr, po⟩ => by
    refine ⟨⟨_, rfl⟩, env, st, ρ, Ow, en, sr, (Post.bind po).mono fun d st1 H1 ρ1 e1 s1 q v r => ?_⟩
    obtain ⟨dz, hd, q⟩ := Post.of s1 q
    have hd' : ((seqv st1 d).bind fun xs => (G.dStrs xs).bind fun ss => if lenSum ss + x.length * ss.length ≤ LIM then some (D.str (joinS x ss)) else none) = some dz := hd
    obtain ⟨xs, h1, h2⟩ := Option.bind_eq_some_iff.mp hd'
    obtain ⟨ys, h3, h4⟩ := Option.bind_eq_some_iff.mp h2
    split at h4
    · rename_i hz
      cases h4
      obtain ⟨a, vs, rfl, hq, z, rs⟩ := r.w.seq s1 h1
      obtain ⟨rfl, hall⟩ := strs_vals h3 rs
      have hsum : ((ys.map fun w => (⟨w.toArray⟩ : PySem.Str)).map (·.length)).sum = lenSum ys := by
        clear hz h3 hall rs z hq q hd hd' h2
        induction ys with
        | nil => rfl
        | cons y ys ih => simp [lenSum, Str.length] at ih ⊢; exact ih
      refine ⟨⟨x.toArray⟩, a, _, rfl, rfl, by rw [C.eK]; exact hq, ?_, ?_⟩
      · rw [hsum, List.length_map, Nat.mul_comm]
        unfold LIM at hz
        simpa [Str.length] using hz
      · rw [TL.join_eq, join_strs]
        refine q _ (.str _ ?_ ?_)
        · refine Nat.le_trans ?_ hz
          clear hz h3 hall rs z hq q hd hd' h2 hsum
          induction ys with
          | nil => simp [joinS]
          | cons y ys ih =>
            cases ys with
            | nil => simp [joinS, lenSum]
            | cons y2 ys =>
              simp only [joinS, lenSum, List.length_append, List.length_cons] at ih ⊢
              have : x.length * (ys.length + 1 + 1) = x.length * (ys.length + 1) + x.length := Nat.mul_succ _ _
              omega
        · clear hz h3 rs z hq q hd hd' h2 hsum
          induction ys with
          | nil => rfl
          | cons y ys ih =>
            cases ys with
            | nil => exact (hall y (by simp)).2
            | cons y2 ys =>
              simp only [joinS, List.all_append, Bool.and_eq_true]
              exact ⟨⟨(hall y (by simp)).2, hx.2⟩, ih fun s hs => hall s (by simp [hs])⟩
    · cases h4)
inductive JP (X : Cx) (T : Tb) (xf : Nat → List Nm) (W : WX) : Option Expr → List G.Sem → Prop
  | none : JP X T xf W none []
  | some {e : Expr} {s : G.Sem} (j : JE X T xf W e s true) : JP X T xf W (some e) [s]
def tOpt (T : Tb) (xf : Nat → List Nm) (W : WX) (ss : List G.Sem) : L2.TO := fun σ H Q => At T xf W (optV ss) (fun o _ _ H' => Q o H') σ H
theorem PO.imp {eo : Option Expr} {t t' : L2.TO} (h : L2.PO X eo t) (i : ∀ σ H Q, t' σ H Q → t σ H Q) : L2.PO X eo t' := ⟨fun pins s σ H Q I q => h.run pins s σ H Q I (i σ H Q q)⟩
theorem po_of {eo : Option Expr} {ss : List G.Sem} (h : JP X T xf W eo ss) : L2.PO X eo (tOpt T xf W ss) := by
  cases h with
  | none => exact PO.imp L2.po_none fun σ H Q ⟨env, st, ρ, Ow, en, sr, po⟩ => Post.ok sr po
  | some j =>
    rename_i e s
    refine PO.imp (L2.po_some j.val) fun σ H Q ⟨env, st, ρ, Ow, en, sr, po⟩ => ?_
    have po1 := Post.bind (Post.bind po)
    refine ⟨env, st, ρ, Ow, en, sr, po1.mono fun d st1 H1 ρ1 e1 s1 q v r => ?_⟩
    have q1 := Post.ok s1 q
    cases d with
    | int i =>
      have ei := r.w.u.int
      subst ei
      exact ⟨i, rfl, Post.ok s1 q1⟩
    | _ => exact q1.elim
theorem clip_eq (n d : Nat) (o : Option Int) : clip n d o = HT.sIx n d o := by
  cases o with
  | none => rfl
  | some v =>
    show (if v < 0 then (max (v + n) 0).toNat else (min v n).toNat) = (if v < 0 then (v + (n : Int)).toNat else min v.toNat n)
    split <;> omega
theorem cut_eq (vs : List V) (lo hi : Option Int) : L2.cutV vs lo hi = cut vs lo hi := by
  unfold L2.cutV cut
  rw [clip_eq, clip_eq]
theorem RVs.cut {H : Hp} {ρ Ow : List Addr} {vs : List V} {ds : List D} (rs : RVs T H ρ Ow vs ds) (lo hi : Option Int) : RVs T H ρ Ow (G.cut vs lo hi) (G.cut ds lo hi) := by
  unfold G.cut
  rw [rs.length]
  exact (rs.drop _).take _
theorem cut_len {α : Type} (xs : List α) (lo hi : Option Int) : (cut xs lo hi).length ≤ xs.length := by
  unfold cut
  rw [List.length_take, List.length_drop]
  omega
theorem je_sl {eo1 eo2 : Option Expr} {s1 s2 : List G.Sem} (C : CxG X T N sc n) (j : JE X T xf W e s str) (jl : JP X T xf W eo1 s1) (jh : JP X T xf W eo2 s2) :
    JE X T xf W (.Subscript e (.Slice eo1 eo2 none p2) pos) (G.Sem.of (slV s s1 s2)) true :=
  .of C (PE.imp (L2.pe_slice ((L2.SlR.or L2.sl_str L2.sl_list).or sl_tupF) j.val (po_of jl) (po_of jh)) fun σ H Q ⟨env, st, ρ, Ow, en, sr, po⟩ => by
    refine ⟨env, st, ρ, Ow, en, sr, (Post.bind po).mono fun d st1 H1 ρ1 e1 s1' q v r => ?_⟩
    refine ⟨env, st1, ρ1, Ow, en.ext e1 sr.disj, s1', (Post.bind q).mono fun lo st2 H2 ρ2 e2 s2' q2 => ?_⟩
    refine ⟨env, st2, ρ2, Ow, (en.ext e1 sr.disj).ext e2 s1'.disj, s2', (Post.bind q2).mono fun hi st3 H3 ρ3 e3 s3 q3 => ?_⟩
    have rw3 : RW T H3 ρ3 Ow v d := (r.w.ext e2).ext e3
    have ru := rw3.view s3
    obtain ⟨dz, hd, q⟩ := Post.of s3 q3
    have hd0 : slice st3 d lo hi = some dz := hd
    unfold slice at hd
    have fin : ∀ {w : V} {H' : Hp}, New1 H3 H' → RV T H' ρ3 Ow w dz → Q w H' := fun {w H'} nw rv => by
      have q4 := q3
      rw [hd0] at q4
      exact q4 H' ρ3 (nw.ext ρ3) (nw.st s3) w rv
    generalize G.view st3 d = dv at ru hd
    cases dv with
    | str x =>
      cases hd
      obtain ⟨rfl, z, c⟩ := ru.str
      refine .inl (.inl ⟨_, rfl, by rw [← lim_line]; simpa [Str.length] using z, ?_⟩)
      have ec : L2.cutS ⟨x.toArray⟩ lo hi = ⟨(cut x lo hi).toArray⟩ := by
        unfold L2.cutS cut
        rw [clip_eq, clip_eq]
        simp [Str.length]
      rw [ec]
      refine fin (.inl rfl) (.str _ (Nat.le_trans (cut_len x lo hi) z) (List.all_eq_true.mpr fun a ha => List.all_eq_true.mp c a ?_))
      unfold cut at ha
      exact List.mem_of_mem_drop (List.mem_of_mem_take ha)
    | lst xs =>
      cases hd
      obtain ⟨a, vs, rfl, hq, z, rs⟩ := ru.lst
      refine .inl (.inr ⟨a, vs, rfl, .inl (.inl hq), fun p hp => ?_⟩)
      rw [cut_eq]
      exact fin (.inr ⟨p, _, hp, rfl⟩) (rv_lst hp (s3.fresh hp).1 (s3.fresh hp).2 (Nat.le_trans (cut_len vs lo hi) z) (rs.cut lo hi))
    | fl xs =>
      cases hd
      rcases ru with ru | ⟨_, _, _, _, h, _⟩
      · cases ru with
        | @fl a vs _ hq z rs =>
          refine .inl (.inr ⟨a, vs, rfl, by rw [C.eK]; exact hq.sq, fun p hp => ?_⟩)
          rw [cut_eq]
          exact fin (.inr ⟨p, _, hp, rfl⟩) (rv_lst hp (s3.fresh hp).1 (s3.fresh hp).2 (Nat.le_trans (cut_len vs lo hi) z) (rs.cut lo hi))
      · cases h
    | tup xs =>
      cases hd
      obtain ⟨a, vs, rfl, hq, z, rs⟩ := ru.tup
      refine .inr ⟨a, vs, rfl, by rw [C.eK]; exact hq.sq, fun hw => ?_, fun p o hp ho => ?_⟩
      · refine fin (.inl rfl) ?_
        have ex : cut xs lo hi = xs := by
          unfold cut
          rw [clip_eq, clip_eq, ← rs.length, hw.1, hw.2]
          simp [rs.length]
        rw [ex]
        exact .tup hq z rs
      · rw [cut_eq]
        exact fin (.inr ⟨p, _, hp, rfl⟩) (rv_tup hp ho (s3.fresh hp).1 (Nat.le_trans (cut_len vs lo hi) z) (rs.cut lo hi))
    | _ => cases hd)
theorem je_g {i : Nat} {x : PySem.Str} {v : V} {u : Value} {d : D} (C : CxG X T N sc n) (hg : Gl X x) (hm : X.mg x = some u) (hr : L2.RelV v u) (hd : (x == ("__debug__" : PySem.Str)) = false) (r : ∀ H ρ Ow, RV T H ρ Ow v d) :
    JE X T xf W (.Name x p) (G.Sem.of fun _ st => .ok d st) true :=
  .of C (PE.imp (L2.pe_glob hg hm hr hd) fun σ H Q ⟨env, st, ρ, Ow, en, sr, po⟩ => Post.ok sr po v (r _ _ _))
end
end G
namespace G
open PySem PySem.Spec PyProof.Rows
open L2 (V Hp HO upd SqL SqT Rd VK XK TE TT TA TI TS TG TGs Ends WX Cx PE PT PA PI PS PSs PG PGs Inv OpR CallR RelV Vals R2 PC PW Gl)
end G
namespace G
open PySem PySem.Spec PyProof.Rows
open L2 (V Hp HO upd SqL SqT Rd VK XK TE TT TA TI TS TG TGs Ends WX Cx PE PT PA PI PS PSs PG PGs Inv OpR CallR RelV Vals R2 PC PW Gl Room)
theorem eqv_at {n m : Nat} {y : D} (hy : okEq m y = true) : ∀ (xs : List D) (i : Nat) (z : PyData), okEqs n xs = true → (toPys xs)[i]? = some z → ∃ d, xs[i]? = some d ∧ z = toPy d ∧ pyEq d y = PyData.eqv z (toPy y)
  | [], i, z, _, h => by simp [toPys] at h
  | x :: xs, 0, z, h, e => by
    have h' : okEq n x = true ∧ okEqs n xs = true := by simpa [okEqs] using h
    have e' : toPy x = z := by simpa [toPys] using e
    subst e'
    exact ⟨x, rfl, rfl, pyEq_eqv n m x y h'.1 hy⟩
  | x :: xs, i + 1, z, h, e => by
    have h' : okEq n x = true ∧ okEqs n xs = true := by simpa [okEqs] using h
    obtain ⟨d, h1, h2, h3⟩ := eqv_at hy xs i z h'.2 (by simpa [toPys] using e)
    exact ⟨d, by simpa using h1, h2, h3⟩
theorem toPys_at : ∀ (xs : List D) (i : Nat) (d : D), xs[i]? = some d → (toPys xs)[i]? = some (toPy d)
  | [], _, _, h => by simp at h
  | x :: xs, 0, d, h => by
    have h : x = d := by simpa using h
    subst h; rfl
  | x :: xs, i + 1, d, h => by
    have := toPys_at xs i d (by simpa using h)
    simpa [toPys] using this
section
variable {X : Cx} {Y : Wd} {T : Tb} {xf : Nat → List Nm} {W : WX} {N : List PySem.Str} {sc : Scope} {n k : Nat} {e o : Expr} {es : List Expr} {p p2 pos apos cpos : Pos} {s t : G.Sem} {ss : List G.Sem} {str str2 : Bool}
theorem je_index (C : CxG X T N sc n) (hp : plainO o = true) (hl : (apos.endLine == pos.line) = true) (he : plainE e = true) (jo : JE X T xf W o s str) (j : JE X T xf W e t str2) :
    JE X T xf W (.Call (.Attribute o "index" apos) [e] [] pos) (indexE s t) true :=
  .of C (PE.imp (L2.pe_bm PySem.F.plainAttrs_list PySem.F.slot_list_index PySem.F.type_list_index (L2.mt_indexD (by have := C.rm.un; omega)) jo.val (L2.pa_cons j.val L2.pa_nil (plain_star he _ _)) (base_plain hp _ _ _)
      (by rw [plain_star he]; rfl) hl (plain_star he _ _) (by rfl)) fun σ H Q ⟨env, st, ρ, Ow, en, sr, po⟩ => by
    refine ⟨env, st, ρ, Ow, en, sr, (Post.bind po).mono fun d st1 H1 ρ1 e1 s1 q v r => ?_⟩
    split at q
    rotate_left
    · exact q.elim
    rename_i hls
    cases d with
    | lst xs =>
      obtain ⟨a, vs, ev, hH, hz, rs⟩ := r.w.u.lst
      subst ev
      refine ⟨.inl ⟨rfl, vs, .inl (.inl hH)⟩, env, st1, ρ1, Ow, en.ext e1 sr.disj, s1, (Post.bind q).mono fun d2 st2 H2 ρ2 e2 s2 q2 v2 r2 => ?_⟩
      obtain ⟨dz, hdz, q3⟩ := Post.of s2 q2
      have hdz : (if (okEq 64 d2 && okEqs 63 xs) = true then (xs.findIdx? fun z => pyEq z d2).map fun (k : Nat) => D.int (k : Int) else none) = some dz := hdz
      split at hdz
      rotate_left
      · cases hdz
      rename_i hok
      rw [Bool.and_eq_true] at hok
      obtain ⟨kk, hk, rfl⟩ := Option.map_eq_some_iff.mp hdz
      obtain ⟨hk1, hk2, hk3⟩ := List.findIdx?_eq_some_iff_getElem.mp hk
      obtain ⟨p1, l1, z1⟩ := du_of hok.1 r2.w.u
      have rl := RW.ext e2 r.w
      obtain ⟨a2, vs2, ev2, hH2, hz2, rs2⟩ := rl.u.lst
      cases ev2
      obtain ⟨g1, g2, g3⟩ := dps_of 63 xs vs2 hok.2 rs2
      have hat : (toPys xs)[kk]? = some (toPy xs[kk]) := toPys_at xs kk _ (List.getElem?_eq_getElem hk1)
      refine ⟨a, v2, toPy d2, toPys xs, kk, toPy xs[kk], rfl, rfl, by rw [C.eK]; exact .lst (.inl (.inl hH2)) g1, by rw [C.eK]; exact p1, ?_, shaped_of l1 z1, hat, ?_, fun m z' hm hz' => ?_, q3 _ (.int _)⟩
      · exact shaped_of (by simpa [PyData.canLay0] using g2) (by simp [PyData.depth]; omega)
      · obtain ⟨d, hd1, hd2, hd3⟩ := eqv_at hok.1 xs kk _ hok.2 hat
        rw [← hd3]
        rw [List.getElem?_eq_getElem hk1] at hd1
        cases hd1
        exact hk2
      · obtain ⟨d, hd1, hd2, hd3⟩ := eqv_at hok.1 xs m _ hok.2 hz'
        rw [← hd3]
        have h5 := hk3 m hm
        obtain ⟨h6, h7⟩ := List.getElem?_eq_some_iff.mp hd1
        rw [h7] at h5
        simpa using h5
    | _ => cases hls)
/-- a tuple whose object is known -/
def tyTup (K : PySem.W.Frag) (x : V) (H : Hp) : Prop := ∃ a vs, x = .ref a ∧ ((∃ o : PySem.Obj, H a = some (.frz o (.tup vs)) ∧ o.dict = none) ∨ ∃ (o : PySem.Obj), K.lookup a = some o ∧ o.dict = none ∧ o.cls = .type "tuple")
theorem StT.ty {K : PySem.W.Frag} {H : Hp} {ρ : List Addr} {a : Addr} {vs : List V} (q : StT K H ρ a vs) : tyTup K (.ref a) H := by
  rcases q with ⟨q, _⟩ | ⟨o, its, n, h1, h2, h3, _⟩
  · exact ⟨a, vs, rfl, .inl q⟩
  · exact ⟨a, vs, rfl, .inr ⟨o, h1, h2, h3⟩⟩
end
end G
namespace G
open PySem PySem.Spec PyProof.Rows
open L2 (V Hp HO upd SqL SqT Rd VK XK TE TT TA TI TS TG TGs Ends WX Cx PE PT PA PI PS PSs PG PGs Inv OpR CallR RelV Vals R2 PC PW Gl Room)
end G
namespace G
open PySem PySem.Spec PyProof.Rows
open L2 (V Hp HO upd SqL SqT Rd VK XK TE TT TA TI TS TG TGs Ends WX Cx PE PT PA PI PS PSs PG PGs Inv OpR CallR RelV Vals R2 PC PW Gl Room)
end G
namespace G
open PySem PySem.Spec PyProof.Rows
open L2 (V Hp HO upd SqL SqT Rd VK XK TE TT TA TI TS TG TGs Ends WX Cx PE PT PA PI PS PSs PG PGs Inv OpR CallR RelV Vals R2 PC PW Gl Room)
end G
namespace G
open PySem PySem.Spec PyProof.Rows
section
open Builtin Builtin.ObjectAttr PySem.W PySem.Calls
variable {prog : Program} {w : World} {A : Around} {E : Value → Shared → Prop} {R : Result → Shared → Prop} {hp : Heap} {gs : Array GenState} {dr : Drawn} {tk0 : Nat} {os : OsState}
/-- the first store into an exception that is being made -/
theorem exc_first {B : String} {bmB : List Value} {K : Frag} {name : PySem.Str} {tk : Tok} {v : Value} {x C : Addr} {fv : Array Value} {cd : ClassData} (SF : StoreFacts B bmB "object.__setattr__" "object") (X : K.In hp) (hx : hp.get? x = some { cls := .ref C, data := .fields fv })
    (hover : excOver K C bmB = true) (hcd : clsIn K C = some cd) (hh : cd.hasDict = true) (hno : findIn K (.ref C) name = some none)
    (hq : ∀ h' tk' dx, (∀ b o, b ≠ x → hp.get? b = some o → h'.get? b = some o) → hp.objs.size ≤ dx → dx ≠ x → h'.get? x = some { cls := .ref C, dict := some dx, data := .fields fv } →
      h'.Ns1 dx (fun y => if y = name then some v else none) → R (.ok (.ret .none)) ⟨h', gs, dr, tk', os⟩) :
    codeAny (model prog w) A (.call (.builtin "object.__setattr__") ⟨[.ref x, .str name tk, v], []⟩) R ⟨hp, gs, dr, tk0, os⟩ := by
  have I : InstAt hp x { cls := .ref C, data := .fields fv } C none := ⟨hx, rfl, rfl, trivial⟩
  have ht : takerIn K C name = some none := by
    unfold takerIn
    rw [hno]; rfl
  refine osa_openX (s := ⟨hp, gs, dr, tk0, os⟩) SF X I hover ht fun b => ?_
  have hne : x ≠ hp.objs.size := Nat.ne_of_lt (Heap.lt_size hx)
  have Lc : Looks (model prog w) hp (classData C) cd := looks_clsIn X hcd
  show wpAny _ _ (storeInOwnDict (.ref x) (.ref C) (.str name tk) name v b) _ _ _
  obtain ⟨nm, bs, mro, ns, qn, hd, sn, sb, ab, col, del⟩ := cd
  dsimp only at hh
  subst hh
  unfold storeInOwnDict ownDictForStores
  repeat (first | with_reducible refine HandSPX.store_in_new ?_ ?_ | with_reducible refine wpAny_loadPart_at hx ?_ | with_reducible refine Lc.at ?_ | wp_step)
  · have here : ((hp.push { cls := .type "dict", data := .dict #[] }).update x fun o => { cls := o.cls, dict := some hp.objs.size, data := o.data, slots := o.slots }).get? hp.objs.size = some { cls := .type "dict", data := .dict #[] } :=
      (Heap.get?_update_ne _ _ _ _ hne.symm).trans (Heap.get?_push_size _ rfl)
    exact ⟨_, #[], _, here, rfl, fun e he => absurd he (by simp), fun _ => rfl⟩
  · intro h' tk' hn' hs
    have old : (hp.push { cls := .type "dict", data := .dict #[] }).get? x = some { cls := .ref C, data := .fields fv } := Heap.get?_push_of_some _ hx
    have kept : ∀ b o, b ≠ x → hp.get? b = some o → h'.get? b = some o := fun b o hb ho => by
      rw [hs.2 b (Nat.ne_of_lt (Heap.lt_size ho)), Heap.get?_update_ne _ _ _ _ hb]
      exact Heap.get?_push_of_some _ ho
    exact hq h' tk' hp.objs.size kept (Nat.le_refl _) hne.symm ((hs.2 x hne).trans (Heap.get?_update_self _ old rfl)) hn'
end
open L2 (V Hp HO upd SqL SqT Rd VK XK TE TT TA TI TS TG TGs Ends WX Cx PE PT PA PI PS PSs PG PGs Inv OpR CallR RelV Vals R2 PC PW Gl Room exo exd)
/-- an exception class over the built-in B -/
structure ExB (B newId initId : String) (bmB : List Value) : Prop where
  base : ExcBaseFacts B newId initId bmB
  store : StoreFacts B bmB "object.__setattr__" "object"
  exc : bmB.contains (.type "BaseException") = true
/-- what the written part says of the class -/
structure ExC (K : PySem.W.Frag) (C : Addr) (newId : String) (bmB : List Value) : Prop where
  cls : ∃ nm q N bs bm sn sub ab col dd k0 k1 k2 k3 k5, K.lookup C = some (excClassObj nm q C N bs bm true sn sub ab col dd k0 k1 k2 k3 k5 newId) ∧ PySem.W.excTail bmB bm = true
  over : PySem.W.excOver K C bmB = true
  sa : PySem.W.findIn K (.ref C) "__setattr__" = some (some (.builtin "object.__setattr__"))
  exC : PySem.W.subIn K (.ref C) (.type "BaseException") = some true
  tyC : PySem.W.typeIn K (.ref C) = some (.type "type")
  kC : PySem.W.keepIn K (.ref C) = true
section
variable {X : Cx} {pins : List (Addr × PySem.Obj)} {σ : L2.St} {H : Hp} {s : Shared} {a C dx : Addr} {f : PySem.Str} {y : V} {u : Value} {Q : Unit → Shared → Prop} {E : Value → Shared → Prop} {A : Around} {B newId initId : String} {bmB : List Value}
/-- the dict that the first store lays -/
theorem inv_first {h' : Heap} {t' : Nat} (I : Inv X pins σ H s) (e : H a = some (exo a C none)) (ry : RelV y u) (k : ∀ b o, b ≠ a → s.heap.get? b = some o → h'.get? b = some o) (dn : s.heap.objs.size ≤ dx)
    {t1 : Addr} (hx : h'.get? a = some { cls := .ref C, dict := some dx, data := .fields #[.ref t1, .none, .none, .none, .bool false, .none] }) (hn : h'.Ns1 dx fun z => if z = f then some u else none) :
    Inv X pins σ (upd (upd H dx (exd dx [(f, y)])) a (exo a C (some dx))) { s with heap := h', toks := t' } := by
  have nd : H dx = none := I.hok.fresh dn
  have olderNe : ∀ {b : Addr} {o : PySem.Obj}, s.heap.get? b = some o → b ≠ dx := fun q z => absurd (Heap.lt_size q) (by rw [z]; exact Nat.not_lt.mpr dn)
  have freeNe : ∀ {b : Addr}, H b = none → b ≠ a := fun n z => by rw [z, e] at n; cases n
  have other : ∀ {b : Addr} {u : HO}, H b = some u → b ≠ a → upd (upd H dx (exd dx [(f, y)])) a (exo a C (some dx)) b = some u := fun {b u} q na => by rw [L2.upd_ne na, L2.upd_ne (L2.ne_of_none q nd)]; exact q
  refine I.un (t' := t') ⟨fun b o q n _ _ => k b o (freeNe n) q, fun b o q n _ _ => ⟨o.slots, k b o (freeNe n) q⟩, fun b o q n _ => by rw [L2.upd_ne (freeNe n), L2.upd_ne (olderNe q)]; exact n, fun b o q _ => ?_, fun b xs q => other q (L2.at_ne e q L2.exo_tup), fun b o v q => other q (L2.at_ne e q L2.exo_frz), fun b ps q => ⟨#[], by rw [other q (L2.at_ne e q L2.exo_tbl)]; simp⟩⟩ fun b o q => ?_
  · by_cases hb : b = a
    · exact ⟨_, by rw [hb]; exact hx⟩
    · exact ⟨o, k b o hb q⟩
  · by_cases hb : b = a
    · subst hb
      rw [L2.upd_same] at q
      cases q
      exact L2.exo_ok hx
    · rw [L2.upd_ne hb] at q
      by_cases hd : b = dx
      · subst hd
        rw [L2.upd_same] at q
        cases q
        exact L2.exd_ok hn (L2.relO_put (fs := []) ry fun g => True.intro)
      · rw [L2.upd_ne hd] at q
        refine (I.hok b o q).stay (fun c v hc z => k c v ?_ z) (fun c hc => other hc (L2.at_ne e hc L2.exo_own)) fun c xs hc => other hc (L2.at_ne e hc L2.exo_tup)
        rcases hc with hc | hc
        · rw [hc]; exact hb
        · exact L2.at_ne e hc L2.exo_own
/-- self.f = y, while an exception is made -/
theorem set_first (FB : ExB B newId initId bmB) (T : ExC X.K C newId bmB) (I : Inv X pins σ H s) (e : H a = some (exo a C none)) (hno : PySem.W.findIn X.K (.ref C) f = some none) (ry : RelV y u)
    (h : ∀ dx s', H dx = none → dx ≠ a → Inv X pins σ (upd (upd H dx (exd dx [(f, y)])) a (exo a C (some dx))) s' → Q () s') : wpAny (model X.prog X.w) A (setAttr (.ref a) f u) Q E s := by
  obtain ⟨nm, q, N, bs, bm, sn, sub, ab, col, dd, k0, k1, k2, k3, k5, hC, hbm⟩ := T.cls
  have hcl : PySem.W.clsIn X.K C = some { name := nm, bases := bs, mro := .ref C :: bm, ns := N, qualname := q, hasDict := true, slotNames := sn, subclasses := sub, abstract := ab, collection := col, hasDel := false } := by
    unfold PySem.W.clsIn
    rw [hC] <;> rfl
  obtain ⟨t1, ho⟩ := L2.exo_at I.hok e
  obtain ⟨hp, g, d, t, os⟩ := s
  refine PySem.W.set_plain I.kIn (ox := { cls := .ref C, dict := none, data := .fields #[.ref t1, .none, .none, .none, .bool false, .none] }) (od := none) ⟨ho, rfl, rfl, trivial⟩ T.sa ?_
  refine exc_first FB.store I.kIn ho T.over hcl rfl hno fun h' tk' dx k dn dne hx hn => ?_
  exact h dx _ (I.hok.fresh dn) dne (inv_first (s := ⟨hp, g, d, t, os⟩) (t' := tk') I e ry k dn hx hn)
end
section
variable {X : Cx} {B newId initId : String} {bmB : List Value} {o e : Expr} {to te : TE} {f : PySem.Str} {p' pos : Pos}
/-- self.f = e, while an exception is made -/
def tFirst (K : PySem.W.Frag) (newId : String) (bmB : List Value) (f : PySem.Str) (to te : TE) : TS := fun Z σ H => te σ H fun y H1 => to σ H1 fun x H2 => ∃ a C : Addr, x = .ref a ∧ ExC K C newId bmB ∧ PySem.W.findIn K (.ref C) f = some none ∧ H2 a = some (exo a C none) ∧
  ∀ dx, H2 dx = none → dx ≠ a → Z.nx σ (upd (upd H2 dx (exd dx [(f, y)])) a (exo a C (some dx)))
theorem ps_first (FB : ExB B newId initId bmB) (ho : PE X o to) (he : PE X e te) (hs : swapsWith e (some (.Attribute o f p')) pos.line X.env = pure false) : PS X (.Assign [.Attribute o f p'] e pos) (tFirst X.K newId bmB f to te) := by
  refine ⟨fun pins s σ H Z I h => ?_⟩
  refine plainObj_wpAny_Assign_Attribute (L2.thn (he.run pins s σ H _ I h) fun v s1 ⟨y, H1, I1, r1, q1⟩ => L2.thn (ho.run pins s1 σ H1 _ I1 q1) fun u s2 ⟨x, H2, I2, r2, q2⟩ => ?_) hs
  obtain ⟨a, C, ex, T, hno, ea, q⟩ := q2
  subst ex
  have eu : u = Value.ref a := r2
  subst eu
  exact set_first FB T I2 ea hno r1 fun dx s' n ne J => ⟨σ, _, J, q dx n ne⟩
end
/-- the promise of an error's __init__ -/
def spInit (K : PySem.W.Frag) (newId : String) (bmB : List Value) (f : PySem.Str) : L2.Sp := fun vs H Q _ => ∃ a C y, vs = [.ref a, y] ∧ ExC K C newId bmB ∧ PySem.W.findIn K (.ref C) f = some none ∧ H a = some (exo a C none) ∧ ∀ dx, H dx = none → dx ≠ a → Q .non (upd (upd H dx (exd dx [(f, y)])) a (exo a C (some dx)))
theorem init_ok {P : Program} {w : World} {K : PySem.W.Frag} {mg : PySem.Str → Option Value} {base : Heap} {k : Nat} {fI : Addr} {name qual : PySem.Str} {params : Arguments} {scope : Scope} {dV kV doc pm cdv ct oc : Value} {an od : Option Addr} {osl : Array (Option Value)} {B newId initId : String} {bmB : List Value} {x1 x2 f : PySem.Str} {p1 p2 p3 pos : Pos}
    (FB : ExB B newId initId bmB) (lk : K.lookup fI = some ⟨oc, od, .func (PySem.W.fnOf name qual params [.Assign [.Attribute (.Name x1 p1) f p3] (.Name x2 p2) pos] scope dV kV doc pm an cdv ct), osl⟩) (hcd : PySem.W.codeIn K cdv qual = true) (S : L2.FnScope [x1, x2] [x1, x2] scope)
    (h1 : (x1 == ("__debug__" : PySem.Str)) = false) (h2 : (x1 == ("__classdict__" : PySem.Str)) = false) (h3 : (x2 == ("__debug__" : PySem.Str)) = false) (h4 : (x2 == ("__classdict__" : PySem.Str)) = false) :
    L2.FnOk P w K mg base (L2.CX P w) (k + 1) fI (PySem.W.fnOf name qual params [.Assign [.Attribute (.Name x1 p1) f p3] (.Name x2 p2) pos] scope dV kV doc pm an cdv ct) [x1, x2] (spInit K newId bmB f) := by
  have vis : ∀ x ∈ [x1, x2], L2.Vis scope x := fun x hx => (S.par x hx).elim .inl fun z => .inr (.inl z)
  refine L2.fn_of lk hcd S (fun vs H Q E h => ?_) fun A outer s H vs Q E hr h => ?_
  · obtain ⟨a, C, y, rfl, _⟩ := h
    rfl
  · obtain ⟨a, C, y, rfl, T, hno, ea, q⟩ := h
    refine ⟨_, L2.pss_one (ps_first FB (L2.pe_var (i := 0) rfl (vis x1 (by simp)) h1 h2) (L2.pe_var (i := 1) rfl (vis x2 (by simp)) h3 h4) rfl), ?_⟩
    exact ⟨y, rfl, .ref a, rfl, a, C, rfl, T, hno, ea, q⟩
end G
namespace G
open PySem PySem.Spec PyProof.Rows
open L2 (V Hp HO upd SqL SqT Rd VK XK TE TT TA TI TS TG TGs Ends WX Cx PE PT PA PI PS PSs PG PGs Inv OpR CallR RelV Vals R2 PC PW Gl Room exo exd)
/-- an error class with one attribute, as it may be made -/
structure ErrOk (Y : Wd) (k : Nat) (C : Addr) (f : PySem.Str) : Prop where
  ex : ∃ (B newId initId : String) (bmB : List Value) (fI : Addr) (fd : FuncData) (x1 x2 : PySem.Str), ExB B newId initId bmB ∧ ExC Y.K C newId bmB ∧ PySem.W.findIn Y.K (.ref C) f = some none ∧ PySem.W.findIn Y.K (.ref C) "__init__" = some (some (.ref fI)) ∧ PySem.W.typeIn Y.K (.ref fI) = some (.type "function") ∧
    L2.FnOk Y.P Y.w Y.K Y.mg Y.base (L2.CX Y.P Y.w) k fI fd [x1, x2] (spInit Y.K newId bmB f) ∧ L2.Binds Y.K fd [x1, x2] []
section
variable {X : Cx} {Y : Wd} {W : WX} {N : List PySem.Str} {sc : Scope} {n k : Nat} {Γ : Ctx} {x f : PySem.Str} {e : Expr} {te : TE} {p pos cpos : Pos} {s : G.Sem} {C : Addr}
/-- C(e), to be raised: the exception is gone, its dict stands -/
theorem pmk_err (M : CxY X Y W N sc n) (G0 : ErrOk Y k C f) (hk : k + 1 ≤ n) (hg : Gl X x) (hm : Y.mg x = some (.ref C)) (hd : (x == ("__debug__" : PySem.Str)) = false) (hpl : plainE e = true) (he : PE X e te) :
    L2.PMk X (.Call (.Name x p) [e] [] pos) (fun σ H Q => te σ H fun y H1 => ∀ dx, H1 dx = none → Q (.ref C) (some dx) (upd H1 dx (.xd [(f, y)]))) := by
  intro pins s0 σ H Q I h
  obtain ⟨B, newId, initId, bmB, fI, fd, x1, x2, FB, T0, hno0, iC0, tI0, F0, hb0⟩ := G0.ex
  have T : ExC X.K C newId bmB := by rw [M.eKY]; exact T0
  have hno : PySem.W.findIn X.K (.ref C) f = some none := by rw [M.eKY]; exact hno0
  have iC : PySem.W.findIn X.K (.ref C) "__init__" = some (some (.ref fI)) := by rw [M.eKY]; exact iC0
  have tI : PySem.W.typeIn X.K (.ref fI) = some (.type "function") := by rw [M.eKY]; exact tI0
  have F1 : L2.FnOk X.prog X.w X.K X.mg X.base (L2.CX X.prog X.w) k fI fd [x1, x2] (spInit X.K newId bmB f) := by
    rw [M.eP, M.ew, M.eKY, M.em, M.eb]; exact F0
  have hb : L2.Binds X.K fd [x1, x2] [] := by rw [M.eKY]; exact hb0
  have hr : Room (k + 1) X.A := M.room.mono hk
  obtain ⟨nm, q, N0, bs, bm, sn, sub, ab, col, dd, k0, k1, k2, k3, k5, hC, hbm⟩ := T.cls
  refine wpAny_Call_Name_kw (L2.ld_glob I hg (by rw [M.em]; exact hm) ?_ hd)
  refine PySem.W.callWith_K (h₀ := X.base) I.ok.mod.kin T.kC (L2.thn ((L2.pa_cons he L2.pa_nil (plain_star hpl _ _)).run pos pins s0 σ H (fun vs H1 => match vs with
    | [y] => ∀ dx, H1 dx = none → Q (.ref C) (some dx) (upd H1 dx (.xd [(f, y)]))
    | _ => False) I h) fun us s1 ⟨vs, H1, I1, r1, q1⟩ => ⟨I1.kIn, ?_⟩) (plain_star hpl _ _) (by rfl)
  obtain ⟨y, rfl⟩ : ∃ y, vs = [y] := by
    match vs, q1 with
    | [y], _ => exact ⟨y, rfl⟩
  obtain ⟨u, rfl, ru⟩ := r1.one
  show wpAny _ _ (PySem.call (.ref C) [u]) _ _ _
  obtain ⟨hp, g, dr, tk, os⟩ := s1
  generalize hae : hp.objs.size + 1 = ae
  have hae2 : hp.objs.size ≤ ae := by omega
  have fresh : H1 ae = none := I1.hok.fresh hae2
  have kk : ∀ b o, hp.get? b = some o → ((hp.push (PySem.W.kdv_tup [u])).push (PySem.HandSPX.excO C hp.objs.size)).get? b = some o := fun b o e => Heap.get?_push_of_some _ (Heap.get?_push_of_some _ e)
  have hget : ((hp.push (PySem.W.kdv_tup [u])).push (PySem.HandSPX.excO C hp.objs.size)).get? ae = some (PySem.HandSPX.excO C hp.objs.size) := by rw [← hae]; heap_get
  have I2 : Inv X pins σ (upd H1 ae (exo ae C none)) ⟨(hp.push (PySem.W.kdv_tup [u])).push (PySem.HandSPX.excO C hp.objs.size), g, dr, tk, os⟩ :=
    I1.laid (t' := tk) (a := ae) (o := exo ae C none) (h' := (hp.push (PySem.W.kdv_tup [u])).push (PySem.HandSPX.excO C hp.objs.size)) kk hae2 (L2.exo_ok hget)
  -- what the class's __init__ is to do
  have want : spInit X.K newId bmB f [.ref ae, y] (upd H1 ae (exo ae C none))
      (fun v H2 => v = .non ∧ ∃ d fs, H2 ae = some (exo ae C (some d)) ∧ H2 d = some (exd d fs) ∧ H1 d = none ∧ Q (.ref C) (some d) (upd (L2.del H2 ae) d (.xd fs))) (fun _ _ _ => False) := by
    refine ⟨ae, C, y, rfl, T, hno, L2.upd_same, fun dx hdx hne => ⟨rfl, dx, [(f, y)], L2.upd_same, ?_, ?_, ?_⟩⟩
    · rw [L2.upd_ne hne, L2.upd_same]
    · rw [L2.upd_ne hne] at hdx; exact hdx
    · have hdx1 : H1 dx = none := by rw [L2.upd_ne hne] at hdx; exact hdx
      have eH : upd (L2.del (upd (upd (upd H1 ae (exo ae C none)) dx (exd dx [(f, y)])) ae (exo ae C (some dx))) ae) dx (.xd [(f, y)]) = upd H1 dx (.xd [(f, y)]) := by
        funext b
        by_cases h1 : b = dx
        · rw [h1, L2.upd_same, L2.upd_same]
        · rw [L2.upd_ne h1, L2.upd_ne h1]
          by_cases h2 : b = ae
          · rw [h2, L2.del_same, fresh]
          · rw [L2.del_ne h2, L2.upd_ne h2, L2.upd_ne h1, L2.upd_ne h2]
      rw [eH]
      exact q1 dx hdx1
  have bind : BindsTo ⟨(hp.push (PySem.W.kdv_tup [u])).push (PySem.HandSPX.excO C hp.objs.size), g, dr, tk, os⟩ fd ⟨[.ref ae, u], []⟩ ([x1, x2].zip [.ref ae, u]) := by
    have z := hb _ [.ref ae, u] I2.kIn rfl
    rw [List.append_nil] at z
    exact z
  have go := F1.run (X.A.under (.builtin "type.__call__" ⟨.ref C :: [u], []⟩)) X.stack _ _ ⟨[.ref ae, u], []⟩ [.ref ae, u] [.ref ae, y] _ (fun _ _ _ => False) (hr.make C [u] []) (I2.env0.make C [u] []) bind (.cons rfl (.cons ru .nil)) want
  subst hae
  refine wpAny_call (PySem.HandSPX.call_own FB.base (fun Z => PySem.W.excTail_contains Z bm hbm) (I1.kIn _ _ hC) (PySem.W.looks_findIn I1.kIn iC) (fun self => PySem.W.bind_fn I1.kIn self tI) (by show 1 ≤ sizeLine; rw [sizeLine_eq]; omega) (codeAny_mono go fun r s' hq' => ?_))
  cases r with
  | error er =>
    obtain ⟨_, _, _, _, _, _, _, _, _, _, _, _, z⟩ := hq'
    exact z.elim
  | ok fl =>
    cases fl with
    | ret u2 =>
      obtain ⟨v, H2, os2, bare2, un2, hok2, rv, ev, d, fs, ea, ed, hd1, q2⟩ := hq'
      subst ev
      obtain ⟨h2, g2, d2, t2, os'⟩ := s'
      exact ⟨rv, L2.mk_end (L2.raises_own T.exC T.tyC) I1 (Nat.le_succ _) kk un2 hok2 os2 bare2 ea ed hd1 q2⟩
    | _ => exact hq'.elim
/-- raise C(e) -/
theorem js_raise {Ow0 : List Addr} {frr : Bool} {c : Nat} {fn : Nm} {q : Xc} (CS : CxS X ⟨Y.T, Y.xf, W, Ow0, frr⟩ N sc n) (M : CxY X Y W N sc n) (hq : Γ.exs c = some q) (hf : q.field = [fn]) (hxf : Y.xf c = [fn]) (hnm : Y.T.nm fn = f) (hC : Y.T.exc c = C) (G0 : ErrOk Y k C f) (hk : k + 1 ≤ n) (hg : Gl X x) (hm : Y.mg x = some (.ref C)) (hd : (x == ("__debug__" : PySem.Str)) = false)
    (hpl : plainE e = true) (j : JE X Y.T Y.xf W e s true) : JS X ⟨Y.T, Y.xf, W, Ow0, frr⟩ (.Raise (some (.Call (.Name x p) [e] [] cpos)) none pos) fun env st => (args [s] env st).run env fun ds st => match Γ.exs c with
      | some k => if k.field.length = ds.length then .ex env c ds st else .bad
      | none => .bad :=
  PS.imp (L2.ps_raise CS.calm CS.tk (pmk_err M G0 hk hg hm hd hpl j.val)) fun Z σ H ⟨env, st, ρ, Ow, fr, po⟩ => by
    have po1 := PostR.run fr po
    have po2 := Post.bind po1
    refine ⟨env, st, ρ, Ow, fr.en, fr.sr, po2.mono fun d st1 H1 ρ1 e1 s1 q1 v r dx hdx => ?_⟩
    have q2 := Post.ok s1 q1
    obtain ⟨f1, q4⟩ := q2
    rw [hq] at q4
    have q5 : PostR ⟨Y.T, Y.xf, W, Ow0, frr⟩ H1 ρ1 Ow Z (if q.field.length = [d].length then .ex env c [d] st1 else .bad) := q4
    rw [hf, if_pos (show [fn].length = [d].length from rfl)] at q5
    have r' : RV Y.T H1 ρ1 Ow v d := r
    have en := Ext.new (ρ := ρ1) (o := HO.xd [(f, v)]) hdx
    have sn : StR Y.T (upd H1 dx (.xd [(f, v)])) ρ1 Ow st1 := s1.new hdx
    refine q5 (.ref C) (some dx) σ _ ρ1 Ow (f1.step en) (f1.ext en sn) ⟨by rw [hC], ?_⟩
    show match Y.xf c, [d], some dx with
      | [], [], none => True
      | [f], [d], some x => ∃ v', upd H1 dx (.xd [(_, v)]) x = some (.xd [(Y.T.nm f, v')]) ∧ x ∉ ρ1 ∧ x ∉ Ow ∧ RV Y.T _ ρ1 Ow v' d
      | _, _, _ => False
    rw [hxf]
    exact ⟨v, by rw [L2.upd_same, hnm], (s1.fresh hdx).1, (s1.fresh hdx).2, r'.ext en⟩
end
end G
namespace G
open PySem PySem.Spec PyProof.Rows
open L2 (V Hp HO upd SqL SqT Rd VK XK TE TT TA TI TS TG TGs Ends WX Cx PE PT PA PI PS PSs PG PGs Inv OpR CallR RelV Vals R2 PC PW Gl Room)
open LamX (TabB lamEnv TabS Tabs CodeO)
/-- a lambda's names: its parameter, captured ones, globals -/
structure LamP (sc scope : Scope) : Prop where
  kind : scope.kind = .function
  co : scope.isCoroutine = false
  gen : scope.isGenerator = false
  own : ∀ y ∈ scope.names, y.2 ≠ .cell
  free : ∀ y ∈ scope.names, y.2 = .free → sc.names.lookup y.1 = some .cell ∨ sc.names.lookup y.1 = some .free
/-- a key's text -/
inductive LK (N : List PySem.Str) (sc scope : Scope) (x : PySem.Str) : Expr → KX → Prop
  | p {pos : Pos} (h : scope.names.lookup x = some .local) (hd : (x == ("__debug__" : PySem.Str)) = false) : LK N sc scope x (.Name x pos) .p
  | c {i : Nat} {y : PySem.Str} {pos : Pos} (hn : N[i]? = some y) (h : scope.names.lookup y = some .free) (hd : (y == ("__debug__" : PySem.Str)) = false) (hc : (y == ("__classdict__" : PySem.Str)) = false) : LK N sc scope x (.Name y pos) (.c i)
  | k {z : Int} {j : Nat} {pos : Pos} : LK N sc scope x (.Constant (.int z) j pos) (.k z)
  | ix {a b : Expr} {u v : KX} {pos : Pos} (ha : LK N sc scope x a u) (hb : LK N sc scope x b v) (hp : L2.PlainIx b) : LK N sc scope x (.Subscript a b pos) (.ix u v)
section
variable {X : Cx} {T : Tb} {xf : Nat → List Nm} {W : WX} {N : List PySem.Str} {sc scope : Scope} {n : Nat} {pins : List (Addr × PySem.Obj)} {σ : L2.St} {H : Hp} {s : Shared} {ρ Ow : List Addr} {env : Env} {st : Store} {h : Heap} {L f c c' P : Addr} {x : PySem.Str}
theorem atI_vals {vs : List V} {xs : List D} {i : Int} {z : D} (rs : RVs T H ρ Ow vs xs) (hz : atI xs i = some z) : ∃ v, L2.atI vs i = some v ∧ RV T H ρ Ow v z := by
  unfold atI at hz
  obtain ⟨j, hj, hz⟩ := Option.bind_eq_some_iff.mp hz
  obtain ⟨v, hv, rv⟩ := rs.get hz
  refine ⟨v, ?_, rv⟩
  unfold L2.atI
  rw [rs.length]
  show (L2.ixN xs.length i).bind _ = _
  have e : L2.ixN xs.length i = some j := hj
  rw [e]
  exact hv
/-- an item by its place, nothing else happens -/
theorem item_at {A : Around} {E : Value → Shared → Prop} {Q : Value → Shared → Prop} {a b : Expr} {v : V} {u : Value} {d z : D} {xs : List D} {i : Int} {t : Tok} (hK : X.K = T.K) (I : Inv X pins σ H s) (rv : RV T H ρ Ow v d) (ru : RelV v u) (hx : seqF d = some xs) (hz : atI xs i = some z)
    (hp : subscripted b false u (.int i t) = operate [u, .int i t] (getItem u (.int i t))) (q : ∀ w v', RelV v' w → RV T H ρ Ow v' z → Q w s) : wpAny (model X.prog X.w) A (subscriptTail a b u (.int i t)) Q E s := by
  have hn := L2.line63
  cases d with
  | tup ys =>
    cases hx
    cases rv with
    | tup sq hz2 rs =>
      cases ru
      obtain ⟨its, r, pl, hz3⟩ := I.tuple (by rw [hK]; exact sq.sq)
      obtain ⟨v', he, rv'⟩ := atI_vals rs hz
      obtain ⟨j, h1, h2, h3, h4, h5⟩ := L2.atI_get he
      obtain ⟨w, ew, rw'⟩ := r.get h2
      have hl := r.length
      exact subscriptTail_builtinR (x := w) pl.typeIs slot_tuple_getitem.lookup
        (getItem_tuple (j := j) (Q := fun r s' => r = w ∧ Q r s') pl (by omega) (by omega) (by rw [List.size_toArray, ← hl]; exact h1) (by simpa using ew) ⟨rfl, q w v' rw' rv'⟩) hp
  | lst ys =>
    cases hx
    cases rv with
    | lst hq n1 n2 hz2 rs =>
      cases ru
      obtain ⟨its, r, pl, hz3⟩ := I.list (.inl (.inl hq))
      obtain ⟨v', he, rv'⟩ := atI_vals rs hz
      obtain ⟨j, h1, h2, h3, h4, h5⟩ := L2.atI_get he
      obtain ⟨w, ew, rw'⟩ := r.get h2
      have hl := r.length
      have fin := q w v' rw' rv'
      by_cases h0 : 0 ≤ i
      · have hj : i.toNat = j := by
          rw [seqIndex_of h0 h5] at h1
          exact Option.some.inj h1
        exact item_listR pl.isList h0 (by omega) (by rw [hj]; simpa using ew) fin hp
      · have hj : (i + (its.toArray.size : Int)).toNat = j := by
          rw [seqIndex_neg (by omega) h4] at h1
          rw [List.size_toArray, ← hl]
          exact Option.some.inj h1
        exact subscriptTail_builtinR (x := w) pl.isList.typeIs slot_list_getitem.lookup
          (wpAny_getItem_list_neg (Q := fun r s' => r = w ∧ Q r s') pl.isList (by omega) (by rw [List.size_toArray] <;> omega) (by omega) (by rw [hj]; simpa using ew) ⟨rfl, fin⟩) hp
  | _ => cases hx
theorem LamP.has (hL : LamP X.env.scope scope) (ok : X.Ok) : ∀ y ∈ scope.names, y.2 = .free → ∃ c, X.env.cells.lookup y.1 = some c := fun y hy e => by
  rcases hL.free y hy e with k | k
  · exact ok.has _ (.inl k)
  · exact ok.has _ (.inr k)
/-- a key is read off: nothing else happens -/
theorem lk_run (hK : X.K = T.K) (I : Inv X pins σ H s) (en : EnR T H ρ Ow σ env) (hL : LamP X.env.scope scope) {m : PySem.Str → Option Value} (kp : ∀ b o, s.heap.get? b = some o → h.get? b = some o) (hns : h.Ns L m) {v : V} {u : Value} {d : D} (hm : m x = some u) (ru : RelV v u) (rv : RV T H ρ Ow v d) :
    ∀ {e : Expr} {kx : KX}, LK X.N X.env.scope scope x e kx → ∀ {z : D}, kx.val env d = some z → ∀ (A : Around) (E Q : Value → Shared → Prop) (tk : Nat), (∀ w v' tk', RelV v' w → RV T H ρ Ow v' z → Q w { s with heap := h, toks := tk' }) →
      wpAny (model X.prog X.w) A (eval e (lamEnv X scope L f c')) Q E { s with heap := h, toks := tk } := by
  intro e kx l
  induction l with
  | p hl hd =>
    intro z hz A E Q tk q
    cases hz
    exact wpAny_Name (wpAny_loadName_local hL.kind hl hns hm (q u v tk ru rv)) hd
  | @c i y pos hn hl hd hc =>
    intro z hz A E Q tk q
    obtain ⟨v', hv, rv'⟩ := en.get (i := i) (d := z) hz
    have hy : (y, NameKind.free) ∈ scope.names := PySem.mem_of_lookup hl
    have hfree := hL.has I.ok
    have hsc := hL.free _ hy rfl
    have hvis : L2.Vis X.env.scope y := hsc.elim (fun k => .inr (.inl k)) (fun k => .inr (.inr k))
    obtain ⟨m0, hn0, hl0⟩ := I.loc
    obtain ⟨w, rw', q'⟩ := hl0 i y v' hn hv hvis
    obtain ⟨c2, h2⟩ := L2.mem_lookup (L2.cloFrom_has (cells := X.env.cells) (acc := []) hy)
    have c1 : X.env.cells.lookup y = some c2 := by
      rcases L2.cloFrom_mem (PySem.mem_of_lookup h2) with hm' | ⟨h1, h3⟩
      · cases hm'
      · obtain ⟨c4, h4⟩ := hfree _ h1 rfl
        have h4 : X.env.cells.lookup y = some c4 := h4
        have e2 : c2 = c4 := by rw [h3, h4] <;> rfl
        rw [e2]; exact h4
    have cell : h.IsCell c2 (some w) := by
      rcases q' with ⟨k', _⟩ | ⟨_, c3, e', z'⟩
      · have k' : X.env.scope.names.lookup y = some .local := k'
        rcases hsc with k2 | k2 <;> rw [show X.env.scope.names.lookup y = _ from k2] at k' <;> cases k'
      · rw [c1] at e'
        cases e'
        obtain ⟨o, ho, hd'⟩ := z'
        exact ⟨o, kp _ _ ho, hd'⟩
    exact wpAny_Name (wpAny_loadName_free (c := c2) hL.kind hl h2 cell (q w v' tk rw' rv') hc) hd
  | k =>
    intro z hz A E Q tk q
    cases hz
    exact wpAny_Constant_int (q _ (.int _) _ ⟨_, rfl⟩ (.int _))
  | ix ha hb hp iha ihb =>
    intro z hz A E Q tk q
    obtain ⟨d1, h1, hz⟩ := Option.bind_eq_some_iff.mp hz
    obtain ⟨d2, h2, hz⟩ := Option.bind_eq_some_iff.mp hz
    cases d2 with
    | int j =>
      obtain ⟨xs, hx, hz⟩ := Option.bind_eq_some_iff.mp hz
      refine Subscript_ (iha h1 A E _ tk fun w1 v1 tk1 r1 rv1 => ihb h2 A E _ tk1 fun w2 v2 tk2 r2 rv2 => ?_)
      cases rv2
      obtain ⟨t, rfl⟩ := r2
      exact item_at hK (I.kept (t' := tk2) kp) rv1 r1 hx hz (hp _ _) fun w v' rw' rv' => q w v' tk2 rw' rv'
    | _ => cases hz
/-- the lambda is made: all that is tracked but the table stays -/
theorem lam_make3 {P : Addr} {q : PySem.Str} {params : Arguments} {body : Expr} {pos : Pos} {E : Value → Shared → Prop} {Q : Value → Shared → Prop} (I : Inv X pins σ H s) (sr : StR T H ρ Ow st) (TB : TabB X.base X.mg c P) (hcode : X.env.code = .ref c)
    (hq : q = X.env.qual ++ "<lambda>") (hm : (P, q) ∈ T.tabs) (hdef : defaultsOf params X.env = ([], [])) (hfree : ∀ y ∈ scope.names, y.2 = .free → ∃ c, X.env.cells.lookup y.1 = some c)
    (h : ∀ (f c' : Addr) (pm ctv : Value) (H1 : Hp) (s' : Shared), Inv X pins σ H1 s' → Ext H ρ H1 ρ → StR T H1 ρ Ow st →
      s'.heap.get? f = some (PySem.W.kla_obj "<lambda>" q params body scope (L2.cloFrom X.env.cells scope.names []) pm c' ctv) → s'.heap.CodeRec (.ref c') q → Q (.ref f) s') :
    wpAny (model X.prog X.w) X.A (eval (.Lambda params body scope pos) X.env) Q E s := by
  subst hq
  obtain ⟨i, hi⟩ := List.getElem?_of_mem hm
  obtain ⟨hρ, ps, hP, ht, ha⟩ := sr.tab i _ hi
  have mP : P ∈ ρ := List.mem_of_getElem? hρ
  refine PySem.W.kla_eval hdef ?_
  have bP : s.heap.BuiltinsAt X.mg P := TB.bm.keeps I.bk
  have hP' : s.heap.get? P = some { cls := .none, data := .fields ps } := I.hok P _ hP
  cases hc : codeAmong pos ps.toList with
  | none =>
    refine PySem.W.kla_makeFunction (mg := X.mg) (c := c) (P := P) (ps := ps) (L2.closure_ok hfree) I.ok.glob (I.mod.glob.keeps I.bk) hcode (TB.code.keeps I.bk) hP' ht hc TB.gP bP fun c' ctv h' tk hx hge hlt hrec htb => ?_
    obtain ⟨c2, oc, vs, t, e2, hoc, hd, hv⟩ := hrec
    cases e2
    have nC : H c' = none := I.hok.fresh hge
    have I1 := LamX.inv_table (t' := tk) (more := #[rawInt pos.line, rawInt pos.col, .ref c']) (h' := h'.push (PySem.W.kla_obj "<lambda>" (X.env.qual ++ "<lambda>") params body scope (L2.cloFrom X.env.cells scope.names []) ((X.mg "__name__").getD .none) c' ctv)) I hP
      (fun b o hb e => Heap.get?_push_of_some _ (hx b o hb e)) (Heap.get?_push_of_some _ htb) hge ⟨oc, vs, t, Heap.get?_push_of_some _ hoc, hd, hv⟩
    have e1 : Ext H ρ (upd H P (.tbl (ps ++ #[rawInt pos.line, rawInt pos.col, .ref c']))) ρ := Ext.set mP fun ob u z => by rw [hP] at z; cases z
    have nC1 : upd H P (.tbl (ps ++ #[rawInt pos.line, rawInt pos.col, .ref c'])) c' = none := by rw [L2.upd_ne fun e => by rw [e, hP] at nC; cases nC]; exact nC
    have e2 : Ext H ρ (upd (upd H P (.tbl (ps ++ #[rawInt pos.line, rawInt pos.col, .ref c']))) c' (CodeO c' (X.env.qual ++ "<lambda>"))) ρ := e1.trans (Ext.new nC1)
    have nρ : c' ∉ ρ := fun hm => by
      obtain ⟨o, ho⟩ := sr.mem hm
      rw [nC] at ho; cases ho
    have eL : (ps ++ #[rawInt pos.line, rawInt pos.col, .ref c']).toList = ps.toList ++ [rawInt pos.line, rawInt pos.col, .ref c'] := by simp
    have same : ∀ b, b ≠ P → H b ≠ none → upd (upd H P (.tbl (ps ++ #[rawInt pos.line, rawInt pos.col, .ref c']))) c' (CodeO c' (X.env.qual ++ "<lambda>")) b = H b := fun b h1 h2 => by
      rw [L2.upd_ne fun e => h2 (by rw [e]; exact nC), L2.upd_ne h1]
    have s1 : StR T (upd (upd H P (.tbl (ps ++ #[rawInt pos.line, rawInt pos.col, .ref c']))) c' (CodeO c' (X.env.qual ++ "<lambda>"))) ρ Ow st := by
      refine ⟨sr.len, sr.nd, sr.apart, fun a hm => ?_, fun l a ob h1 h2 => ?_, fun j p hj => ?_⟩
      · obtain ⟨ws, hw⟩ := sr.lists a hm
        exact ⟨ws, by rw [same a (fun e => by rw [e, hP] at hw; cases hw) (by rw [hw]; simp)]; exact hw⟩
      · have z := sr.at_ l a ob h1 h2
        refine z.ext e2 (same a (fun e => ?_) z.there)
        rw [e] at z
        cases ob with
        | lst ds => obtain ⟨_, ws, hw, _⟩ := z; rw [hP] at hw; cases hw
        | ins b fs => obtain ⟨_, dx, ws, hw, _⟩ := z; rw [hP] at hw; cases hw
        | dic z2 ks =>
          obtain ⟨kk, _, _, g⟩ := z
          cases z2 with
          | false => rw [show H P = _ from g] at hP; cases hP
          | true => obtain ⟨o, g⟩ := g; rw [g] at hP; cases hP
      · obtain ⟨k1, k2⟩ := sr.tab j p hj
        by_cases hpP : p.1 = P
        · have hji : j = i := by
            rw [hpP] at k1
            have p1 := List.getElem?_eq_some_iff.mp k1
            have p2 := List.getElem?_eq_some_iff.mp hρ
            exact (List.getElem_inj sr.nd).mp (p1.2.trans p2.2.symm)
          subst hji
          rw [hi] at hj
          cases hj
          refine ⟨hρ, _, by rw [L2.upd_ne (fun e => by rw [← e, hP] at nC; cases nC), L2.upd_same], by rw [eL]; exact PySem.TriplesOk_snoc _ _ _ _ ht, fun p' cv hcv => ?_⟩
          rw [eL] at hcv
          rcases LamX.among_app _ ht hcv with z | z
          · obtain ⟨c0, g1, g2, g3⟩ := ha p' cv z
            exact ⟨c0, g1, (e2.keep _ _ g2 g3).1, g3⟩
          · exact ⟨c', z, L2.upd_same, nρ⟩
        · exact ⟨k1, k2.ext e2 (same _ hpP k2.there)⟩
    exact h h'.objs.size c' ((X.mg "__name__").getD .none) ctv _ _ I1 e2 s1 (Heap.get?_push_size _ rfl) ⟨c', oc, vs, t, rfl, Heap.get?_push_of_some _ hoc, hd, hv⟩
  | some cv =>
    obtain ⟨c', e, hco, _⟩ := ha pos cv hc
    subst e
    refine PySem.W.kla_makeFunctionHit (mg := X.mg) (c := c) (P := P) (ps := ps) (L2.closure_ok hfree) I.ok.glob (I.mod.glob.keeps I.bk) hcode (TB.code.keeps I.bk) hP' ht hc bP fun ctv h' tk hx hsz => ?_
    have I1 : Inv X pins σ H { s with heap := h'.push (PySem.W.kla_obj "<lambda>" (X.env.qual ++ "<lambda>") params body scope (L2.cloFrom X.env.cells scope.names []) ((X.mg "__name__").getD .none) c' ctv), toks := tk } := I.kept fun b o e => Heap.get?_push_of_some _ (hx b o e)
    obtain ⟨⟨oc, vs, t, h1, h2, h3⟩, _, _⟩ := I1.hok c' _ hco
    exact h h'.objs.size c' ((X.mg "__name__").getD .none) ctv H _ I1 (Ext.refl _ _) sr (Heap.get?_push_size _ rfl) ⟨c', oc, vs, t, rfl, h1, h2, h3⟩
/-- the key of one item: a call that keeps all -/
theorem lam_turn {q : PySem.Str} {params : Arguments} {body : Expr} {kx : KX} {pm ctv : Value} {A : Around} {v : V} {u : Value} {d z : D} {pd : PyData} {tk : Nat} (hK : X.K = T.K) (I : Inv X pins σ H s) (en : EnR T H ρ Ow σ env) (hL : LamP X.env.scope scope) (hq : q = X.env.qual ++ "<lambda>")
    (hx : scope.names.lookup x = some .local) (hbind : ∀ (q : PySem.Str) (cl : List (PySem.Str × Addr)) (pm cv ctv : Value) (u : Value), bindArgs (PySem.W.kla_fn "<lambda>" q params body scope cl pm cv ctv) ⟨[u], []⟩ = pure [(x, u)]) (hd : A.depth < recursionLimit)
    (lk : LK X.N X.env.scope scope x body kx) (hf : s.heap.get? f = some (PySem.W.kla_obj "<lambda>" q params body scope (L2.cloFrom X.env.cells scope.names []) pm c' ctv)) (hco : s.heap.CodeRec (.ref c') q)
    (kp : ∀ b o, s.heap.get? b = some o → h.get? b = some o) (ru : RelV v u) (rv : RV T H ρ Ow v d) (hz : kx.val env d = some z) (hpd : ∀ (g : Heap) (w : Value) (v' : V), RelV v' w → RV T H ρ Ow v' z → Reads g w pd []) :
    wpAny (model X.prog X.w) A (PySem.call (.ref f) [u]) (PySem.W.KeyPure pd { s with heap := h, toks := tk }) (fun _ _ => False) { s with heap := h, toks := tk } := by
  subst hq
  obtain ⟨c2, oc, vs, t, e2, hoc, hdc, hvc⟩ := hco
  cases e2
  have lim : h.NoLimit := I.nolimit.keeps kp
  refine wpAny_call (PySem.W.kla_callFunE hd (kp _ _ hf) rfl hL.co hL.gen rfl ⟨c', oc, vs, t, rfl, kp _ _ hoc, hdc, hvc⟩ ?_)
  rw [hbind]
  refine wpAny_pure (wpAny_newFunctionEnv (fun y hy => hL.own y hy) (fun y hy => ?_) (fun h₁ hns hsb => ⟨lim.fresh _ hsb, ?_⟩) hL.kind)
  · have e : y = (x, u) := by simpa using hy
    rw [e]; exact hx
  show codeAny _ _ (.expr body (lamEnv X scope h.objs.size f c')) _ _
  have k2 : ∀ b o, h.get? b = some o → h₁.get? b = some o := fun b o e => hsb.extBut b o (Nat.ne_of_lt (Heap.lt_size e)) (Heap.get?_push_of_some _ e)
  refine PySem.W.kla_codeExpr (lk_run (m := fun y => [(x, u)].reverse.lookup y) (h := h₁) hK I en hL (fun b o e => k2 b o (kp b o e)) hns (by simp) ru rv lk hz _ _ _ _ fun w v' tk' rw' rv' => ?_)
  exact ⟨h₁, tk', rfl, k2, hpd h₁ w v' rw' rv'⟩
theorem each_zip {R : Value → V × D → Prop} : ∀ {its : List Value} {vs : List V} {xs : List D}, Vals vs its → RVs T H ρ Ow vs xs → (∀ u v d, RelV v u → RV T H ρ Ow v d → R u (v, d)) → PySem.W.EachIs R its (vs.zip xs)
  | _, _, _, .nil, .nil, _ => .nil
  | _, _, _, .cons r rs, .cons q qs, h => .cons (h _ _ _ r q) (each_zip rs qs h)
theorem zip_snd {vs : List V} {xs : List D} (r : RVs T H ρ Ow vs xs) : (vs.zip xs).map Prod.snd = xs := by
  rw [List.map_snd_zip]
  exact Nat.le_of_eq r.length.symm
theorem each_vals {R : Value → V × D → Prop} (hR : ∀ u p, R u p → RelV p.1 u) : ∀ {its : List Value} {bs : List (V × D)}, PySem.W.EachIs R its bs → Vals (bs.map Prod.fst) its
  | _, _, .nil => .nil
  | _, _, .cons r rs => .cons (hR _ _ r) (each_vals hR rs)
theorem each_rvs {R : Value → V × D → Prop} (hR : ∀ u p, R u p → RV T H ρ Ow p.1 p.2) : ∀ {its : List Value} {bs : List (V × D)}, PySem.W.EachIs R its bs → RVs T H ρ Ow (bs.map Prod.fst) (bs.map Prod.snd)
  | _, _, .nil => .nil
  | _, _, .cons r rs => .cons (hR _ _ r) (each_rvs hR rs)
/-- sorted(l, key=f), f the lambda -/
theorem sorted_lam {q : PySem.Str} {params : Arguments} {body : Expr} {kx : KX} {pm ctv : Value} {l : Addr} {vs : List V} {xs : List D} {Q : VK} {E : Value → Shared → Prop} (pk : D → PyData) (le : D → D → Bool) (hK : X.K = T.K) (I : Inv X pins σ H s) (en : EnR T H ρ Ow σ env) (hL : LamP X.env.scope scope) (hq : q = X.env.qual ++ "<lambda>")
    (hx : scope.names.lookup x = some .local) (hbind : ∀ (q : PySem.Str) (cl : List (PySem.Str × Addr)) (pm cv ctv : Value) (u : Value), bindArgs (PySem.W.kla_fn "<lambda>" q params body scope cl pm cv ctv) ⟨[u], []⟩ = pure [(x, u)]) (hd : X.A.depth < recursionLimit) (hu : X.A.units + 70 < cLine)
    (lk : LK X.N X.env.scope scope x body kx) (hf : s.heap.get? f = some (PySem.W.kla_obj "<lambda>" q params body scope (L2.cloFrom X.env.cells scope.names []) pm c' ctv)) (hco : s.heap.CodeRec (.ref c') q)
    (hl : SqL T.K H l vs) (hz : vs.length ≤ LIM) (rs : RVs T H ρ Ow vs xs) (hpk : ∀ d ∈ xs, ∃ z, kx.val env d = some z ∧ ∀ (g : Heap) (w : Value) (v' : V), RelV v' w → RV T H ρ Ow v' z → Reads g w (pk d) [])
    (hal : PySem.W.AllAlike (xs.map pk)) (hsk : PySem.W.Sortable (xs.map pk)) (hdp : ∀ d ∈ xs, (pk d).depth ≤ 1) (hle : ∀ a b, PySem.W.dataLe false (fun p : V × D => pk p.2) a b = le a.2 b.2)
    (k : ∀ p ws, H p = none → ws.length ≤ LIM → RVs T H ρ Ow ws (xs.mergeSort le) → Q (.ref p) (upd H p (.lst ws))) :
    wpAny (model X.prog X.w) X.A (PySem.call (.builtin "sorted") [.ref l] [(PySem.Str.ofString "key", .ref f)]) (L2.EP X pins σ Q) E s := by
  obtain ⟨its, rv, pl, hz2⟩ := I.list (by rw [hK]; exact hl)
  have hsnd := zip_snd rs
  have hmk : (vs.zip xs).map (fun p : V × D => pk p.2) = xs.map pk := by
    have := congrArg (List.map pk) hsnd
    rw [List.map_map] at this
    exact this
  have hlen : (vs.zip xs).length = xs.length := by
    have := congrArg List.length hsnd
    rwa [List.length_map] at this
  have e1 : PySem.W.EachIs (fun (u : Value) (p : V × D) => RelV p.1 u ∧ RV T H ρ Ow p.1 p.2) its (vs.zip xs) := each_zip rv rs fun u v d r q => ⟨r, q⟩
  refine PySem.W.sorted_key_data (fun p : V × D => pk p.2) (b := false) pl.isList e1 (by rw [hmk]; exact hal) (by rw [hmk]; exact hsk) (by rw [hlen, ← rs.length]; exact hz2) (fun p hp => ?_) (PyProof.Rows.ksk_s1 _ _) (fun _ => PyProof.Rows.ksk_l1 _ _) (fun x => PyProof.Rows.ksk_t1 f x) (fun v p hR hp h tk kp => ?_) fun out cc h' tk kp fr ho hlo hE => ?_
  · have hp2 : p.2 ∈ xs := by rw [← hsnd]; exact List.mem_map_of_mem hp
    have := hdp _ hp2
    omega
  · have hp2 : p.2 ∈ xs := by rw [← hsnd]; exact List.mem_map_of_mem hp
    obtain ⟨z, hz3, hz4⟩ := hpk _ hp2
    exact lam_turn (A := X.A.in1.in1) hK I en hL hq hx hbind hd lk hf hco kp hR.1 hR.2 hz3 hz4
  · have hfn : PySem.W.dataLe false (fun p : V × D => pk p.2) = fun a b => le a.2 b.2 := by funext a b; exact hle a b
    rw [hfn] at hE
    have em : ((vs.zip xs).mergeSort fun a b => le a.2 b.2).map Prod.snd = xs.mergeSort le := by
      rw [PySem.W.sort_maps (s := le) Prod.snd (fun _ _ _ _ => rfl), hsnd]
    have rvs := each_rvs (T := T) (H := H) (ρ := ρ) (Ow := Ow) (fun u p h => h.2) hE
    rw [em] at rvs
    have vls := each_vals (fun u (p : V × D) (h : RelV p.1 u ∧ RV T H ρ Ow p.1 p.2) => h.1) hE
    have hln : (((vs.zip xs).mergeSort fun a b => le a.2 b.2).map Prod.fst).length = vs.length := by
      rw [List.length_map, List.length_mergeSort, hlen, rs.length]
    refine ⟨.ref _, _, I.laid (t' := tk) (a := s.heap.objs.size + 1) kp (Nat.le_succ _) (show L2.ObjOk X.prog X.w _ h' _ (.lst _) from ⟨by rw [hln]; exact hz2, out, cc, vls, ho⟩), rfl, k _ _ (I.hok.fresh (Nat.le_succ _)) (by rw [hln]; exact hz) rvs⟩
theorem je_sortK {q : PySem.Str} {kx : KX} {params : Arguments} {body e : Expr} {p lpos kpos pos : Pos} {sm : G.Sem} {str : Bool} (C : CxC X T N sc n) (TB : TabB X.base X.mg c P) (hcode : X.env.code = .ref c) (hq : q = X.env.qual ++ "<lambda>") (hT : (P, q) ∈ T.tabs) (hg : Gl X "sorted") (hm : X.mg "sorted" = none)
    (hL : LamP sc scope) (hx : scope.names.lookup x = some .local) (hdef : defaultsOf params X.env = ([], [])) (hbind : ∀ (q : PySem.Str) (cl : List (PySem.Str × Addr)) (pm cv ctv : Value) (u : Value), bindArgs (PySem.W.kla_fn "<lambda>" q params body scope cl pm cv ctv) ⟨[u], []⟩ = pure [(x, u)])
    (lk : LK N sc scope x body kx) (h : plainE e = true) (j : JE X T xf W e sm str) :
    JE X T xf W (.Call (.Name "sorted" p) [e] [⟨some "key", .Lambda params body scope lpos, kpos⟩] pos) (sortKE kx sm) true := by
  have hL' : LamP X.env.scope scope := by rw [C.eS]; exact hL
  have lk' : LK X.N X.env.scope scope x body kx := by rw [C.eS, C.eN]; exact lk
  refine .of C.toCxG ⟨fun pins s0 σ H Q I q0 => ?_⟩
  obtain ⟨env, st, ρ, Ow, en, sr, po⟩ := q0
  refine wpAny_Call_Name_kw (L2.ld_blt I hg hm (bi_blt .sorted) ?_ (by decide) (by decide))
  refine PyProof.Rows.callWith_kw (L2.thn ((L2.pa_cons j.val L2.pa_nil (plain_star h _ _)).run pos pins s0 σ H (fun vs H1 => ∃ v d st1 ρ1, vs = [v] ∧ Ext H ρ H1 ρ1 ∧ StR T H1 ρ1 Ow st1 ∧ RX str T H1 ρ1 Ow v d ∧
      Post ⟨T, xf, W, σ⟩ H1 ρ1 Ow (fun d _ H' ρ' => ∀ v, RX true T H' ρ' Ow v d → Q v H') (O.of (((listv st1 d).bind fun xs => sortK (fun x => kx.val env x) xs).map .lst) st1)) I
    ⟨env, st, ρ, Ow, en, sr, (Post.bind po).mono fun d st1 H1 ρ1 e1 s1 q1 v r => ⟨v, d, st1, ρ1, rfl, e1, s1, r, q1⟩⟩) fun us s1 ⟨vs, H1, I1, r1, q1⟩ => ?_) (by rw [plain_star h]; rfl) (by rw [plain_star h]; rfl) (by rfl) (by rfl)
  obtain ⟨v, d, st1, ρ1, rfl, e1, sr1, rx, q1⟩ := q1
  cases r1 with
  | cons ru rr =>
  cases rr
  obtain ⟨dz, hdz, q2⟩ := Post.of sr1 q1
  obtain ⟨ys, hys, e2⟩ := Option.map_eq_some_iff.mp hdz
  subst e2
  obtain ⟨xs, hxs, hso⟩ := Option.bind_eq_some_iff.mp hys
  obtain ⟨l, vs, rfl, hl, hz, rs⟩ := rx.w.list sr1 hxs
  cases ru
  have en1 := en.ext e1 sr.disj
  refine wpAny_evalAll_cons (wpAny_bind (lam_make3 I1 sr1 TB hcode hq hT hdef (hL'.has I1.ok) fun f c' pm ctv H2 s2 I2 e2 sr2 hf hco => wpAny_bind (wpAny_standAt (wpAny_pure (wpAny_evalAll_nil ?_)))))
  have rs2 : RVs T H2 ρ1 Ow vs xs := rs.ext e2
  have en2 := en1.ext e2 sr1.disj
  obtain ⟨l', vs2, ev, hl2, hz2, rs3⟩ := (RW.ext e2 rx.w).list sr2 hxs
  cases ev
  have hroom := C.room
  have hd : X.A.depth < recursionLimit := by have := hroom.dp; omega
  have hu : X.A.units + 70 < cLine := by have := hroom.un; omega
  have fin : ∀ le : D → D → Bool, ys = xs.mergeSort le → ∀ p ws, H2 p = none → ws.length ≤ LIM → RVs T H2 ρ1 Ow ws (xs.mergeSort le) → Q (.ref p) (upd H2 p (.lst ws)) := fun le hle p ws hp hwz hws => by
    have q3 : Post ⟨T, xf, W, σ⟩ H1 ρ1 Ow (fun d _ H' ρ' => ∀ v, RX true T H' ρ' Ow v d → Q v H') (O.of (some (D.lst ys)) st1) := by rw [← hdz]; exact q1
    rw [hle] at q3
    exact q3 _ ρ1 (e2.trans (Ext.new hp)) (sr2.new hp) _ (rv_lst hp (sr2.fresh hp).1 (sr2.fresh hp).2 hwz hws)
  unfold sortK at hso
  show wpAny _ _ (PySem.call (.builtin "sorted") [.ref l] [(PySem.Str.ofString "key", .ref f)]) _ _ _
  split at hso
  · rename_i hall
    have hall := List.all_eq_true.mp hall
    cases hso
    refine sorted_lam (fun d => .int ((dInt (kx.val env d)).getD 0)) _ C.eK I2 en2 hL' hq hx hbind hd hu lk' hf hco hl2 hz2 rs3 (fun d hd => ?_) (fun a ha b hb => ?_) (.inr fun a ha => ?_) (fun d _ => Nat.zero_le _) (fun a b => ?_) (fin _ rfl)
    · have z : (dInt (kx.val env d)).isSome = true := hall d hd
      cases hk : kx.val env d with
      | none => rw [hk] at z; cases z
      | some z0 =>
        rw [hk] at z
        cases z0 with
        | int i =>
          refine ⟨_, rfl, fun g w v' r rv => ?_⟩
          cases rv
          obtain ⟨t, rfl⟩ := r
          exact .int _ _
        | _ => cases z
    · obtain ⟨x1, _, rfl⟩ := List.mem_map.mp ha
      obtain ⟨x2, _, rfl⟩ := List.mem_map.mp hb
      rfl
    · obtain ⟨x1, _, rfl⟩ := List.mem_map.mp ha
      exact ⟨(fun z => by cases z), (fun xs z => by cases z)⟩
    · rw [PySem.W.dataLe_int fun p : V × D => (dInt (kx.val env p.2)).getD 0]
  · split at hso
    · rename_i hall
      have hall := List.all_eq_true.mp hall
      cases hso
      refine sorted_lam (fun d => .str ⟨((dStr (kx.val env d)).getD []).toArray⟩) _ C.eK I2 en2 hL' hq hx hbind hd hu lk' hf hco hl2 hz2 rs3 (fun d hd => ?_) (fun a ha b hb => ?_) (.inr fun a ha => ?_) (fun d _ => Nat.zero_le _) (fun a b => ?_) (fin _ rfl)
      · have z : (dStr (kx.val env d)).isSome = true := hall d hd
        cases hk : kx.val env d with
        | none => rw [hk] at z; cases z
        | some z0 =>
          rw [hk] at z
          cases z0 with
          | str i =>
            refine ⟨_, rfl, fun g w v' r rv => ?_⟩
            cases rv
            obtain ⟨t, rfl⟩ := r
            exact .str _ _
          | _ => cases z
      · obtain ⟨x1, _, rfl⟩ := List.mem_map.mp ha
        obtain ⟨x2, _, rfl⟩ := List.mem_map.mp hb
        rfl
      · obtain ⟨x1, _, rfl⟩ := List.mem_map.mp ha
        exact ⟨(fun z => by cases z), (fun xs z => by cases z)⟩
      · rw [PySem.W.dataLe_str fun p : V × D => (⟨((dStr (kx.val env p.2)).getD []).toArray⟩ : PySem.Str)]
    · cases hso
end
end G
namespace G
open PySem PySem.Spec PyProof.Rows
open L2 (V Hp HO upd SqL SqT Rd VK XK Inv RelV Vals Gl Room Env0 Mod HOk)
section
variable {P : Program} {w : World} {K : PySem.W.Frag} {mg mb : PySem.Str → Option Value} {k : Nat} {fa a : Addr} {fd : FuncData} {x : PySem.Str} {s : Shared} {vs : List Value} {ns : List Int} {T : Tb} {xf : Nat → List Nm} {cs : List (Addr × Addr)}
/-- the law's def returns True -/
def Trues (c : Fd) (ns : List Int) : Prop := ∃ st, c [.fl (ns.map .int)] [] = .ok (.bl true) st
/-- the tables of code objects that are asked -/
structure TabsAt (h : Heap) (K : PySem.W.Frag) (T : Tb) (cs : List (Addr × Addr)) : Prop where
  hT : ∀ p ∈ cs, h.get? p.2 = some { cls := .none, data := .fields #[] }
  nT : ∀ p ∈ cs, K.lookup p.2 = none
  code : ∀ p ∈ cs, PySem.W.CodeHd h p.1 p.2
  eT : T.tabs.map (·.1) = cs.map (·.2)
  nd : (cs.map (·.2)).Nodup
theorem law_callG {c : Fd} (KX : K.In s.heap) (hns : s.heap.Ns mainGlobals mg) (hb : s.heap.Ns builtinsNs mb) (hbb : ∀ x : PySem.Str, x ≠ "__name__" → mb x = bootBuiltins x) (hlim : s.heap.NoLimit) (hg : s.gens = #[]) (Z : TabsAt s.heap K T cs)
    (hbm : ∃ (bm : Addr) (ob : PySem.Obj), mg "__builtins__" = some (.ref bm) ∧ bm ≠ builtinsNs ∧ s.heap.get? bm = some ob ∧ ob.cls = .type "module" ∧ ob.dict = some builtinsNs ∧ ob.data = .plain)
    (ha : s.heap.get? a = some { cls := .type "list", data := .seq vs.toArray }) (hi : IntsAre vs ns) (hl : ns.length ≤ sizeLine) (hr : Room k callerA) (eK : T.K = K)
    (F : ∀ base : Heap, K.In base → base.Ns mainGlobals mg → (∀ p ∈ cs, LamX.TabB base mg p.1 p.2) → FnG ⟨P, w, K, mg, base, T, xf⟩ k fa fd [x] c) (hbind : ∀ (s : Shared) (u : Value), BindsTo s fd ⟨[u], []⟩ [(x, u)]) (ht : Trues c ns) :
    codeAny (model P w) callerA (.call (.ref fa) ⟨[.ref a], []⟩) (fun r s' => r = .ok (.ret (.bool true)) ∧ OldK s.heap s'.heap ∧ s'.os = s.os ∧ AllBare s'.gens) s := by
  have rv := L2.vals_ints hi
  have hlen := hi.length
  have isT : ∀ b : Addr, b ∈ cs.map (·.2) → s.heap.get? b = some { cls := .none, data := .fields #[] } := fun b hb => by
    obtain ⟨p, hp, e⟩ := List.mem_map.mp hb
    rw [← e]
    exact Z.hT p hp
  have aT : a ∉ cs.map (·.2) := fun z => by
    have q := isT a z
    rw [ha] at q
    have z' : Data.seq vs.toArray _ = Data.fields #[] := congrArg PySem.Obj.data (Option.some.inj q)
    cases z'
  have memT : ∀ p ∈ cs, p.2 ∈ cs.map (·.2) := fun p hp => List.mem_map.mpr ⟨p, hp, rfl⟩
  have core : ∀ H : Hp, (∀ b ∈ cs.map (·.2), H b = some (.tbl #[])) → (∀ b, H b = none ∨ b ∈ cs.map (·.2) ∨ ∃ o xs, H b = some (.frz o (.lst xs))) → StL T.K H (cs.map (·.2)) a (ns.map V.int) → HOk P w H s.heap → (∀ b, H b ≠ none → b = a ∨ b ∈ cs.map (·.2)) → (H a ≠ none → K.lookup a = none) →
      codeAny (model P w) callerA (.call (.ref fa) ⟨[.ref a], []⟩) (fun r s' => r = .ok (.ret (.bool true)) ∧ OldK s.heap s'.heap ∧ s'.os = s.os ∧ AllBare s'.gens) s := by
    intro H hH hO hS hok hA hK
    have base_of : ∀ {b : Addr} {o : PySem.Obj}, s.heap.get? b = some o → H b = none → (L2.hidT s.heap H).get? b = some o := fun e n => L2.hidT_get e n
    have noD : ∀ {b : Addr} {o : PySem.Obj}, s.heap.get? b = some o → (∀ vs n, o.data ≠ .seq vs n) → o.data ≠ .fields #[] → H b = none := fun {b o} e h1 h2 => by
      cases q : H b with
      | none => rfl
      | some u =>
        rcases hA b (by rw [q]; simp) with e' | e'
        · rw [e', ha] at e
          cases e
          exact (h1 _ _ rfl).elim
        · rw [isT b e'] at e
          cases e
          exact (h2 rfl).elim
    have noA : ∀ {b : Addr} {o : PySem.Obj} {es : Array DictEntry} {ep : Nat}, s.heap.get? b = some o → o.data = .dict es ep → H b = none := fun {b o es ep} e d => by
      refine noD e (fun vs n z => ?_) fun z => ?_
      · rw [d] at z; cases z
      · rw [d] at z; cases z
    have nsK : ∀ {b : Addr} {m : PySem.Str → Option Value}, s.heap.Ns b m → (L2.hidT s.heap H).Ns b m := fun {b m} ⟨o, es, ep, e, d, r⟩ => ⟨o, es, ep, base_of e (noA e d), d, r⟩
    have KB : K.In (L2.hidT s.heap H) := fun b o e => base_of (KX b o e) (by
      cases q : H b with
      | none => rfl
      | some u =>
        rcases hA b (by rw [q]; simp) with e' | e'
        · rw [e'] at e q
          rw [hK (by rw [q]; simp)] at e
          cases e
        · obtain ⟨p, hp, ep⟩ := List.mem_map.mp e'
          rw [← ep, Z.nT p hp] at e
          cases e)
    have M : Mod K mg (L2.hidT s.heap H) := ⟨KB, nsK hns, ⟨mb, nsK hb, hbb⟩, let ⟨mc, h1, h2⟩ := hlim; ⟨mc, nsK h1, h2⟩⟩
    have TB : ∀ p ∈ cs, LamX.TabB (L2.hidT s.heap H) mg p.1 p.2 := fun p hp => by
      have hTp := Z.hT p hp
      refine ⟨?_, ?_, fun z => ?_⟩
      · obtain ⟨o, us, file, tf, flags, tg, inF, text, tt, e1, r1, r2, r3, r4, r5, r6, r7, r8, hne⟩ := Z.code p hp
        refine ⟨o, us, file, tf, flags, tg, inF, text, tt, base_of e1 (noD e1 (fun vs n z => ?_) fun z => ?_), r1, r2, r3, r4, r5, r6, r7, r8, hne⟩
        · rw [r2] at z; cases z
        · rw [r2] at z
          cases z
          simp at r3
      · obtain ⟨bm, ob, b1, b2, b3, b4, b5, b6⟩ := hbm
        have nG : bm ≠ mainGlobals := fun q => by
          obtain ⟨o, es, ep, e, hd, _⟩ := hns
          rw [q, e] at b3
          cases b3
          rw [hd] at b6
          cases b6
        have nP : bm ≠ p.2 := fun q => by
          rw [q, hTp] at b3
          cases b3
          cases b6
        refine ⟨bm, ob, b1, b2, nG, nP, base_of b3 (noD b3 (fun vs n z => ?_) fun z => ?_), b4, b5, b6⟩
        · rw [b6] at z; cases z
        · rw [b6] at z; cases z
      · obtain ⟨o, es, ep, e, hd, _⟩ := hns
        rw [z, hTp] at e
        cases e
        cases hd
    have e0 : Env0 P w K mg (L2.hidT s.heap H) callerA [] s H := ⟨rfl, M, fun b o e => L2.of_hidT e, Nat.le_of_eq (L2.hidT_size _ _), trivial, fun b hb => by simp [L2.frs] at hb, hok, .of_eq hg⟩
    have want : Want T xf c [.ref a] H (fun v _ => v = .bl true) fun _ _ _ => False := by
      obtain ⟨st, e⟩ := ht
      have lenT : (cs.map (·.2)).length = T.tabs.length := by rw [← Z.eT, List.length_map]
      refine ⟨[], cs.map (·.2), [], [.fl (ns.map .int)], ⟨by rw [lenT]; simp, Z.nd, by simp, by simp, by simp, fun i p hp => ?_⟩, .cons (.fl hS (by rw [lim_line, List.length_map]; exact hl) (rvs_ints ns)) .nil, ?_⟩
      · have h1 : (cs.map (·.2))[i]? = some p.1 := by rw [← Z.eT, List.getElem?_map, hp]; rfl
        refine ⟨h1, #[], hH _ (List.mem_of_getElem? h1), trivial, fun pos cv hc => ?_⟩
        have z : codeAmong pos [] = some cv := hc
        simp [codeAmong] at z
      · rw [e]
        intro H' ρ' _ _ v r
        cases r
        rfl
    refine codeAny_mono ((F _ KB (nsK hns) TB).run callerA [] s H ⟨[.ref a], []⟩ [.ref a] [.ref a] _ _ hr rfl e0 (hbind s (.ref a)) (.cons rfl .nil) rfl want) fun r s' h => ?_
    cases r with
    | error e =>
      obtain ⟨_, _, _, _, _, _, _, _, _, _, _, _, z⟩ := h
      exact z.elim
    | ok fl =>
      cases fl with
      | ret u =>
        obtain ⟨v, H', os, bare, un, hok', r', q⟩ := h
        have q' : v = .bl true := q
        subst q'
        have eu : u = Value.bool true := r'
        subst eu
        have key : ∀ b o, b ∉ cs.map (·.2) → s.heap.get? b = some o → s'.heap.get? b = some o := fun b o nb e => by
          cases q : H b with
          | none => exact un.keep b o e q (by simp [L2.frs]) (by simp)
          | some u =>
            rcases hO b with z | z | ⟨ob, xs, z⟩
            · rw [q] at z; cases z
            · exact absurd z nb
            · have z2 := un.frzs b ob _ z
              obtain ⟨e1, _⟩ := hok b _ z
              obtain ⟨e2, _⟩ := hok' b _ z2
              rw [e] at e1; cases e1
              exact e2
        have grown : ∀ b ∈ cs.map (·.2), ∃ more : Array Value, s'.heap.get? b = some { cls := .none, data := .fields more } := fun b hb => by
          obtain ⟨more, z⟩ := un.tbls b #[] (hH b hb)
          exact ⟨_, hok' b _ z⟩
        refine ⟨rfl, ⟨fun b o e => ?_, fun b o e => ?_⟩, os, bare⟩
        · by_cases hb : b ∈ cs.map (·.2)
          · obtain ⟨p, hp, ep⟩ := List.mem_map.mp hb
            obtain ⟨more, hm⟩ := grown b hb
            rw [← ep] at e hm ⊢
            rw [Z.hT p hp] at e
            cases e
            exact .inr (.inl ⟨((Z.code p hp).tab (Z.hT p hp)).isCodeTable, rfl, #[], more, rfl, by rw [Array.empty_append]; exact hm⟩)
          · exact .inl (key b o hb e)
        · by_cases hb : b ∈ cs.map (·.2)
          · obtain ⟨more, hm⟩ := grown b hb
            exact ⟨_, hm⟩
          · exact ⟨o, key b o hb e⟩
      | _ => exact h.elim
  cases hk : K.lookup a with
  | some o =>
    have e := KX a o hk
    rw [ha] at e
    cases e
    refine core (fun b => if b ∈ cs.map (·.2) then some (.tbl #[]) else none) (fun b hb => if_pos hb) (fun b => ?_) (.inr fun H' => by rw [eK]; exact .inr ⟨_, vs.toArray, _, hk, rfl, rfl, rfl, by rw [List.size_toArray, hlen]; exact hl, by simpa using rv⟩) (fun b u z => ?_) (fun b z => ?_)
      fun z => absurd (show (if a ∈ cs.map (·.2) then some (HO.tbl #[]) else none) = none from if_neg aT) z
    · by_cases hb : b ∈ cs.map (·.2)
      · exact .inr (.inl hb)
      · exact .inl (if_neg hb)
    · by_cases hb : b ∈ cs.map (·.2)
      · have z' := (if_pos hb).symm.trans z
        cases z'
        exact isT b hb
      · have z' := (if_neg hb).symm.trans z
        cases z'
    · by_cases hb : b ∈ cs.map (·.2)
      · exact .inr hb
      · exact absurd (if_neg hb) z
  | none =>
    refine core (fun b => if b = a then some (.frz { cls := .type "list", data := .seq vs.toArray } (.lst (ns.map V.int))) else if b ∈ cs.map (·.2) then some (.tbl #[]) else none) (fun b hb => (if_neg (show ¬ b = a from fun z => aT (by rw [← z]; exact hb))).trans (if_pos hb)) (fun b => ?_)
      (.inl ⟨⟨{ cls := .type "list", data := .seq vs.toArray }, if_pos rfl⟩, aT⟩) (fun b u z => ?_) (fun b z => ?_) fun _ => hk
    · by_cases hb : b = a
      · exact .inr (.inr ⟨_, _, if_pos hb⟩)
      · by_cases hb2 : b ∈ cs.map (·.2)
        · exact .inr (.inl hb2)
        · exact .inl ((if_neg hb).trans (if_neg hb2))
    · by_cases hb : b = a
      · have z' := (if_pos hb).symm.trans z
        cases z'
        rw [hb]
        exact ⟨ha, by rw [List.length_map]; exact hl, vs, _, rv, ha⟩
      · have z1 := (if_neg hb).symm.trans z
        by_cases hb2 : b ∈ cs.map (·.2)
        · have z' := (if_pos hb2).symm.trans z1
          cases z'
          exact isT b hb2
        · have z' := (if_neg hb2).symm.trans z1
          cases z'
    · by_cases hb : b = a
      · exact .inl hb
      · by_cases hb2 : b ∈ cs.map (·.2)
        · exact .inr hb2
        · exact absurd ((if_neg hb).trans (if_neg hb2)) z
/-- a law, over a head by facts -/
theorem walk_ofG {l : PySem.W.OpenLaw} {n k : Nat} {q : Program} {loose : List PySem.Str} {XP : (PySem.Str → Option Value) → Heap → Prop} {YP : World → Heap → Prop} {d : DefRec} {x : PySem.Str}
    (hn : l.most = some n) (hn2 : n ≤ sizeLine) (hdf : d.params.defaults = []) (hr : Room k callerA) {c : Fd}
    (F : ∀ (w : World) (mg : PySem.Str → Option Value) (fa : Addr) (h : Heap), YP w h → h.Ns mainGlobals mg → mg d.name = some (.ref fa) →
      ∃ (K : PySem.W.Frag) (T : Tb) (xf : Nat → List Nm) (fd : FuncData) (cs : List (Addr × Addr)), K.In h ∧ T.K = K ∧ TabsAt h K T cs ∧ (∀ (s : Shared) (u : Value), BindsTo s fd ⟨[u], []⟩ [(x, u)]) ∧
        ∀ base : Heap, K.In base → base.Ns mainGlobals mg → (∀ p ∈ cs, LamX.TabB base mg p.1 p.2) → FnG ⟨l.prog, w, K, mg, base, T, xf⟩ k fa fd [x] c)
    (ht : ∀ ns : List Int, ns.length ≤ n → Trues c ns) :
    PySem.W.WalkO q loose XP YP l.row.toRowW d [] (fun f vs => PySem.call f vs) := by
  refine Att.attach_call hn hdf fun w s₀ s₁ mg mb fa o pm cd doc a vs ns G Y ho hd hcd hmg hobj hints hlen hg => ?_
  obtain ⟨K, T, xf, fd, cs, KX, eK, Z, hb, hF⟩ := F w mg fa _ Y G.T.g hmg
  exact law_callG KX G.T.g G.T.b G.T.builtins G.T.nolimit hg Z G.T.bmain hobj hints (Nat.le_trans hlen hn2) hr eK hF hb (ht ns hlen)
end
end G
namespace G
open PySem PySem.Spec PyProof.Rows
open L2 (V Hp HO upd SqL SqT Rd VK XK TE TT TA TI TS TG TGs Ends WX Cx PE PT PA PI PS PSs PG PGs Inv OpR CallR RelV Vals R2 PC PW)
section
variable {T : Tb} {H : Hp} {ρ Ow Ow0 : List Addr} {σ : L2.St} {env : Env} {st : Store}
theorem Fr.frz (f : Fr T Ow0 H ρ Ow σ env st) {i : Nat} {xs : List D} (e : env[i]? = some (.own xs)) :
    ∃ Ow', Step Ow0 H ρ Ow H ρ Ow' ∧ Fr T Ow0 H ρ Ow' σ (env.set i (.v (.lst xs))) st := by
  obtain ⟨a, vs, hσ, m, h, z, rs⟩ := f.en.own e
  have n0 := f.out i xs a e hσ
  have hn : a ∉ ρ := f.sr.disj a m
  have sub : ∀ b, b ∉ Ow → b ∉ Ow.filter (fun b => decide (b ≠ a)) := fun b hb h2 => hb (List.mem_filter.mp h2).1
  have na : a ∉ Ow.filter (fun b => decide (b ≠ a)) := fun h2 => by
    have := (List.mem_filter.mp h2).2
    simp at this
  have mem : ∀ b, b ∈ Ow → b ≠ a → b ∈ Ow.filter (fun b => decide (b ≠ a)) := fun b hb hne => List.mem_filter.mpr ⟨hb, by simpa using hne⟩
  refine ⟨Ow.filter (fun b => decide (b ≠ a)), ⟨⟨fun b o q n1 n2 => ⟨q, n1, sub b n2⟩, ⟨[], by simp⟩, fun _ _ _ h => h⟩, fun b hb => ⟨rfl, mem b (f.sub b hb) fun e => n0 (by rw [← e]; exact hb)⟩⟩, ?_⟩
  have wk : ∀ {d : D} {v : V}, RV T H ρ Ow v d → RV T H ρ (Ow.filter (fun b => decide (b ≠ a))) v d := fun r => r.ow fun b _ _ h => sub b h
  have wks : ∀ {d : List D} {v : List V}, RVs T H ρ Ow v d → RVs T H ρ (Ow.filter (fun b => decide (b ≠ a))) v d := fun r => r.ow fun b _ _ h => sub b h
  have hi : i < env.length := (List.getElem?_eq_some_iff.mp e).1
  refine ⟨⟨by simp [f.en.len], fun j s h1 => ?_, fun j k ys zs b h1 h2 h3 h4 => ?_⟩, f.sr.ow (fun b _ _ h => sub b h) (fun b hb => sub b (f.sr.apart b hb)) (fun b hb => f.sr.lists b (List.mem_filter.mp hb).1), fun b hb => mem b (f.sub b hb) fun e => n0 (by rw [← e]; exact hb), fun j ys b h1 h2 => ?_⟩
  · by_cases hj : i = j
    · subst hj
      rw [List.getElem?_set_self hi] at h1
      cases h1
      rw [hσ]
      exact .lst h hn na z (wks rs)
    · rw [List.getElem?_set_ne hj] at h1
      have q := f.en.at_ j s h1
      cases s with
      | em =>
        cases hs : σ[j]? with
        | none => trivial
        | some o => cases o <;> trivial
      | v d =>
        cases hs : σ[j]? with
        | none => rw [hs] at q; exact q.elim
        | some o =>
          rw [hs] at q
          cases o with
          | none => exact q.elim
          | some v => exact wk q
      | own zs =>
        obtain ⟨b, ws, g1, g2, g3, g4, g5⟩ := f.en.own h1
        rw [g1]
        exact ⟨mem b g2 fun eb => by
          subst eb
          exact hj (f.en.apart i j xs zs b e h1 hσ g1), ws, g3, g4, wks g5⟩
      | xc c fs =>
        obtain ⟨b, dx, fl, g1, g2, g3⟩ := f.en.xc h1
        rw [g1]
        exact ⟨dx, fl, g2, g3.ow fun b _ _ h => sub b h⟩
  · have old : ∀ (j : Nat) (zs : List D), (env.set i (.v (.lst xs)))[j]? = some (.own zs) → env[j]? = some (.own zs) := fun j zs h => by
      by_cases hj : i = j
      · subst hj
        rw [List.getElem?_set_self hi] at h; cases h
      · rw [List.getElem?_set_ne hj] at h; exact h
    exact f.en.apart j k ys zs b (old j ys h1) (old k zs h2) h3 h4
  · by_cases hj : i = j
    · subst hj
      rw [List.getElem?_set_self hi] at h1; cases h1
    · rw [List.getElem?_set_ne hj] at h1
      exact f.out j ys b h1 h2
end
theorem frz_imp {w : WS} {i : Nat} {f : StS} : ∀ (Z : Ends) (σ : L2.St) (H : Hp), tStm w (frzS i f) Z σ H → tStm w f Z σ H := fun Z σ H ⟨env, st, ρ, Ow, fr, p⟩ => by
  have p : PostR w H ρ Ow Z (match env[i]? with
    | some (.own xs) => f (env.set i (.v (.lst xs))) st
    | _ => .bad) := p
  cases e : env[i]? with
  | none => rw [e] at p; exact p.elim
  | some s =>
    rw [e] at p
    cases s with
    | own xs =>
      obtain ⟨Ow', s1, f1⟩ := fr.frz e
      exact ⟨_, st, ρ, Ow', f1, PostR.later s1 p⟩
    | _ => exact p.elim
theorem jss_frz {X : Cx} {w : WS} {ss : List Stmt} {f : StS} (i : Nat) (j : JSs X w ss f) : JSs X w ss (frzS i f) := PSs.imp j frz_imp
end G
namespace G
open PySem PySem.Spec PyProof.Rows
open L2 (V Hp HO upd SqL SqT Rd VK XK TE TT TA TI TS TG TGs Ends WX Cx PE PT PA PI PS PSs PG PGs Inv OpR CallR RelV Vals R2 PC PW Gl Room Env0)
def rBiF (T : Tb) (f : Store → List D → Option D) : List V → Hp → VK → Prop := fun vs H Q => ∃ st ρ Ow ds xs, StR T H ρ Ow st ∧ RWs T H ρ Ow vs ds ∧ f st ds = some (.lst xs) ∧ ∀ p us, H p = none → RVs T H ρ Ow us xs → us.length ≤ LIM → Q (.ref p) (upd H p (.lst us))
section
variable {X : Cx} {T : Tb} {xf : Nat → List Nm} {W : WX} {N : List PySem.Str} {sc : Scope} {n : Nat} {p pos : Pos} {es : List Expr} {ss : List Sem}
theorem cr_listF (hK : X.K = T.K) : CallR X (.type "list") (rBiF T (bi .list)) := by
  intro pins s σ H xs us Q I r ⟨st, ρ, Ow, ds, zs, sr, rs, e, k⟩
  simp only [bi] at e
  split at e <;> try contradiction
  obtain ⟨ys, hy, e2⟩ := Option.map_eq_some_iff.mp e
  cases e2
  obtain ⟨v, rfl, r1⟩ := rs.one
  obtain ⟨a, vs, rfl, q, z, rr⟩ := r1.seq sr hy
  exact L2.call_list_of pins s σ H _ us Q I r ⟨a, vs, rfl, sqE hK q, fun l hl => k l vs hl rr z⟩
theorem biF_imp {f : Bi} {σ : L2.St} {H : Hp} {Q : VK} (q : tFre T xf W (lsE (biE f ss)).val σ H Q) : tArgW T xf W (args ss) σ H fun vs H1 => rBiF T (bi f) vs H1 Q := by
  obtain ⟨env, st, ρ, Ow, en, sr, p⟩ := q
  have p := Post.bind (Post.bind p)
  refine ⟨env, st, ρ, Ow, en, sr, p.mono fun ds st1 H1 ρ1 e1 s1 q vs rs => ?_⟩
  obtain ⟨dz, e, q⟩ := Post.of s1 q
  cases dz with
  | lst xs =>
    obtain ⟨ys, e3, q⟩ := Post.ok s1 q
    cases e3
    exact ⟨st1, ρ1, Ow, ds, xs, s1, rs, e, fun p us hp r z => q p us hp r z⟩
  | _ => exact q.elim
theorem jf_list (C : CxG X T N sc n) (hg : Gl X "list") (hm : X.mg "list" = none) (hne : es ≠ []) (js : JWs X T xf W es ss) :
    JF X T xf W (.Call (.Name "list" p) es [] pos) (lsE (biE .list ss)) := by
  cases js with
  | nil => exact absurd rfl hne
  | cons h j js =>
    exact PE.imp (L2.pe_callTy (cr_listF C.eK) hg hm (bi_blt .list) (pa_argsW (.cons h j js)) (bi_ne .list) (bi_nd .list) (plain_star h _ _) (plain_allW js)) fun σ H Q q => biF_imp q
end
end G
namespace G
open PySem PySem.Spec PyProof.Rows
open L2 (V Hp HO upd SqL SqT Rd VK XK TE TT TA TI TS TG TGs Ends WX Cx PE PT PA PI PS PSs PG PGs Inv OpR CallR RelV Vals R2 PC PW Gl)
end G
namespace G
open PySem PySem.Spec PyProof.Rows
open L2 (V Hp HO upd SqL SqT Rd VK XK TE TT TA TI TS TG TGs Ends WX Cx PE PT PA PI PS PSs PG PGs Inv OpR CallR RelV Vals R2 PC PW Gl Room)
section
variable {X : Cx} {Y : Wd} {T : Tb} {xf : Nat → List Nm} {W : WX} {N : List PySem.Str} {sc : Scope} {n k : Nat} {e a b : Expr} {es : List Expr} {p p2 pos apos cpos : Pos} {s t : G.Sem} {ss : List G.Sem} {str str2 : Bool}
theorem rvs_rg {H : Hp} {ρ Ow : List Addr} (i j : Int) : RVs T H ρ Ow (L2.rgV i j) (rangeD i j) := by
  unfold L2.rgV rangeD
  generalize List.range (j - i).toNat = l
  induction l with
  | nil => exact .nil
  | cons x r ih => exact .cons (.int _) ih
theorem rg_ok {i j : Int} (h : -(LIM : Int) ≤ i ∧ i ≤ LIM ∧ -(LIM : Int) ≤ j ∧ j ≤ LIM) (h0 : 0 ≤ i) : L2.RgOk i j ∧ (L2.rgV i j).length ≤ LIM := by
  have h1 : (LIM : Int) = 16777216 := by unfold LIM; rfl
  have h2 : LIM = 16777216 := by unfold LIM; rfl
  refine ⟨⟨by omega, by omega, by omega, by omega, by omega⟩, ?_⟩
  rw [L2.rgV_length]; omega
/-- what is made of a range's ends -/
theorem lrng1_imp {st1 : Store} {σ : L2.St} {H1 : Hp} {ρ1 Ow : List Addr} {d : D} {v : V} {P : D → Store → Hp → List Addr → Prop} (s1 : StR T H1 ρ1 Ow st1) (r : RV T H1 ρ1 Ow v d) (q : Post ⟨T, xf, W, σ⟩ H1 ρ1 Ow P ((rngI [d] st1).bind fun xs st => .ok (.lst xs) st)) :
    ∃ i, v = .int i ∧ L2.RgOk 0 i ∧ (L2.rgV 0 i).length ≤ LIM ∧ Post ⟨T, xf, W, σ⟩ H1 ρ1 Ow P (.ok (.lst (rangeD 0 i)) st1) := by
  cases d with
  | int i =>
    cases r
    have q' : Post ⟨T, xf, W, σ⟩ H1 ρ1 Ow P ((if -(LIM : Int) ≤ i ∧ i ≤ LIM then O.ok (rangeD 0 i) st1 else .bad).bind fun xs st => .ok (.lst xs) st) := q
    split at q'
    · rename_i h
      have h0 : -(LIM : Int) ≤ 0 ∧ (0 : Int) ≤ LIM := by omega
      obtain ⟨g1, g2⟩ := rg_ok (i := 0) (j := i) ⟨h0.1, h0.2, h.1, h.2⟩ (Int.le_refl 0)
      exact ⟨i, rfl, g1, g2, q'⟩
    · exact q'.elim
  | _ => exact q.elim
theorem je_lrng1 (C : CxG X T N sc n) (hc : X.calm = true) (hg : Gl X "range") (hm : X.mg "range" = none) (hg2 : Gl X "list") (hm2 : X.mg "list" = none) (h : plainE a = true) (j : JE X T xf W a s true) :
    JE X T xf W (.Call (.Name "list" p2) [.Call (.Name "range" p) [a] [] pos] [] cpos) (lrngE [s]) true :=
  .of C (PE.imp (L2.pe_listRg hc hg2 hm2 (L2.prg_1 hg hm j.val (plain_star h _ _)) (by rfl)) fun σ H Q ⟨env, st, ρ, Ow, en, sr, po⟩ => by
    refine ⟨env, st, ρ, Ow, en, sr, (Post.bind (Post.bind po)).mono fun d st1 H1 ρ1 e1 s1 q v r => ?_⟩
    have q1 := Post.ok s1 (Post.ok s1 (Post.bind q))
    obtain ⟨i, ev, g1, g2, q2⟩ := lrng1_imp s1 r q1
    exact ⟨i, ev, g1, fun p hp => q2 _ ρ1 (Ext.new hp) (s1.new hp) _ (rv_lst hp (s1.fresh hp).1 (s1.fresh hp).2 g2 (rvs_rg _ _))⟩)
end
end G
namespace G
open PySem PySem.Spec PyProof.Rows
open L2 (V Hp HO upd SqL SqT Rd VK XK TE TT TA TI TS TG TGs Ends WX Cx PE PT PA PI PS PSs PG PGs Inv OpR CallR RelV Vals R2 PC PW Gl Room Env0)
section
variable {X : Cx} {N : List PySem.Str} {sc scope : Scope} {n : Nat} {elt iter tg : Expr} {ifs : List Expr} {pos : Pos} {T : Tb} {xf : Nat → List Nm} {W : WX} {s : Sem}
theorem je_nw (C : CxG X T N sc n) (sh : ∀ env st d st', s.val env st = .ok d st' → ∃ xs, d = .lst xs) (h : JF X T xf W (.ListComp elt [⟨tg, iter, ifs, 0⟩] scope pos) s) : JE X T xf W (.ListComp elt [⟨tg, iter, ifs, 0⟩] scope pos) (nwE s) true :=
  .of C (PE.imp h fun σ H Q ⟨env, st, ρ, Ow, en, sr, po⟩ => by
    refine ⟨env, st, ρ, Ow, en, sr, ?_⟩
    have po : Post ⟨T, xf, W, σ⟩ H ρ Ow (fun d _ H1 ρ1 => ∀ v, RV T H1 ρ1 Ow v d → Q v H1) ((s.val env st).bind newO) := po
    cases hf : s.val env st with
    | ok d st1 =>
      obtain ⟨xs, rfl⟩ := sh _ _ _ _ hf
      rw [hf] at po
      have po : Post ⟨T, xf, W, σ⟩ H ρ Ow (fun d _ H1 ρ1 => ∀ v, RV T H1 ρ1 Ow v d → Q v H1) (newV xs st1) := po
      unfold newV at po
      split at po
      · rename_i hc
        intro H1 ρ1 e1 s1
        exact ⟨xs, rfl, fun p vs hp rs z => by
          have e := Ext.newS (ρ := ρ1) (o := .lst vs) hp
          exact po _ (ρ1 ++ [p]) (e1.trans e) (s1.push hp ⟨hc.1, vs, L2.upd_same, z, rs.ext e⟩) _ (.loc (by rw [← s1.len, List.getElem?_concat_length]))⟩
      · exact po.elim
    | ex c fs st1 => rw [hf] at po; exact po
    | bad => rw [hf] at po; exact po)
end
end G
namespace G
open PySem PySem.Spec PyProof.Rows
open L2 (V Hp HO upd SqL SqT Rd VK XK TE TT TA TI TS TG TGs Ends WX Cx PE PT PA PI PS PSs PG PGs Inv OpR CallR RelV Vals R2 PC PW Gl)
end G
namespace G
open PySem PySem.Spec PyProof.Rows
open L2 (V Hp HO upd SqL SqT Rd VK XK TE TT TA TI TS TG TGs Ends WX Cx PE PT PA PI PS PSs PG PGs Inv OpR CallR RelV Vals R2 PC PW Sp Room Env0 CR FnScope cxOf Binds Gl)
/-- the exception that is handled is pinned -/
def HotAt (X : Cx) (T : Tb) (xf : Nat → List Nm) : Prop := ∃ (a : Addr) (dx : Option Addr) (c : Nat) (oe : PySem.Obj), T.hx = some (a, dx, c, xf c) ∧ (a, oe) ∈ X.pn ∧ L2.Zc (.ref (T.exc c)) dx oe ∧ ∃ fv, oe.data = .fields fv
def WantH (T : Tb) (xf : Nat → List Nm) (c : Fd) (dx : Option Addr) (cn : Nat) (vs : List V) (H : Hp) (Q : VK) : Prop :=
  ∃ st ρ Ow ds fs, StR T H ρ Ow st ∧ RVs T H ρ Ow vs ds ∧ XcR T H ρ Ow dx (xf cn) fs ∧ Post ⟨T, xf, W0, []⟩ H ρ Ow (fun d _ H' ρ' => ∀ v, RV T H' ρ' Ow v d → Q v H') (c (.exc (cn + 1) fs :: ds) st)
def Tb.hot (T : Tb) (xf : Nat → List Nm) (a : Addr) (dx : Option Addr) (cn : Nat) : Tb := { T with hx := some (a, dx, cn, xf cn) }
structure FnHot (Y : Wd) (k : Nat) (f : Addr) (fd : FuncData) (ps : List PySem.Str) (c : Fd) : Prop where
  run : ∀ (A : Around) (outer : List PySem.Env) (s : Shared) (H : Hp) (args : Args) (us : List Value) (vs : List V) (Q : VK) (a : Addr) (dx : Option Addr) (cn : Nat) (oe : PySem.Obj), L2H.RoomH k A → A.guards = some [] → L2H.PinOk outer H s (a, oe) → L2.Zc (.ref (Y.T.exc cn)) dx oe → (∃ fv, oe.data = .fields fv) →
    Env0 Y.P Y.w Y.K Y.mg Y.base A outer s H → BindsTo s fd args (ps.zip (.ref a :: us)) → Vals vs us → vs.length + 1 = ps.length → WantH (Y.T.hot Y.xf a dx cn) Y.xf c dx cn vs H Q →
    codeAny (model Y.P Y.w) A (.call (.ref f) args) (CR (L2.CX Y.P Y.w) outer Y.P Y.w H s Q fun _ _ _ => False) s
theorem FnHot.mono {Y : Wd} {j k : Nat} {f : Addr} {fd : FuncData} {ps : List PySem.Str} {c : Fd} (F : FnHot Y j f fd ps c) (h : j ≤ k) : FnHot Y k f fd ps c :=
  ⟨fun A outer s H args us vs Q a dx cn oe hr => F.run A outer s H args us vs Q a dx cn oe (hr.mono h)⟩
section
variable {Y : Wd} {N ps : List PySem.Str} {qual : PySem.Str} {scope : Scope} {f : Addr} {cdv : Value} {k : Nat}
theorem start_xc {T : Tb} {H : Hp} {ρ Ow : List Addr} {vs : List V} {ds : List D} {st : Store} {m : Nat} {a : Addr} {dx : Option Addr} {cn : Nat} {fl : List Nm} {fs : List D} (hm : N.length = m) (hl : vs.length + 1 ≤ m) (hx : T.hx = some (a, dx, cn, fl)) (xr : XcR T H ρ Ow dx fl fs) (sr : StR T H ρ Ow st) (rs : RVs T H ρ Ow vs ds) :
    Fr T Ow H ρ Ow (L2.start N (.ref a :: vs)) (.xc cn fs :: (ds.map Sl.v ++ List.replicate (m - (ds.length + 1)) .em)) st := by
  have e1 := rs.length
  have tail : ∀ (i : Nat) (s : Sl), (ds.map Sl.v ++ List.replicate (m - (ds.length + 1)) Sl.em)[i]? = some s → (∃ d, s = .v d ∧ ds[i]? = some d) ∨ s = .em := fun i s h => by
    by_cases hi : i < (ds.map Sl.v).length
    · rw [List.getElem?_append_left hi, List.getElem?_map] at h
      obtain ⟨d, h1, h2⟩ := Option.map_eq_some_iff.mp h
      exact .inl ⟨d, h2.symm, h1⟩
    · rw [List.getElem?_append_right (by omega), List.getElem?_replicate] at h
      split at h
      · exact .inr (Option.some.inj h).symm
      · cases h
  have own0 : ∀ (i : Nat) (xs : List D), (Sl.xc cn fs :: (ds.map Sl.v ++ List.replicate (m - (ds.length + 1)) .em))[i]? ≠ some (.own xs) := fun i xs h => by
    cases i with
    | zero => cases h
    | succ i =>
      rw [List.getElem?_cons_succ] at h
      rcases tail i _ h with ⟨d, z, _⟩ | z <;> cases z
  refine ⟨⟨?_, fun i s h => ?_, fun i j xs ys b h1 _ _ _ => absurd h1 (own0 i xs)⟩, sr, fun b hb => hb, fun i xs b h1 _ => absurd h1 (own0 i xs)⟩
  · unfold L2.start
    simp only [List.length_append, List.length_map, List.length_replicate, List.length_cons]
    omega
  · cases i with
    | zero =>
      rw [List.getElem?_cons_zero] at h
      cases h
      exact ⟨dx, fl, hx, xr⟩
    | succ i =>
      rw [List.getElem?_cons_succ] at h
      rcases tail i _ h with ⟨d, rfl, hd⟩ | rfl
      · obtain ⟨v, hv, r⟩ := rs.get hd
        have hi2 := (List.getElem?_eq_some_iff.mp hv).1
        have e2 : (L2.start N (.ref a :: vs))[i + 1]? = some (some v) := by
          unfold L2.start
          rw [List.getElem?_append_left (by simpa using hi2), List.getElem?_map, List.getElem?_cons_succ, hv]; rfl
        rw [e2]
        exact r
      · cases (L2.start N (.ref a :: vs))[i + 1]? with
        | none => trivial
        | some o => cases o <;> trivial
theorem fnHot_of {name : PySem.Str} {params : Arguments} {body : List Stmt} {dV kV doc pm ct oc : Value} {an od : Option Addr} {osl : Array (Option Value)} {g : StS} {c : Fd} {m : Nat}
    (lk : Y.K.lookup f = some ⟨oc, od, .func (PySem.W.fnOf name qual params body scope dV kV doc pm an cdv ct), osl⟩) (hcd : PySem.W.codeIn Y.K cdv qual = true) (S : FnScope N ps scope) (hm : N.length = m) (eK : Y.K = Y.T.K)
    (hc : ∀ cn fs ds st, ds.length + 1 = ps.length → c (.exc (cn + 1) fs :: ds) st = (match g (.xc cn fs :: (ds.map Sl.v ++ List.replicate (m - (ds.length + 1)) .em)) st with
      | .rt d st => .ok d st
      | .nx _ st => .ok .non st
      | _ => .bad))
    (hbody : ∀ (X : Cx) (a : Addr) (dx : Option Addr) (cn : Nat) (Ow0 : List Addr), CxG X (Y.T.hot Y.xf a dx cn) N scope k → (∀ x, X.fn x = true) → HotAt X (Y.T.hot Y.xf a dx cn) Y.xf → X.prog = Y.P → X.w = Y.w → X.K = Y.K → X.mg = Y.mg → X.base = Y.base → JSs X ⟨Y.T.hot Y.xf a dx cn, Y.xf, W0, Ow0, false⟩ body g) :
    FnHot Y (k + 1) f (PySem.W.fnOf name qual params body scope dV kV doc pm an cdv ct) ps c := by
  refine ⟨fun A outer s H args us vs Q a dx cn oe hr hgd hpin hz hf e0 hb r hl ⟨st, ρ, Ow, ds, fs, sr, rs, xr, p⟩ => ?_⟩
  have grown : ∀ b o, Y.base.get? b = some o → s.heap.get? b = some o := fun b o e => (e0.bs b o e).1
  have KX : Y.K.In s.heap := e0.mod.kin.keeps grown
  have kinds : ∀ z ∈ ps.zip (.ref a :: us), scope.names.lookup z.1 = some .local ∨ (scope.names.lookup z.1 = some .cell ∧ ((cellsFrom (s.heap.objs.size + 1) scope.names []).lookup z.1).isSome = true) := by
    rintro ⟨x, v⟩ hz
    rcases S.par x (List.of_mem_zip hz).1 with q | q
    · exact .inl q
    · exact .inr ⟨q, PySem.W.cellsFrom_some _ _ _ (.inl q)⟩
  have hpl : ps.length ≤ m := by
    have q := congrArg List.length S.pre
    rw [List.length_take, hm] at q
    omega
  refine codeAny_call_function hr.depth (KX _ _ lk) rfl S.co S.gen rfl (PySem.W.codeRec_of KX hcd) (hb _ _ _ _ (wpAny_newFunctionEnv_cells S.kind kinds fun env he s1 x => ?_))
  subst he
  refine ⟨(e0.mod.nolimit.keeps grown).keeps x.toInCall.keep, codeAny_func ?_⟩
  have hlen : (V.ref a :: vs).length = ps.length := hl
  generalize hX : L2H.cxH (L2.CX Y.P Y.w) Y.P Y.w Y.K Y.mg Y.base N qual scope f cdv A outer s H (fun _ _ _ => False) (a, oe) = X
  have I : Inv X [] (L2.start N (.ref a :: vs)) H s1 := by rw [← hX]; exact L2H.inv_startH S hpin e0 hlen (.cons rfl r) x
  have C0 : CxG X (Y.T.hot Y.xf a dx cn) N scope k := by
    subst hX
    exact ⟨eK, rfl, S.nd, rfl, hr.deeper _, hgd⟩
  have J := hbody X a dx cn Ow C0 (fun _ => by rw [← hX]; rfl) ⟨a, dx, cn, oe, rfl, by rw [← hX]; exact List.mem_cons_self, hz, hf⟩ (by rw [← hX]; rfl) (by rw [← hX]; rfl) (by rw [← hX]; rfl) (by rw [← hX]; rfl) (by rw [← hX]; rfl)
  have hds : ds.length + 1 = ps.length := by rw [← rs.length]; exact hl
  have wish : tStm ⟨Y.T.hot Y.xf a dx cn, Y.xf, W0, Ow, false⟩ g { nx := fun _ H' => Q .non H', rt := Q } (L2.start N (.ref a :: vs)) H := by
    refine ⟨_, st, ρ, Ow, start_xc hm (by rw [hl]; exact hpl) rfl xr sr rs, ?_⟩
    rw [hc cn fs ds st hds] at p
    revert p
    generalize g (.xc cn fs :: (ds.map Sl.v ++ List.replicate (m - (ds.length + 1)) .em)) st = r0
    intro p
    cases r0 with
    | rt d st1 => exact body_want (xf := Y.xf) (E := fun _ _ _ => False) (r := .rt d st1) sr.disj rfl p
    | nx e st1 => exact body_want (xf := Y.xf) (E := fun _ _ _ => False) (r := .nx e st1) sr.disj rfl p
    | _ => exact p.elim
  have done := J.run [] s1 _ H _ I wish
  subst hX
  refine wpAny_mono done (fun fl s' hs => ?_) fun e s' hs => hs
  cases fl with
  | ret u =>
    obtain ⟨v, σ', H', I', rv, q⟩ := hs
    exact ⟨v, H', I'.os, I'.bare, I'.base, I'.hok, rv, q⟩
  | next =>
    obtain ⟨σ', H', I', q⟩ := hs
    exact ⟨V.non, H', I'.os, I'.bare, I'.base, I'.hok, rfl, q⟩
  | brk =>
    obtain ⟨_, _, _, q⟩ := hs
    exact q.elim
  | cont =>
    obtain ⟨_, _, _, q⟩ := hs
    exact q.elim
end
end G
namespace G
open PySem PySem.Spec PyProof.Rows
open L2 (V Hp HO upd SqL SqT Rd VK XK TE TT TA TI TS TG TGs Ends WX Cx PE PT PA PI PS PSs PG PGs Inv OpR CallR RelV Vals R2 PC PW Sp Room Env0 CR FnScope cxOf Binds Gl Names Takes SP Zc Sky frs)
/-- behind a suite the name is gone -/
def outE (i : Nat) (D : Ends) : Ends := { nx := fun σ H => D.nx (σ.set i none) H, rt := D.rt, bk := fun σ H => D.bk (σ.set i none) H, ct := fun σ H => D.ct (σ.set i none) H }
section
variable {X : Cx} {w : WS} {N : List PySem.Str} {sc : Scope} {k : Nat} {n : PySem.Str} {i : Nat} {body : List Stmt} {hds : List ExceptHandler} {gs : List (Nat × StS)} {pos : Pos} {f : StS}
/-- the frame's slots, within a suite -/
theorem Fr.hot {T : Tb} {xf : Nat → List Nm} {Ow0 : List Addr} {H : Hp} {ρ Ow : List Addr} {σ : L2.St} {env : Env} {st : Store} {a : Addr} {dx : Option Addr} {c : Nat} {fs : List D} (hx0 : T.hx = none) (fr : Fr T Ow0 H ρ Ow σ env st) (hi : i < σ.length) (xr : XcR T H ρ Ow dx (xf c) fs) :
    Fr (T.hot xf a dx c) Ow0 H ρ Ow (σ.set i (some (.ref a))) (env.set i (.xc c fs)) st := by
  have hl : i < env.length := by rw [fr.en.len]; exact hi
  have old : ∀ (j : Nat) (xs : List D) (b : Addr), (env.set i (.xc c fs))[j]? = some (.own xs) → (σ.set i (some (.ref a)))[j]? = some (some (.ref b)) → j ≠ i ∧ env[j]? = some (.own xs) ∧ σ[j]? = some (some (.ref b)) := fun j xs b h1 h2 => by
    by_cases e : j = i
    · subst e
      rw [List.getElem?_set_self hl] at h1
      cases h1
    · rw [List.getElem?_set_ne (Ne.symm e)] at h1 h2
      exact ⟨e, h1, h2⟩
  refine ⟨⟨by rw [List.length_set, List.length_set]; exact fr.en.len, fun j s h => ?_, fun j l xs ys b h1 h2 h3 h4 => ?_⟩, fr.sr.hx, fr.sub, fun j xs b h1 h2 => ?_⟩
  · by_cases e : j = i
    · subst e
      rw [List.getElem?_set_self hl] at h
      cases h
      rw [List.getElem?_set_self hi]
      exact ⟨dx, xf c, rfl, xr.hx⟩
    · rw [List.getElem?_set_ne (Ne.symm e)] at h ⊢
      have q := fr.en.at_ j s h
      revert q
      cases s with
      | em => exact fun _ => by cases σ[j]? with
        | none => trivial
        | some o => cases o <;> trivial
      | v d =>
        cases σ[j]? with
        | none => exact fun q => q.elim
        | some o =>
          cases o with
          | none => exact fun q => q.elim
          | some v => exact fun q => RV.hx (show RV T H ρ Ow v d from q)
      | own ds =>
        cases σ[j]? with
        | none => exact fun q => q.elim
        | some o =>
          cases o with
          | none => exact fun q => q.elim
          | some v =>
            cases v with
            | ref b =>
              intro q
              obtain ⟨m, vs, h1, z, rs⟩ := (q : b ∈ Ow ∧ ∃ vs, H b = some (.lst vs) ∧ vs.length ≤ LIM ∧ RVs T H ρ Ow vs ds)
              exact ⟨m, vs, h1, z, rs.hx⟩
            | _ => exact fun q => q.elim
      | xc c1 fs1 =>
        cases σ[j]? with
        | none => exact fun q => q.elim
        | some o =>
          cases o with
          | none => exact fun q => q.elim
          | some v =>
            cases v with
            | ref b =>
              intro q
              obtain ⟨dx1, fl1, h1, _⟩ := (q : ∃ dx fl, T.hx = some (b, dx, c1, fl) ∧ XcR T H ρ Ow dx fl fs1)
              rw [hx0] at h1
              cases h1
            | _ => exact fun q => q.elim
  · obtain ⟨_, a1, a2⟩ := old j xs b h1 h3
    obtain ⟨_, b1, b2⟩ := old l ys b h2 h4
    exact fr.en.apart j l xs ys b a1 b1 a2 b2
  · obtain ⟨_, a1, a2⟩ := old j xs b h1 h2
    exact fr.out j xs b a1 a2
/-- and behind it -/
theorem Fr.cool {T : Tb} {xf : Nat → List Nm} {Ow0 : List Addr} {H : Hp} {ρ Ow : List Addr} {σ : L2.St} {env : Env} {st : Store} {a : Addr} {dx : Option Addr} {c : Nat} (fr : Fr (T.hot xf a dx c) Ow0 H ρ Ow σ env st) : Fr T Ow0 H ρ Ow (σ.set i none) (coolE i env) st := by
  have back : ∀ (j : Nat) (s : Sl), (coolE i env)[j]? = some s → s ≠ .em → j ≠ i ∧ env[j]? = some s ∧ (∀ c fs, s ≠ .xc c fs) := fun j s h hs => by
    unfold coolE at h
    rw [List.getElem?_map] at h
    obtain ⟨s0, h1, h2⟩ := Option.map_eq_some_iff.mp h
    by_cases e : j = i
    · subst e
      have hl : j < env.length := by
        have := (List.getElem?_eq_some_iff.mp h1).1
        simpa using this
      rw [List.getElem?_set_self hl] at h1
      cases h1
      exact absurd h2.symm hs
    · rw [List.getElem?_set_ne (Ne.symm e)] at h1
      cases s0 with
      | xc c1 fs1 => exact absurd h2.symm hs
      | _ => subst h2; exact ⟨e, h1, fun _ _ z => by cases z⟩
  have own : ∀ (j : Nat) (xs : List D) (b : Addr), (coolE i env)[j]? = some (.own xs) → (σ.set i none)[j]? = some (some (.ref b)) → env[j]? = some (.own xs) ∧ σ[j]? = some (some (.ref b)) := fun j xs b h1 h2 => by
    obtain ⟨e, h3, _⟩ := back j _ h1 (fun z => by cases z)
    rw [List.getElem?_set_ne (Ne.symm e)] at h2
    exact ⟨h3, h2⟩
  refine ⟨⟨by unfold coolE; rw [List.length_map, List.length_set, List.length_set]; exact fr.en.len, fun j s h => ?_, fun j l xs ys b h1 h2 h3 h4 => ?_⟩, fr.sr.unhx, fr.sub, fun j xs b h1 h2 => ?_⟩
  · by_cases hs : s = .em
    · subst hs
      cases (σ.set i none)[j]? with
      | none => trivial
      | some o => cases o <;> trivial
    · obtain ⟨e, h1, h2⟩ := back j s h hs
      rw [List.getElem?_set_ne (Ne.symm e)]
      have q := fr.en.at_ j s h1
      revert q
      cases s with
      | em => exact absurd rfl hs
      | v d =>
        cases σ[j]? with
        | none => exact fun q => q.elim
        | some o =>
          cases o with
          | none => exact fun q => q.elim
          | some v => exact fun q => RV.unhx (z := some (a, dx, c, xf c)) (show RV (T.hot xf a dx c) H ρ Ow v d from q)
      | own ds =>
        cases σ[j]? with
        | none => exact fun q => q.elim
        | some o =>
          cases o with
          | none => exact fun q => q.elim
          | some v =>
            cases v with
            | ref b =>
              intro q
              obtain ⟨m, vs, h1, z, rs⟩ := (q : b ∈ Ow ∧ ∃ vs, H b = some (.lst vs) ∧ vs.length ≤ LIM ∧ RVs (T.hot xf a dx c) H ρ Ow vs ds)
              exact ⟨m, vs, h1, z, RVs.unhx (z := some (a, dx, c, xf c)) rs⟩
            | _ => exact fun q => q.elim
      | xc c1 fs1 => exact absurd rfl (h2 c1 fs1)
  · obtain ⟨a1, a2⟩ := own j xs b h1 h3
    obtain ⟨b1, b2⟩ := own l ys b h2 h4
    exact fr.en.apart j l xs ys b a1 b1 a2 b2
  · obtain ⟨a1, a2⟩ := own j xs b h1 h2
    exact fr.out j xs b a1 a2
theorem PostR.cool {a : Addr} {dx : Option Addr} {c : Nat} {H : Hp} {ρ Ow : List Addr} {Z : Ends} {r : R} (p : PostR w H ρ Ow Z (r.cool i)) : PostR ⟨w.T.hot w.xf a dx c, w.xf, W0, w.Ow0, w.fre⟩ H ρ Ow (outE i Z) r := by
  cases r with
  | nx env st => exact fun σ H' ρ' Ow' s f => p _ H' ρ' Ow' s f.cool
  | bk env st => exact fun σ H' ρ' Ow' s f => p _ H' ρ' Ow' s f.cool
  | ct env st => exact fun σ H' ρ' Ow' s f => p _ H' ρ' Ow' s f.cool
  | rt d st =>
    intro v H' ρ' Ow' s sr r
    refine p v H' ρ' Ow' s (StR.unhx (z := some (a, dx, c, w.xf c)) sr) ?_
    cases hfr : w.fre with
    | false =>
      have r' : RRt w.fre (w.T.hot w.xf a dx c) H' ρ' Ow' w.Ow0 v d := r
      rw [hfr] at r'
      exact RV.unhx (z := some (a, dx, c, w.xf c)) (show RV (w.T.hot w.xf a dx c) H' ρ' Ow' v d from r')
    | true =>
      have r' : RRt w.fre (w.T.hot w.xf a dx c) H' ρ' Ow' w.Ow0 v d := r
      rw [hfr] at r'
      obtain ⟨b, vs, xs, e1, e2, e3, e4, e5, e6, rs⟩ := r'
      exact ⟨b, vs, xs, e1, e2, e3, e4, e5, e6, RVs.unhx (z := some (a, dx, c, w.xf c)) rs⟩
  | ex env c fs st => exact p.elim
  | bad => exact p.elim
end
end G
namespace G
open PySem PySem.Spec PyProof.Rows
open L2 (V Hp HO upd SqL SqT Rd VK XK TE TT TA TI TS TG TGs Ends WX Cx PE PT PA PI PS PSs PG PGs Inv OpR CallR RelV Vals R2 PC PW Gl Room FunD Binds)
/-- where a def stands: a global's, a class's method, the getter of a property, a class method -/
inductive Pa where
  | glo (x : PySem.Str) | me (C m : PySem.Str) | prop (C m : PySem.Str) | cm (C m : PySem.Str)
deriving DecidableEq
def recG (K : PySem.W.Frag) (p : Addr) (t : String) : Addr := match PySem.W.recIn K p t with
  | some (.ref g :: _) => g
  | _ => 0
def Pa.ad (K : PySem.W.Frag) : Pa → Addr
  | .glo x => He.ga K x
  | .me C m => He.ma K (He.ga K C) m
  | .prop C m => recG K (He.ma K (He.ga K C) m) "property"
  | .cm C m => recG K (He.ma K (He.ga K C) m) "classmethod"
/-- a def -/
structure Df where
  pa : Pa
  name : PySem.Str
  qual : PySem.Str
  params : Arguments
  body : List Stmt
  scope : Scope
  N : List PySem.Str
  ps : List PySem.Str
  sem : Ctx → StS
  fre : Bool
  hot : Bool
structure ClT where
  x : PySem.Str
  cl : Cl
  cms : List (PySem.Str × Nat)
structure XcT where
  x : PySem.Str
  q : Xc
  init : Nat
structure PT where
  defs : List Df
  cls : List ClT
  exs : List XcT
  nms : List PySem.Str
  free : List PySem.Str
  gints : List (PySem.Str × Int)
  gstrs : List (PySem.Str × List Nat)
  tys : List Ty
  tabs : List Nat
  /-- exceptions are asked for: the types, the base classes -/
  xon : Bool
  xtys : List Ty
  bases : List PySem.Str
def nmOf (l : List PySem.Str) (i : Nat) : PySem.Str := match l[i]? with
  | some x => x
  | none => ⟨#[1114112 + i]⟩
def okNms (l : List PySem.Str) : Bool := decide l.Nodup && l.all fun x => x.cps.all okCode
/-- a def's code object, its table, the name of a lambda in it -/
def codeAd (K : PySem.W.Frag) (a : Addr) : Value := match K.lookup a with
  | some ⟨_, _, .func fd, _⟩ => fd.code
  | _ => .none
def cAd (K : PySem.W.Frag) (a : Addr) : Addr := match codeAd K a with
  | .ref c => c
  | _ => 0
def tabAd (K : PySem.W.Frag) (a : Addr) : Addr := match K.lookup (cAd K a) with
  | some ⟨_, _, .fields vs, _⟩ => (match (vs[11]? : Option Value) with
    | some (.ref P) => P
    | _ => 0)
  | _ => 0
def lamQ (q : PySem.Str) : PySem.Str := q ++ ".<locals>." ++ "<lambda>"
def PT.dAd (pt : PT) (K : PySem.W.Frag) (i : Nat) : Addr := match pt.defs[i]? with
  | some d => d.pa.ad K
  | none => 0
def PT.dQ (pt : PT) (i : Nat) : PySem.Str := match pt.defs[i]? with
  | some d => lamQ d.qual
  | none => ""
def tbOf (pt : PT) (K : PySem.W.Frag) : Tb where
  K := K
  cls := fun c => match pt.cls[c]? with
    | some t => He.ga K t.x
    | none => 0
  exc := fun c => match pt.exs[c]? with
    | some t => He.ga K t.x
    | none => 0
  nm := nmOf pt.nms
  flds := fun c => match pt.cls[c]? with
    | some t => t.cl.fields
    | none => []
  tabs := pt.tabs.map fun i => (tabAd K (pt.dAd K i), pt.dQ i)
  hx := none
def xfOf (pt : PT) (c : Nat) : List Nm := match pt.exs[c]? with
  | some t => t.q.field
  | none => []
def PT.ctx (pt : PT) (call : Nat → Fd) : Ctx := ⟨call, fun c => (pt.cls[c]?).map (·.cl), fun c => (pt.exs[c]?).map (·.q), fun _ => none⟩
def Df.run (d : Df) (Γ : Ctx) : Fd := match d.hot with
  | false => runF d.ps.length d.N.length (d.sem Γ)
  | true => runH d.ps.length d.N.length (d.sem Γ)
def PT.call (pt : PT) : Nat → Nat → Fd
  | 0, _ => fun _ _ => .bad
  | n + 1, f => match pt.defs[f]? with
    | some d => d.run (pt.ctx (pt.call n))
    | none => fun _ _ => .bad
def fnA (K : PySem.W.Frag) (a : Addr) : He.FnW := match K.lookup a with
  | some ⟨_, _, .func fd, _⟩ => some (fd.name, fd.qualname, fd.params, fd.body, fd.scope, fd.globals, fd.closure, fd.builtins)
  | _ => none
def Df.val (d : Df) : He.FnW := some (d.name, d.qual, d.params, .stmts d.body, d.scope, mainGlobals, [], builtinsNs)
def fnB (K : PySem.W.Frag) (a : Addr) (qual : PySem.Str) : Bool := PySem.W.keepIn K (.ref a) && (match K.lookup a with
  | some ⟨_, _, .func fd, _⟩ => PySem.W.codeIn K fd.code qual && He.dflB K fd.defaults []
  | _ => false)
theorem fn_says {K : PySem.W.Frag} {d : Df} (e : fnA K (d.pa.ad K) = d.val) (c : fnB K (d.pa.ad K) d.qual = true) : ∃ fd, FunD K d.name d.qual d.params d.body d.scope [] [] (d.pa.ad K) fd := by
  obtain ⟨kp, c2⟩ := He.ba c
  unfold fnA at e
  cases q : K.lookup (d.pa.ad K) with
  | none =>
    rw [q] at c2
    cases c2
  | some o =>
    obtain ⟨oc, od, dt, osl⟩ := o
    rw [q] at c2 e
    cases dt with
    | func fd =>
      obtain ⟨n1, n2, n3, n4, n5, n6, n7, n8, n9, n10, n11, n12, n13, n14, n15⟩ := fd
      have e2 : (some (n1, n2, n3, n4, n5, n6, n7, n15) : He.FnW) = some (d.name, d.qual, d.params, .stmts d.body, d.scope, mainGlobals, [], builtinsNs) := e
      simp only [Option.some.injEq, Prod.mk.injEq] at e2
      obtain ⟨h1, h2, h3, h4, h5, h6, h7, h8⟩ := e2
      subst h1 h2 h3 h4 h5 h6 h7 h8
      have c3 : (PySem.W.codeIn K n13 d.qual && He.dflB K n8 []) = true := c2
      obtain ⟨k1, k2⟩ := He.ba c3
      exact ⟨_, ⟨oc, od, n8, n9, n10, n11, n12, n13, n14, osl, rfl, q, k1, He.dflB_ok (dvs := []) k2, .inl rfl⟩, kp⟩
    | _ => cases c2
/-- a class's instances -/
def clTyB (K : PySem.W.Frag) (C : Addr) : Bool := He.eqO (PySem.W.findIn K (.ref C) "__class__") (some (some (.builtin "object.__class__"))) &&
  (He.eqO (PySem.W.specialIn K (.builtin "object.__class__") "__get__") (some (some (.builtin "getset_descriptor.__get__"))) && (decide (PySem.W.takesIn K (.builtin "object.__class__") = some true) && decide (PySem.W.mroIn K C (.type "object") = some true)))
theorem clTy_ok {K : PySem.W.Frag} {C : Addr} (c : L2.Cls K C) (h : clTyB K C = true) : ClTy K C := by
  obtain ⟨h1, h⟩ := He.ba h
  obtain ⟨h2, h⟩ := He.ba h
  obtain ⟨h3, h4⟩ := He.ba h
  exact ⟨c, He.eqO_ok h1, He.eqO_ok h2, of_decide_eq_true h3, of_decide_eq_true h4⟩
def propB (K : PySem.W.Frag) (C : Addr) (f : PySem.Str) : Bool := He.eqO (PySem.W.findIn K (.ref C) f) (some (some (.ref (He.ma K C f)))) &&
  (He.eqO (PySem.W.specialIn K (.ref (He.ma K C f)) "__get__") (some (some (.builtin "property.__get__"))) && (decide (PySem.W.takesIn K (.ref (He.ma K C f)) = some true) &&
    (match PySem.W.recIn K (He.ma K C f) "property" with
    | some (.ref _ :: _) => true
    | _ => false)))
def cmB (K : PySem.W.Frag) (C : Addr) (m : PySem.Str) : Bool := PySem.W.readsIn K C (.type "type") && (He.eqO (PySem.W.specialIn K (.ref C) "__getattribute__") (some (some (.builtin "type.__getattribute__"))) &&
  ((match PySem.W.findCls K (.ref C) (.type "type") m with
    | some (.get a b c d) => decide (a = .builtin "classmethod.__get__") && (decide (b = .ref (He.ma K C m)) && (decide (c = .none) && decide (d = .ref C)))
    | _ => false) && (PySem.W.fnIn K (recG K (He.ma K C m) "classmethod") &&
    (match PySem.W.recIn K (He.ma K C m) "classmethod" with
    | some (.ref _ :: _) => true
    | _ => false))))
theorem cm_ok {K : PySem.W.Frag} {C : Addr} {m : PySem.Str} (h : cmB K C m = true) : ClX.CRead K C (.type "type") ∧ ClX.CMet K C (.type "type") m (He.ma K C m) (recG K (He.ma K C m) "classmethod") := by
  obtain ⟨h1, h⟩ := He.ba h
  obtain ⟨h2, h⟩ := He.ba h
  obtain ⟨h3, h⟩ := He.ba h
  obtain ⟨h4, h5⟩ := He.ba h
  refine ⟨⟨h1, He.eqO_ok h2⟩, ?_, ?_, h4⟩
  · split at h3
    · rename_i a b c d e
      obtain ⟨g1, h3⟩ := He.ba h3
      obtain ⟨g2, h3⟩ := He.ba h3
      obtain ⟨g3, g4⟩ := He.ba h3
      rw [e, of_decide_eq_true g1, of_decide_eq_true g2, of_decide_eq_true g3, of_decide_eq_true g4]
    · cases h3
  unfold recG
  cases e : PySem.W.recIn K (He.ma K C m) "classmethod" with
  | none => rw [e] at h5; cases h5
  | some l =>
    rw [e] at h5
    cases l with
    | nil => cases h5
    | cons v r => cases v <;> first | exact ⟨r, rfl⟩ | cases h5
end G
namespace G
open PySem PySem.Spec PyProof.Rows
open L2 (V Hp HO upd SqL SqT Rd VK XK TE TT TA TI TS TG TGs Ends WX Cx PE PT PA PI PS PSs PG PGs Inv OpR CallR RelV Vals R2 PC PW Gl Room FunD Binds)
def bId : Nat → String
  | 0 => "ValueError"
  | 1 => "LookupError"
  | _ => "ArithmeticError"
def bNew : Nat → String
  | 0 => "ValueError.__new__"
  | 1 => "LookupError.__new__"
  | _ => "ArithmeticError.__new__"
def bInit : Nat → String
  | 0 => "ValueError.__init__"
  | 1 => "LookupError.__init__"
  | _ => "ArithmeticError.__init__"
def bMro : Nat → List Value
  | 0 => [.type "ValueError", .type "Exception", .type "BaseException", .type "object"]
  | 1 => [.type "LookupError", .type "Exception", .type "BaseException", .type "object"]
  | _ => [.type "ArithmeticError", .type "Exception", .type "BaseException", .type "object"]
theorem exB : ∀ b : Nat, ExB (bId b) (bNew b) (bInit b) (bMro b)
  | 0 => ⟨PySem.F.excBase_ValueError, PySem.F.store_ValueError, rfl⟩
  | 1 => ⟨PySem.F.excBase_LookupError, PySem.F.store_LookupError, rfl⟩
  | _ + 2 => ⟨PySem.F.excBase_ArithmeticError, PySem.F.store_ArithmeticError, rfl⟩
def excB (K : PySem.W.Frag) (C : Addr) (bmB : List Value) (newId : String) : Bool := (match K.lookup C with
  | some ⟨.type "type", _, .cls cd, sl⟩ => (match cd.mro, sl.toList with
    | .ref C' :: bm, [_, _, _, _, some (.builtin n), _] => C' == C && n == newId && !cd.hasDel && cd.hasDict && PySem.W.excTail bmB bm
    | _, _ => false)
  | _ => false) && (PySem.W.excOver K C bmB && (He.eqO (PySem.W.findIn K (.ref C) "__setattr__") (some (some (.builtin "object.__setattr__"))) &&
  (decide (PySem.W.subIn K (.ref C) (.type "BaseException") = some true) && (decide (PySem.W.typeIn K (.ref C) = some (.type "type")) && PySem.W.keepIn K (.ref C)))))
theorem exc_ok {K : PySem.W.Frag} {C : Addr} {bmB : List Value} {newId : String} (h : excB K C bmB newId = true) : ExC K C newId bmB := by
  obtain ⟨q, h⟩ := He.ba h
  obtain ⟨h2, h⟩ := He.ba h
  obtain ⟨h3, h⟩ := He.ba h
  obtain ⟨h4, h⟩ := He.ba h
  obtain ⟨h5, h6⟩ := He.ba h
  refine ⟨?_, h2, He.eqO_ok h3, of_decide_eq_true h4, of_decide_eq_true h5, h6⟩
  split at q
  · rename_i dd cd sl ho
    split at q
    · rename_i C' bm k0 k1 k2 k3 n k5 hm hs
      simp only [Bool.and_eq_true, beq_iff_eq, Bool.not_eq_true'] at q
      obtain ⟨⟨⟨⟨rfl, rfl⟩, hdel⟩, hdict⟩, ht⟩ := q
      obtain ⟨nm, bs, mro, ns, qn, hd, sn, sub, ab, col, del⟩ := cd
      dsimp only at hm hdel hdict
      subst hm hdel hdict
      have hsl : sl = #[k0, k1, k2, k3, some (.builtin n), k5] := by
        obtain ⟨l⟩ := sl
        simp only at hs
        rw [hs]
      subst hsl
      exact ⟨nm, qn, ns, bs, bm, sn, sub, ab, col, dd, k0, k1, k2, k3, k5, ho, ht⟩
    · cases q
  · cases q
def glB (K : PySem.W.Frag) (x : PySem.Str) : Bool := (He.Fa.glo x).ok K
def defAt (pt : PT) (i : Nat) (pa : Pa) (n : Nat) : Bool := match pt.defs[i]? with
  | some d => decide (d.pa = pa) && decide (d.ps.length = n)
  | none => false
/-- != of an own class is object's -/
def neB (K : PySem.W.Frag) (C : Addr) : Bool := decide (PySem.W.findIn K (.ref C) "__ne__" = some (some (.builtin "object.__ne__")))
def clsB0 (pt : PT) (K : PySem.W.Frag) (t : ClT) : Bool := glB K t.x && ((He.Fa.cls t.x).ok K && (clTyB K (He.ga K t.x) && (decide t.cl.fields.Nodup && ((t.cl.fields.all fun f => (He.Fa.noat t.x (nmOf pt.nms f)).ok K) &&
  ((He.Fa.mkr t.x).ok K && ((match pt.defs[t.cl.init]? with
    | some d => decide (d.pa = .me t.x "__init__")
    | none => false) && ((t.cl.props.all fun p => propB K (He.ga K t.x) (nmOf pt.nms p.1) && defAt pt p.2 (.prop t.x (nmOf pt.nms p.1)) 1) &&
  ((t.cl.meths.all fun p => (He.Fa.meth t.x (nmOf pt.nms p.1)).ok K && (match pt.defs[p.2]? with
    | some d => decide (d.pa = .me t.x (nmOf pt.nms p.1))
    | none => false)) && (t.cms.all fun p => cmB K (He.ga K t.x) p.1 && (match pt.defs[p.2]? with
    | some d => decide (d.pa = .cm t.x p.1)
    | none => false))))))))))
def excChk (pt : PT) (K : PySem.W.Frag) (t : XcT) : Bool := glB K t.x && (excB K (He.ga K t.x) (bMro t.q.base) (bNew t.q.base) && (match t.q.field with
  | [] => true
  | [f] => He.eqO (PySem.W.findIn K (.ref (He.ga K t.x)) (nmOf pt.nms f)) (some none) && ((He.Fa.meth t.x "__init__").ok K && (decide (PySem.W.typeIn K (.ref (He.ma K (He.ga K t.x) "__init__")) = some (.type "function")) && (match pt.defs[t.init]? with
    | some d => decide (d.pa = .me t.x "__init__")
    | none => false)))
  | _ => false))
def tyV (pt : PT) (K : PySem.W.Frag) : Ty → Value
  | .int => .type "int"
  | .bool => .type "bool"
  | .str => .type "str"
  | .tuple => .type "tuple"
  | .own c => .ref ((tbOf pt K).cls c)
  | _ => .none
def kitB (K : PySem.W.Frag) (t u : Value) (b : Bool) : Bool := decide (PySem.W.kitOne K t u = some b)
def tyB (pt : PT) (K : PySem.W.Frag) (τ : Ty) : Bool := kitB K (.type "NoneType") (tyV pt K τ) false && (kitB K (.type "bool") (tyV pt K τ) τ.isBl && (kitB K (.type "int") (tyV pt K τ) τ.isInt && (kitB K (.type "str") (tyV pt K τ) τ.isStr && (kitB K (.type "tuple") (tyV pt K τ) τ.isTup && (kitB K (.type "list") (tyV pt K τ) false && (kitB K (.type "dict") (tyV pt K τ) false &&
  ((List.range pt.cls.length).all fun c => kitB K (.ref ((tbOf pt K).cls c)) (tyV pt K τ) (τ.isOwn c))))))))
def chkD1 (K : PySem.W.Frag) (d : Df) : Bool := fnB K (d.pa.ad K) d.qual && (match d.pa with
    | .glo x => glB K x
    | _ => true)
def chkD (pt : PT) (K : PySem.W.Frag) : Bool := pt.defs.all (chkD1 K)
def chkF (pt : PT) (K : PySem.W.Frag) : Bool := pt.free.all fun x => (He.Fa.free x).ok K
def chkI1 (K : PySem.W.Frag) (p : PySem.Str × Int) : Bool := (He.Fa.int p.1 p.2).ok K
def chkI (pt : PT) (K : PySem.W.Frag) : Bool := pt.gints.all (chkI1 K)
def chkS1 (K : PySem.W.Frag) (p : PySem.Str × List Nat) : Bool := (He.Fa.str p.1 ⟨p.2.toArray⟩).ok K && (decide (p.2.length ≤ 1000) && p.2.all okCode)
def chkS (pt : PT) (K : PySem.W.Frag) : Bool := pt.gstrs.all (chkS1 K)
def tabB (pt : PT) (K : PySem.W.Frag) (i : Nat) : Bool := (match codeAd K (pt.dAd K i) with
  | .ref _ => true
  | _ => false) && (PySem.W.codeHdIn K (cAd K (pt.dAd K i)) (tabAd K (pt.dAd K i)) && (match K.lookup (tabAd K (pt.dAd K i)) with
  | none => true
  | some _ => false))
def chkT (pt : PT) (K : PySem.W.Frag) : Bool := pt.tabs.all (tabB pt K) && decide (pt.tabs.map fun i => tabAd K (pt.dAd K i)).Nodup
def clsB (pt : PT) (K : PySem.W.Frag) (t : ClT) : Bool := neB K (He.ga K t.x) && clsB0 pt K t
def PT.xnm (pt : PT) (j : Nat) : PySem.Str := if j < 100 then (match pt.exs[j]? with
  | some t => t.x
  | none => "") else pt.bases.getD (j - 100) ""
def xtyV (pt : PT) (K : PySem.W.Frag) : Ty → Value
  | .exc j => .ref (He.ga K (pt.xnm j))
  | .value => .type "ValueError"
  | .lookup => .type "LookupError"
  | .arith => .type "ArithmeticError"
  | _ => .none
def xcB (K : PySem.W.Frag) (C : Addr) : Bool := (PySem.W.clsIn K C).isSome && (He.eqO (PySem.W.findIn K (.ref C) "__getattribute__") (some (some (.builtin "BaseException.__getattribute__"))) && (decide (PySem.W.findIn K (.ref C) "__getattr__" = some none) && (He.eqO (PySem.W.findIn K (.ref C) "__class__") (some (some (.builtin "object.__class__"))) &&
  (He.eqO (PySem.W.specialIn K (.builtin "object.__class__") "__get__") (some (some (.builtin "getset_descriptor.__get__"))) && (decide (PySem.W.takesIn K (.builtin "object.__class__") = some true) && (decide (PySem.W.mroIn K C (.type "object") = some true) && PySem.W.hasDictIn K C))))))
def xty1 (pt : PT) (K : PySem.W.Frag) (τ : Ty) (c : Nat) : Bool := match pt.exs[c]? with
  | some t => (match xisX t.q c τ with
    | some b => kitB K (.ref (He.ga K t.x)) (xtyV pt K τ) b
    | none => true)
  | none => true
def xglB (pt : PT) (K : PySem.W.Frag) : Ty → Bool
  | .exc j => glB K (pt.xnm j)
  | _ => true
def xpair (pt : PT) (K : PySem.W.Frag) (c c' : Nat) : Bool := decide (PySem.W.subIn K (.ref ((tbOf pt K).exc c')) (.ref ((tbOf pt K).exc c)) = some (decide (c' = c)))
def chkX (pt : PT) (K : PySem.W.Frag) : Bool := !pt.xon || ((pt.exs.all fun t => xcB K (He.ga K t.x)) && (((List.range pt.exs.length).all fun c => (List.range pt.exs.length).all (xpair pt K c)) && (pt.xtys.all fun τ => xglB pt K τ && (List.range pt.exs.length).all (xty1 pt K τ))))
def chkU (pt : PT) (K : PySem.W.Frag) : Bool := chkT pt K && (okNms pt.nms && (chkD pt K && (pt.cls.all (clsB pt K) && (pt.exs.all (excChk pt K) && (chkF pt K && (chkI pt K && (chkS pt K && pt.tys.all (tyB pt K))))))))
def chk (pt : PT) (K : PySem.W.Frag) : Bool := chkX pt K && chkU pt K
theorem ba8 {a b c d e f g h : Bool} (q : (a && (b && (c && (d && (e && (f && (g && h))))))) = true) : a = true ∧ b = true ∧ c = true ∧ d = true ∧ e = true ∧ f = true ∧ g = true ∧ h = true := by
  simpa [Bool.and_eq_true] using q
abbrev AlP : Type := (Bool × List He.FnW) × List (Option PySem.Obj)
def obsP (pt : PT) (K : PySem.W.Frag) : Bool × List He.FnW := (chk pt K, pt.defs.map fun d => fnA K (d.pa.ad K))
def valP (pt : PT) : Bool × List He.FnW := (true, pt.defs.map Df.val)
def tabObs (pt : PT) (K : PySem.W.Frag) (g : Addr → Option PySem.Obj) : List (Option PySem.Obj) := pt.tabs.map fun i => g (tabAd K (pt.dAd K i))
def tabVal (pt : PT) : List (Option PySem.Obj) := pt.tabs.map fun _ => some (PySem.W.tabObj #[])
/-- all but the tables of code objects -/
def gT (g : Addr → Option PySem.Obj) (a : Addr) : Option PySem.Obj := match g a with
  | some o => (match o.cls, o.data with
    | .none, .fields _ => none
    | _, _ => some o)
  | none => none
theorem gT_of {g : Addr → Option PySem.Obj} {a : Addr} {o : PySem.Obj} (h : gT g a = some o) : g a = some o := by
  unfold gT at h
  split at h
  · rename_i o' ho
    split at h
    · cases h
    · rw [← h]; exact ho
  · cases h
def frP (g : Addr → Option PySem.Obj) (n : Nat) : PySem.W.Frag := He.frG (gT g) (He.asD g n ++ [PySem.cStatics])
theorem frP_in {s : Shared} {n : Nat} : (frP s.heap.get? n).In s.heap := fun a o e => gT_of (He.frG_at _ e)
def obsPG (n : Nat) (pt : PT) (g : Addr → Option PySem.Obj) : AlP := (obsP pt (frP g n), tabObs pt (frP g n) g)
def hookP (n : Nat) (pt : PT) : PySem.W.Hook where
  α := AlP
  obs := fun s => obsPG n pt s.heap.get?
  val := fun _ => (valP pt, tabVal pt)
  says := fun _ h => ∃ K : PySem.W.Frag, K.In h ∧ obsP pt K = valP pt ∧ ∀ i ∈ pt.tabs, h.get? (tabAd K (pt.dAd K i)) = some (PySem.W.tabObj #[])
  of := fun _ _ e => ⟨_, frP_in, congrArg Prod.fst e, fun i hi => List.map_inj_left.mp (congrArg Prod.snd e) i hi⟩
  keeps := fun _ _ _ ⟨K, hK, c, t⟩ k => ⟨K, PySem.W.Frag.In.keeps hK k, c, fun i hi => k _ _ (t i hi)⟩
theorem obsPG_eq {n : Nat} {pt : PT} {g : Addr → Option PySem.Obj} {s : Shared} (h : ∀ a, g a = s.heap.get? a) : obsPG n pt g = (hookP n pt).obs s := by
  have e : g = s.heap.get? := funext h
  rw [e] <;> rfl
structure St (pt : PT) (Y : Wd) : Prop where
  eT : Y.T = { tbOf pt Y.K with hx := Y.T.hx }
  exf : Y.xf = xfOf pt
  kin : Y.K.In Y.base
  ns : Y.base.Ns mainGlobals Y.mg
  says : obsP pt Y.K = valP pt
section
variable {pt : PT} {Y : Wd}
theorem St.chk0 (S : St pt Y) : chkU pt Y.K = true := (He.ba (show chk pt Y.K = true from congrArg (fun z : Bool × List He.FnW => z.1) S.says)).2
theorem St.chkT (S : St pt Y) : chkT pt Y.K = true := (He.ba S.chk0).1
theorem St.cs (S : St pt Y) : okNms pt.nms = true ∧ chkD pt Y.K = true ∧ pt.cls.all (clsB pt Y.K) = true ∧ pt.exs.all (excChk pt Y.K) = true ∧ chkF pt Y.K = true ∧ chkI pt Y.K = true ∧ chkS pt Y.K = true ∧ pt.tys.all (tyB pt Y.K) = true := ba8 (He.ba S.chk0).2
theorem St.nms (S : St pt Y) : okNms pt.nms = true := S.cs.1
theorem all_at {α : Type} {p : α → Bool} {l : List α} (h : l.all p = true) {i : Nat} {a : α} (e : l[i]? = some a) : p a = true := List.all_eq_true.mp h a (List.mem_of_getElem? e)
theorem St.fd (S : St pt Y) {i : Nat} {d : Df} (h : pt.defs[i]? = some d) : ∃ fd, FunD Y.K d.name d.qual d.params d.body d.scope [] [] (d.pa.ad Y.K) fd := by
  have e : pt.defs.map (fun d => fnA Y.K (d.pa.ad Y.K)) = pt.defs.map Df.val := congrArg (fun z : Bool × List He.FnW => z.2) S.says
  have e2 : (pt.defs.map fun d => fnA Y.K (d.pa.ad Y.K))[i]? = (pt.defs.map Df.val)[i]? := by rw [e]
  rw [List.getElem?_map, List.getElem?_map, h] at e2
  exact fn_says (Option.some.inj e2) (He.ba (all_at (p := chkD1 Y.K) S.cs.2.1 h)).1
theorem St.gl (S : St pt Y) {x : PySem.Str} (h : glB Y.K x = true) : Y.mg x = some (.ref (He.ga Y.K x)) := He.glo_ok S.kin S.ns h
theorem St.fn_gl (S : St pt Y) {i : Nat} {d : Df} {x : PySem.Str} (h : pt.defs[i]? = some d) (e : d.pa = .glo x) : Y.mg x = some (.ref (d.pa.ad Y.K)) := by
  have h1 := (He.ba (all_at (p := chkD1 Y.K) S.cs.2.1 h)).2
  rw [e] at h1 ⊢
  exact S.gl h1
theorem St.free (S : St pt Y) {x : PySem.Str} (h : pt.free.contains x = true) : Y.mg x = none := He.free_ok S.kin S.ns (List.all_eq_true.mp S.cs.2.2.2.2.1 x (by simpa using h))
theorem St.gint (S : St pt Y) {i : Nat} {x : PySem.Str} {z : Int} (h : pt.gints[i]? = some (x, z)) : ∃ t, Y.mg x = some (.int z t) := He.int_ok S.kin S.ns (all_at (p := chkI1 Y.K) S.cs.2.2.2.2.2.1 h)
theorem St.gstr (S : St pt Y) {i : Nat} {x : PySem.Str} {z : List Nat} (h : pt.gstrs[i]? = some (x, z)) : (∃ t, Y.mg x = some (.str ⟨z.toArray⟩ t)) ∧ z.length ≤ 1000 ∧ z.all okCode = true := by
  obtain ⟨h1, h2⟩ := He.ba (all_at (p := chkS1 Y.K) S.cs.2.2.2.2.2.2.1 h)
  obtain ⟨h3, h4⟩ := He.ba h2
  exact ⟨He.str_ok S.kin S.ns h1, of_decide_eq_true h3, h4⟩
theorem kit_ok {K : PySem.W.Frag} {t u : Value} {b : Bool} (h : kitB K t u b = true) : PySem.W.kitOne K t u = some b := of_decide_eq_true h
structure ClF (pt : PT) (Y : Wd) (t : ClT) : Prop where
  gl : glB Y.K t.x = true
  cls : L2.Cls Y.K (He.ga Y.K t.x)
  ty : ClTy Y.K (He.ga Y.K t.x)
  nd : t.cl.fields.Nodup
  no : ∀ f ∈ t.cl.fields, L2.NoAttr Y.K (He.ga Y.K t.x) (nmOf pt.nms f)
  mkr : L2.Mk Y.K (He.ga Y.K t.x) (He.ma Y.K (He.ga Y.K t.x) "__init__")
  init : ∃ d, pt.defs[t.cl.init]? = some d ∧ d.pa = .me t.x "__init__"
  prop : ∀ p ∈ t.cl.props, propB Y.K (He.ga Y.K t.x) (nmOf pt.nms p.1) = true ∧ defAt pt p.2 (.prop t.x (nmOf pt.nms p.1)) 1 = true
  meth : ∀ p ∈ t.cl.meths, (He.Fa.meth t.x (nmOf pt.nms p.1)).ok Y.K = true ∧ ∃ d, pt.defs[p.2]? = some d ∧ d.pa = .me t.x (nmOf pt.nms p.1)
  cm : ∀ p ∈ t.cms, cmB Y.K (He.ga Y.K t.x) p.1 = true ∧ ∃ d, pt.defs[p.2]? = some d ∧ d.pa = .cm t.x p.1
theorem def_is {pt : PT} {i : Nat} {pa : Pa} (h : (match pt.defs[i]? with
    | some d => decide (d.pa = pa)
    | none => false) = true) : ∃ d, pt.defs[i]? = some d ∧ d.pa = pa := by
  cases e : pt.defs[i]? with
  | none => rw [e] at h; cases h
  | some d =>
    rw [e] at h
    exact ⟨d, rfl, of_decide_eq_true h⟩
theorem St.cl (S : St pt Y) {c : Nat} {t : ClT} (h : pt.cls[c]? = some t) : ClF pt Y t := by
  have h1 := (He.ba (all_at S.cs.2.2.1 h)).2
  obtain ⟨g1, h1⟩ := He.ba h1
  obtain ⟨g2, h1⟩ := He.ba h1
  obtain ⟨g3, h1⟩ := He.ba h1
  obtain ⟨g4, h1⟩ := He.ba h1
  obtain ⟨g5, h1⟩ := He.ba h1
  obtain ⟨g6, h1⟩ := He.ba h1
  obtain ⟨g7, h1⟩ := He.ba h1
  obtain ⟨g8, h1⟩ := He.ba h1
  obtain ⟨g9, g10⟩ := He.ba h1
  exact ⟨g1, He.cls_ok g2, clTy_ok (He.cls_ok g2) g3, of_decide_eq_true g4, fun f hf => He.noat_ok (List.all_eq_true.mp g5 f hf), He.mkr_ok g6, def_is g7, fun p hp => He.ba (List.all_eq_true.mp g8 p hp),
    fun p hp => ⟨(He.ba (List.all_eq_true.mp g9 p hp)).1, def_is (He.ba (List.all_eq_true.mp g9 p hp)).2⟩, fun p hp => ⟨(He.ba (List.all_eq_true.mp g10 p hp)).1, def_is (He.ba (List.all_eq_true.mp g10 p hp)).2⟩⟩
theorem St.t_cls (S : St pt Y) {c : Nat} {t : ClT} (h : pt.cls[c]? = some t) : Y.T.cls c = He.ga Y.K t.x := by rw [S.eT]; simp only [tbOf, h]
theorem St.ne (S : St pt Y) {c : Nat} {t : ClT} (h : pt.cls[c]? = some t) : PySem.W.findIn Y.K (.ref (Y.T.cls c)) "__ne__" = some (some (.builtin "object.__ne__")) := by
  rw [S.t_cls h]
  exact of_decide_eq_true (He.ba (all_at S.cs.2.2.1 h)).1
theorem St.t_nm (S : St pt Y) : Y.T.nm = nmOf pt.nms := by rw [S.eT]; rfl
theorem St.t_exc (S : St pt Y) {c : Nat} {t : XcT} (h : pt.exs[c]? = some t) : Y.T.exc c = He.ga Y.K t.x := by rw [S.eT]; simp only [tbOf, h]
theorem St.t_K (S : St pt Y) : Y.T.K = Y.K := by rw [S.eT]; rfl
end
/-- an error class's __init__ stores its one attribute -/
structure XcOk (pt : PT) (t : XcT) (f : Nm) : Prop where
  ex : ∃ (d : Df) (x1 x2 : PySem.Str) (p1 p2 p3 pos : Pos), pt.defs[t.init]? = some d ∧ d.body = [.Assign [.Attribute (.Name x1 p1) (nmOf pt.nms f) p3] (.Name x2 p2) pos] ∧ d.ps = [x1, x2] ∧ L2.FnScope [x1, x2] [x1, x2] d.scope ∧
    (x1 == ("__debug__" : PySem.Str)) = false ∧ (x1 == ("__classdict__" : PySem.Str)) = false ∧ (x2 == ("__debug__" : PySem.Str)) = false ∧ (x2 == ("__classdict__" : PySem.Str)) = false
def XOk (pt : PT) : Prop := ∀ t ∈ pt.exs, ∀ f, t.q.field = [f] → XcOk pt t f
/-- the facts at a level -/
structure Fs (pt : PT) (Y : Wd) (Γ : Ctx) (k : Nat) : Prop where
  st : St pt Y
  hx0 : Y.T.hx = none
  tb : ∀ i ∈ pt.tabs, LamX.TabB Y.base Y.mg (cAd Y.K (pt.dAd Y.K i)) (tabAd Y.K (pt.dAd Y.K i))
  xok : XOk pt
  pos : 1 ≤ k
  cls : Γ.cls = fun c => (pt.cls[c]?).map (·.cl)
  exs : Γ.exs = fun c => (pt.exs[c]?).map (·.q)
  fn : ∀ (i : Nat) (d : Df), pt.defs[i]? = some d → ∃ fd, FunD Y.K d.name d.qual d.params d.body d.scope [] [] (d.pa.ad Y.K) fd ∧ Binds Y.K fd d.ps [] ∧ FnG Y k (d.pa.ad Y.K) fd d.ps (Γ.call i)
  hotf : ∀ (i : Nat) (d : Df), pt.defs[i]? = some d → d.hot = true → ∀ fd, FunD Y.K d.name d.qual d.params d.body d.scope [] [] (d.pa.ad Y.K) fd → FnHot Y k (d.pa.ad Y.K) fd d.ps (Γ.call i)
  fnF : ∀ (i : Nat) (d : Df), pt.defs[i]? = some d → d.fre = true → ∀ fd, FunD Y.K d.name d.qual d.params d.body d.scope [] [] (d.pa.ad Y.K) fd → FnX true Y k (d.pa.ad Y.K) fd d.ps (Γ.call i)
/-- the world, an exception being handled -/
def Wd.hot (Y : Wd) (a : Addr) (dx : Option Addr) (cn : Nat) : Wd := { Y with T := Y.T.hot Y.xf a dx cn }
/-- what holds within a suite -/
structure FsH (pt : PT) (Y : Wd) (Γ : Ctx) (k : Nat) : Prop where
  st : St pt Y
  exs : Γ.exs = fun c => (pt.exs[c]?).map (·.q)
  fn : ∀ (i : Nat) (d : Df), pt.defs[i]? = some d → d.hot = true → ∃ fd, FunD Y.K d.name d.qual d.params d.body d.scope [] [] (d.pa.ad Y.K) fd ∧ Binds Y.K fd d.ps [] ∧ FnHot Y k (d.pa.ad Y.K) fd d.ps (Γ.call i)
theorem St.hot {pt : PT} {Y : Wd} (S : St pt Y) (a : Addr) (dx : Option Addr) (cn : Nat) : St pt (Y.hot a dx cn) := ⟨by
  show Tb.hot Y.T Y.xf a dx cn = _
  unfold Tb.hot
  conv => lhs; rw [S.eT]
  rfl, S.exf, S.kin, S.ns, S.says⟩
theorem Fs.hot {pt : PT} {Y : Wd} {Γ : Ctx} {k : Nat} (F : Fs pt Y Γ k) (a : Addr) (dx : Option Addr) (cn : Nat) : FsH pt (Y.hot a dx cn) Γ k := ⟨F.st.hot a dx cn, F.exs, fun i d h hd => by
  obtain ⟨fd, D, B, _⟩ := F.fn i d h
  exact ⟨fd, D, B, ⟨(F.hotf i d h hd fd D).run⟩⟩⟩
/-- the context within a suite, of a def's body that an exception was passed to -/
structure CxH (X : Cx) (Y : Wd) (N : List PySem.Str) (sc : Scope) (n : Nat) : Prop extends CxG X Y.T N sc n where
  fn : ∀ x, X.fn x = true
  hot : HotAt X Y.T Y.xf
  eP : X.prog = Y.P
  ew : X.w = Y.w
  eKY : X.K = Y.K
  em : X.mg = Y.mg
  eb : X.base = Y.base
section
variable {pt : PT} {Y : Wd} {Γ : Ctx} {k : Nat}
theorem mem_lookup {α β : Type} [BEq α] [LawfulBEq α] {a : α} {b : β} : ∀ {l : List (α × β)}, l.lookup a = some b → (a, b) ∈ l
  | [], h => by cases h
  | (x, y) :: r, h => by
    have h2 : (match a == x with | true => some y | false => r.lookup a) = some b := h
    cases q : (a == x) with
    | true =>
      rw [q] at h2
      have e : y = b := Option.some.inj h2
      rw [eq_of_beq q, e]
      exact List.mem_cons_self
    | false =>
      rw [q] at h2
      exact List.mem_cons_of_mem _ (mem_lookup h2)
theorem Fs.gc (F : Fs pt Y Γ k) {c : Nat} {q : Cl} (h : Γ.cls c = some q) : ∃ t, pt.cls[c]? = some t ∧ t.cl = q := by
  rw [F.cls] at h
  have h : (pt.cls[c]?).map (·.cl) = some q := h
  cases e : pt.cls[c]? with
  | none => rw [e] at h; cases h
  | some t =>
    rw [e] at h
    exact ⟨t, rfl, Option.some.inj h⟩
theorem Fs.at_x (F : Fs pt Y Γ k) {c : Nat} {t : XcT} (h : pt.exs[c]? = some t) : Γ.exs c = some t.q := by rw [F.exs]; simp only [h, Option.map_some]
theorem Fs.me (F : Fs pt Y Γ k) {c : Nat} {t : ClT} {d : Df} {m : Nm} {f : Nat} {np : Nat} (h : pt.cls[c]? = some t) (hm : t.cl.meths.lookup m = some f) (hd : pt.defs[f]? = some d) (hp : d.ps.length = np) : MeOk Y k c m (Γ.call f) np := by
  obtain ⟨h1, d', e1, e2⟩ := (F.st.cl h).meth _ (mem_lookup hm)
  rw [hd] at e1
  cases e1
  obtain ⟨fd, D, B, G0⟩ := F.fn _ d hd
  rw [e2] at G0
  exact ⟨_, fd, d.ps, by rw [F.st.t_cls h, F.st.t_nm]; exact He.meth_ok h1, G0, B, hp⟩
theorem Fs.cm (F : Fs pt Y Γ k) {c : Nat} {t : ClT} {d : Df} {x : PySem.Str} {f : Nat} {np : Nat} (h : pt.cls[c]? = some t) (hm : t.cms.lookup x = some f) (hd : pt.defs[f]? = some d) (hp : d.ps.length = np) : CmOk Y k c x (Γ.call f) np := by
  obtain ⟨h1, d', e1, e2⟩ := (F.st.cl h).cm _ (mem_lookup hm)
  rw [hd] at e1
  cases e1
  obtain ⟨fd, D, B, G0⟩ := F.fn _ d hd
  rw [e2] at G0
  obtain ⟨q1, q2⟩ := cm_ok h1
  exact ⟨_, _, _, fd, d.ps, by rw [F.st.t_cls h]; exact q1, by rw [F.st.t_cls h]; exact q2, G0, B, hp⟩
theorem Fs.isi (F : Fs pt Y Γ k) {i : Nat} {τ : Ty} (h : pt.tys[i]? = some τ) : IsOk Y.K Y.T Γ τ (tyV pt Y.K τ) := by
  have S := F.st
  have h1 := all_at S.cs.2.2.2.2.2.2.2 h
  obtain ⟨g1, h1⟩ := He.ba h1
  obtain ⟨g2, h1⟩ := He.ba h1
  obtain ⟨g3, h1⟩ := He.ba h1
  obtain ⟨g4, h1⟩ := He.ba h1
  obtain ⟨g5, h1⟩ := He.ba h1
  obtain ⟨g6, h1⟩ := He.ba h1
  obtain ⟨g8, g7⟩ := He.ba h1
  refine ⟨kit_ok g1, kit_ok g2, kit_ok g3, kit_ok g4, kit_ok g5, kit_ok g6, kit_ok g8, fun c q hc => ?_⟩
  obtain ⟨t, ht, rfl⟩ := F.gc hc
  refine ⟨by rw [S.t_cls ht]; exact (S.cl ht).ty, ?_⟩
  have hl : c < pt.cls.length := (List.getElem?_eq_some_iff.mp ht).1
  rw [S.eT]
  exact kit_ok (List.all_eq_true.mp g7 c (List.mem_range.mpr hl))
theorem Fs.fk (F : Fs pt Y Γ k) {i : Nat} {d : Df} {x : PySem.Str} (h : pt.defs[i]? = some d) (e : d.pa = .glo x) (hx : (x == ("__debug__" : PySem.Str)) = false) : ∃ fd, Fk Y x (d.pa.ad Y.K) fd d.ps ∧ FnG Y k (d.pa.ad Y.K) fd d.ps (Γ.call i) := by
  obtain ⟨fd, D, B, G0⟩ := F.fn i d h
  exact ⟨fd, ⟨F.st.fn_gl h e, D.kp, B, hx⟩, G0⟩
theorem Fs.err (F : Fs pt Y Γ k) {c : Nat} {t : XcT} {f : Nm} (h : pt.exs[c]? = some t) (hf : t.q.field = [f]) : ErrOk Y k (He.ga Y.K t.x) (nmOf pt.nms f) := by
  have S := F.st
  have h1 := all_at S.cs.2.2.2.1 h
  obtain ⟨g1, h1⟩ := He.ba h1
  obtain ⟨g2, h1⟩ := He.ba h1
  rw [hf] at h1
  obtain ⟨g3, h1⟩ := He.ba h1
  obtain ⟨g4, h1⟩ := He.ba h1
  obtain ⟨g5, h1⟩ := He.ba h1
  obtain ⟨d, x1, x2, p1, p2, p3, pos, hd, hb, hp, hsc, n1, n2, n3, n4⟩ := (F.xok t (List.mem_of_getElem? h) f hf).ex
  obtain ⟨d', e1, e2⟩ := def_is h1
  rw [hd] at e1
  cases e1
  obtain ⟨fd, D, B, _⟩ := F.fn _ d hd
  have Q := He.meth_ok g4
  rw [e2] at D
  obtain ⟨k', rfl⟩ : ∃ k', k = k' + 1 := ⟨k - 1, by have := F.pos; omega⟩
  obtain ⟨oc, od, dV, kV, doc, pm, an, cdv, ct, osl, rfl, lk, hcd, _, _⟩ := D.ex
  rw [hb] at lk B
  rw [hp] at B
  refine ⟨bId t.q.base, bNew t.q.base, bInit t.q.base, bMro t.q.base, _, _, x1, x2, exB t.q.base, exc_ok g2, He.eqO_ok g3, Q.at_, of_decide_eq_true g5, init_ok (k := k') (exB t.q.base) lk hcd hsc n1 n2 n3 n4, B⟩
end
/-- where a body stands -/
structure LmX (d : Df) (Y : Wd) (X : Cx) : Prop where
  qual : X.env.qual = d.qual ++ ".<locals>."
  code : X.env.code = codeAd Y.K (d.pa.ad Y.K)
  stk : X.stack = X.env :: X.outer
  frm : X.env.frame = some X.env.locals
structure DfOk (pt : PT) (d : Df) : Prop where
  sc : L2.FnScope d.N d.ps d.scope
  bd : ∀ (kV doc pm : Value) (an : Option Addr) (cdv ct : Value) (us : List Value), us.length = d.ps.length → bindArgs (PySem.W.fnOf d.name d.qual d.params d.body d.scope .none kV doc pm an cdv ct) ⟨us, []⟩ = pure (d.ps.zip us)
  ok : d.hot = false → ∀ (Y : Wd) (Γ : Ctx) (k : Nat) (X : Cx) (W : WX) (Ow0 : List Addr) (fr : Bool), (fr = true → d.fre = true) → Fs pt Y Γ k → CxS X ⟨Y.T, Y.xf, W, Ow0, fr⟩ d.N d.scope (k + 1) → CxY X Y W d.N d.scope (k + 1) → LmX d Y X → JSs X ⟨Y.T, Y.xf, W, Ow0, fr⟩ d.body (d.sem Γ)
  okh : d.hot = true → d.fre = false ∧ ∀ (Y : Wd) (Γ : Ctx) (k : Nat) (X : Cx) (Ow0 : List Addr), FsH pt Y Γ k → CxH X Y d.N d.scope (k + 1) → JSs X ⟨Y.T, Y.xf, W0, Ow0, false⟩ d.body (d.sem Γ)
/-- what no exception is passed to gives nothing -/
theorem runH_bad {np ns : Nat} {g : StS} {ds : List D} {st : Store} {T : Tb} {H : Hp} {ρ Ow : List Addr} {vs : List V} (r : RVs T H ρ Ow vs ds) : runH np ns g ds st = .bad := by
  cases r with
  | nil => rfl
  | cons r _ => cases r <;> rfl
theorem all_ok {pt : PT} (ok : ∀ d ∈ pt.defs, DfOk pt d) (xok : XOk pt) {Y : Wd} (S : St pt Y) (hx0 : Y.T.hx = none) (tb : ∀ i ∈ pt.tabs, LamX.TabB Y.base Y.mg (cAd Y.K (pt.dAd Y.K i)) (tabAd Y.K (pt.dAd Y.K i))) : ∀ n, Fs pt Y (pt.ctx (pt.call n)) (2 * n + 1)
  | 0 => by
    refine ⟨S, hx0, tb, xok, Nat.le_refl _, rfl, rfl, fun i d h => ?_, fun i d h _ fd D => ?_, fun i d h _ fd D => ?_⟩
    · obtain ⟨fd, D⟩ := S.fd h
      exact ⟨fd, D, D.bindsN (ok d (List.mem_of_getElem? h)).bd, ⟨fun A outer s H args us vs Q E _ _ _ _ _ _ ⟨_, _, _, _, _, _, p⟩ => p.elim⟩⟩
    · exact ⟨fun A outer s H args us vs Q a dx cn oe _ _ _ _ _ _ _ _ _ ⟨_, _, _, _, _, _, _, _, p⟩ => p.elim⟩
    · exact ⟨fun A outer s H args us vs Q E _ _ _ _ _ _ ⟨_, _, _, _, _, _, p⟩ => p.elim⟩
  | n + 1 => by
    have F := all_ok ok xok S hx0 tb n
    have call : ∀ (i : Nat) (d : Df), pt.defs[i]? = some d → (pt.ctx (pt.call (n + 1))).call i = d.run (pt.ctx (pt.call n)) := fun i d h => by
      show (match pt.defs[i]? with
        | some d => d.run (pt.ctx (pt.call n))
        | none => fun _ _ => G.O.bad) = _
      rw [h]
    have main : ∀ (fr : Bool) (i : Nat) (d : Df), pt.defs[i]? = some d → (fr = true → d.fre = true) → ∀ fd, FunD Y.K d.name d.qual d.params d.body d.scope [] [] (d.pa.ad Y.K) fd → FnX fr Y (2 * n + 2 + 1) (d.pa.ad Y.K) fd d.ps ((pt.ctx (pt.call (n + 1))).call i) := fun fr i d h hf fd D => by
      have O1 := ok d (List.mem_of_getElem? h)
      rw [call i d h]
      cases hh : d.hot with
      | true =>
        have e : d.run (pt.ctx (pt.call n)) = runH d.ps.length d.N.length (d.sem (pt.ctx (pt.call n))) := by unfold Df.run; rw [hh]
        rw [e]
        exact ⟨fun A outer s H args us vs Q E _ _ _ _ _ _ ⟨_, _, _, _, _, rs, p⟩ => by
          rw [runH_bad rs] at p
          exact p.elim⟩
      | false =>
        obtain ⟨oc, od, dV, kV, doc, pm, an, cdv, ct, osl, rfl, lk, hcd, _, _⟩ := D.ex
        refine fnX_of fr (g := d.sem (pt.ctx (pt.call n))) (m := d.N.length) lk hcd O1.sc rfl S.t_K.symm hx0 (fun ds st hl => ?_) fun X W Ow0 C eP ew eK em eb eq ec es ef => O1.ok hh Y _ (2 * n + 1) X W Ow0 fr hf F C (C.y eP ew eK em eb) ⟨eq, by rw [ec]; unfold codeAd; rw [lk], es, ef⟩
        have e : d.run (pt.ctx (pt.call n)) = runF d.ps.length d.N.length (d.sem (pt.ctx (pt.call n))) := by unfold Df.run; rw [hh]
        rw [e]
        unfold runF
        rw [if_pos hl]
        all_goals rfl
    refine ⟨S, hx0, tb, xok, Nat.le_add_left _ _, rfl, rfl, fun i d h => ?_, fun i d h hh fd D => ?_, fun i d h hf fd D => main true i d h (fun _ => hf) fd D⟩
    · obtain ⟨fd, D⟩ := S.fd h
      have O1 := ok d (List.mem_of_getElem? h)
      exact ⟨fd, D, D.bindsN O1.bd, (main false i d h (fun h => by cases h) fd D).g⟩
    · have O1 := ok d (List.mem_of_getElem? h)
      rw [call i d h]
      obtain ⟨oc, od, dV, kV, doc, pm, an, cdv, ct, osl, rfl, lk, hcd, _, _⟩ := D.ex
      refine fnHot_of (g := d.sem (pt.ctx (pt.call n))) (m := d.N.length) lk hcd O1.sc rfl S.t_K.symm (fun cn fs ds st hl => ?_) fun X a dx cn Ow0 C fn hot eP ew eK em eb => (O1.okh hh).2 (Y.hot a dx cn) _ (2 * n + 1) X Ow0 (F.hot a dx cn) ⟨C, fn, hot, eP, ew, eK, em, eb⟩
      have e : d.run (pt.ctx (pt.call n)) = runH d.ps.length d.N.length (d.sem (pt.ctx (pt.call n))) := by unfold Df.run; rw [hh]
      rw [e]
      unfold runH
      simp only [if_pos hl]
      all_goals rfl
end G
namespace G
open PySem PySem.Spec PyProof.Rows
open L2 (V Hp HO upd SqL SqT Rd VK XK TE TT TA TI TS TG TGs Ends WX Cx PE PT PA PI PS PSs PG PGs Inv OpR CallR RelV Vals R2 PC PW Gl Room FunD Binds PK)
section
variable {X : Cx} {Y : Wd} {W : WX} {N : List PySem.Str} {sc : Scope} {n k : Nat} {Γ : Ctx}
/-- the keywords' values -/
inductive JKs (X : Cx) (T : Tb) (xf : Nat → List Nm) (W : WX) : List Keyword → List PySem.Str → List G.Sem → Prop
  | nil : JKs X T xf W [] [] []
  | cons {x : PySem.Str} {e : Expr} {p : Pos} {s : G.Sem} {kws : List Keyword} {ks : List PySem.Str} {ss : List G.Sem} (j : JE X T xf W e s true) (js : JKs X T xf W kws ks ss) : JKs X T xf W (⟨some x, e, p⟩ :: kws) (x :: ks) (s :: ss)
theorem JKs.len {T : Tb} {xf : Nat → List Nm} : ∀ {kws : List Keyword} {ks : List PySem.Str} {ss : List G.Sem}, JKs X T xf W kws ks ss → ss.length = ks.length
  | _, _, _, .nil => rfl
  | _, _, _, .cons j js => by simp [js.len]
variable {x : PySem.Str} {f : Addr} {fd : FuncData} {ps ks : List PySem.Str} {c : Fd} {p pos : Pos} {kws : List Keyword} {ss : List G.Sem} {is : List Nat}
end
end G
namespace G
open PySem PySem.Spec PyProof.Rows
open L2 (V Hp HO upd SqL SqT Rd VK XK TE TT TA TI TS TG TGs Ends WX Cx PE PT PA PI PS PSs PG PGs Inv OpR CallR RelV Vals R2 PC PW Gl Room FunD Binds PK)
/-- a body's surroundings -/
structure En (pt : G.PT) (Y : Wd) (Γ : Ctx) (k : Nat) (N : List PySem.Str) (X : Cx) (W : WX) (sc : Scope) : Prop where
  F : Fs pt Y Γ k
  M : CxY X Y W N sc (k + 1)
def isRp : Bi → Bool
  | .repr => true
  | _ => false
def debB (x : PySem.Str) : Bool := !(x == ("__debug__" : PySem.Str))
def kindB (sc : Scope) (x : PySem.Str) (k : NameKind) : Bool := decide (sc.names.lookup x = some k)
def nmB (N : List PySem.Str) (sc : Scope) (i : Nat) (x : PySem.Str) : Bool := decide (N[i]? = some x) && ((kindB sc x .local || (kindB sc x .cell || kindB sc x .free)) && (debB x && !(x == ("__classdict__" : PySem.Str))))
def glbB (sc : Scope) (x : PySem.Str) : Bool := kindB sc x .globalImplicit
def locB (N : List PySem.Str) (sc : Scope) (i : Nat) (x : PySem.Str) : Bool := decide (N[i]? = some x) && (kindB sc x .local || kindB sc x .cell)
theorem nB {b : Bool} (h : (!b) = true) : b = false := by
  cases b with
  | true => cases h
  | false => rfl
theorem kind_ok {sc : Scope} {x : PySem.Str} {k : NameKind} (h : kindB sc x k = true) : sc.names.lookup x = some k := of_decide_eq_true h
theorem nm_ok {N : List PySem.Str} {sc : Scope} {i : Nat} {x : PySem.Str} (h : nmB N sc i x = true) : N[i]? = some x ∧ L2.Vis sc x ∧ (x == ("__debug__" : PySem.Str)) = false ∧ (x == ("__classdict__" : PySem.Str)) = false := by
  obtain ⟨h1, h⟩ := He.ba h
  obtain ⟨h2, h⟩ := He.ba h
  obtain ⟨h3, h4⟩ := He.ba h
  refine ⟨of_decide_eq_true h1, ?_, nB h3, nB h4⟩
  rcases Bool.or_eq_true_iff.mp h2 with h | h
  · exact .inl (kind_ok h)
  rcases Bool.or_eq_true_iff.mp h with h | h
  · exact .inr (.inl (kind_ok h))
  · exact .inr (.inr (kind_ok h))
section
variable {pt : G.PT} {Y : Wd} {Γ : Ctx} {k : Nat} {N : List PySem.Str} {X : Cx} {W : WX} {sc scope : Scope} {Ow0 : List Addr}
theorem En.c (E : En pt Y Γ k N X W sc) : CxG X Y.T N sc (k + 1) := E.M.toCxG
theorem En.cc (E : En pt Y Γ k N X W sc) : CxC X Y.T N sc (k + 1) := E.M.toCxC
theorem En.gl (E : En pt Y Γ k N X W sc) {x : PySem.Str} (h : glbB sc x = true) : Gl X x := by
  show X.env.scope.names.lookup x = some .globalImplicit
  rw [E.M.eS]
  exact kind_ok h
theorem En.mg0 (E : En pt Y Γ k N X W sc) {x : PySem.Str} (h : pt.free.contains x = true) : X.mg x = none := by rw [E.M.em]; exact E.F.st.free h
theorem Blk.cy {X' : Cx} (M : CxY X Y W N sc (k + 1)) (b : Blk X scope X') : CxY X' Y W0 N (L2.relS scope sc) (k + 1) := by
  have C := Blk.cx M.toCxC b
  obtain ⟨s, H, a, cl, fp, rfl⟩ := b
  exact ⟨C, M.eP, M.ew, M.eKY, M.em, M.eb, fun σ pins H s e s' I h => by
    obtain ⟨_, _, _, _, _, _, _, _, _, _, _, _, z⟩ := h
    exact z.elim⟩
theorem En.blk (E : En pt Y Γ k N X W sc) {X' : Cx} (b : Blk X scope X') : En pt Y Γ k N X' W0 (L2.relS scope sc) := ⟨E.F, Blk.cy E.M b⟩
variable (E : En pt Y Γ k N X W sc)
include E
variable {x : PySem.Str} {i j : Nat} {pos p p2 p3 apos cpos : Pos} {e a b c o : Expr} {es : List Expr} {s sa sb sc' so : G.Sem} {ss : List G.Sem} {str ra rb rc : Bool}
theorem r_v (h : nmB N sc i x = true) : JE X Y.T Y.xf W (.Name x pos) (vE i) true := je_v E.c (nm_ok h).1 (nm_ok h).2.1 (nm_ok h).2.2.1 (nm_ok h).2.2.2
theorem r_pk (h : nmB N sc i x = true) : JE X Y.T Y.xf W (.Name x pos) (pkE i) false := je_pk E.c (nm_ok h).1 (nm_ok h).2.1 (nm_ok h).2.2.1 (nm_ok h).2.2.2
theorem r_k {u : Const} {d : G.D} {m : Nat} (h : conD u = some d) : JE X Y.T Y.xf W (.Constant u m pos) (kE d) true := je_k E.c h
theorem r_gi {z : Int} (m : Nat) (h : pt.gints[m]? = some (x, z)) (hg : glbB sc x = true) (hd : debB x = true) : JE X Y.T Y.xf W (.Name x pos) (kE (.int z)) true := by
  obtain ⟨t, ht⟩ := E.F.st.gint h
  exact je_g (i := 0) E.c (E.gl hg) (by rw [E.M.em]; exact ht) (v := .int z) ⟨t, rfl⟩ (nB hd) fun _ _ _ => .int z
theorem r_gs {z : List Nat} (m : Nat) (h : pt.gstrs[m]? = some (x, z)) (hg : glbB sc x = true) (hd : debB x = true) : JE X Y.T Y.xf W (.Name x pos) (kE (.str z)) true := by
  obtain ⟨⟨t, ht⟩, h2, h3⟩ := E.F.st.gstr h
  exact je_g (i := 0) E.c (E.gl hg) (by rw [E.M.em]; exact ht) (v := .str ⟨z.toArray⟩) ⟨t, rfl⟩ (nB hd) fun _ _ _ => .str z (lim_k h2) h3
theorem r_op {op : Op2} {q : Operator} (h : binOf op = some q) (ja : JE X Y.T Y.xf W a sa ra) (jb : JE X Y.T Y.xf W b sb rb) : JE X Y.T Y.xf W (.BinOp a q b pos) (opE op sa sb) true := je_bin E.c h ja jb
theorem r_ix (hb : plainE b = true) (ja : JE X Y.T Y.xf W a sa ra) (jb : JE X Y.T Y.xf W b sb rb) : JE X Y.T Y.xf W (.Subscript a b pos) (opE .idx sa sb) true := je_ix E.c hb ja jb
theorem r_cmp {op : Op2} {q : CmpOp} (h : cmpOf op = some q) (hb : plainE b = true) (ja : JE X Y.T Y.xf W a sa ra) (jb : JE X Y.T Y.xf W b sb rb) : JE X Y.T Y.xf W (.Compare a [q] [b] pos) (opE op sa sb) true := je_cmp0 E.c h hb ja jb
theorem r_chain {op op2 : Op2} {q q2 : CmpOp} (h : cmpOf op = some q) (h' : cmpOf op2 = some q2) (hc : plainE c = true) (ja : JE X Y.T Y.xf W a sa ra) (jb : JE X Y.T Y.xf W b sb rb) (jc : JE X Y.T Y.xf W c sc' rc) :
    JE X Y.T Y.xf W (.Compare a [q, q2] [b, c] pos) (chE op op2 sa sb sc') true := je_chain E.c h h' hc ja jb jc
theorem r_no (ja : JE X Y.T Y.xf W a sa ra) : JE X Y.T Y.xf W (.UnaryOp .Not a pos) (Sem.no sa) true := je_no E.c ja
theorem r_neg (ja : JE X Y.T Y.xf W a sa ra) : JE X Y.T Y.xf W (.UnaryOp .USub a pos) (negE sa) true := je_neg E.c ja
theorem r_ifeS (jc : JE X Y.T Y.xf W c sc' rc) (ja : JE X Y.T Y.xf W a sa true) (jb : JE X Y.T Y.xf W b sb true) : JE X Y.T Y.xf W (.IfExp c a b pos) (Sem.ife sc' sa sb) true := je_ife E.c jc ja jb
theorem r_and (h : es.isEmpty = false) (js : JEs X Y.T Y.xf W es ss) : JE X Y.T Y.xf W (.BoolOp .And es pos) (Sem.bop true ss) true := je_bop true js (by intro z; rw [z] at h; cases h)
theorem r_or (h : es.isEmpty = false) (js : JEs X Y.T Y.xf W es ss) : JE X Y.T Y.xf W (.BoolOp .Or es pos) (Sem.bop false ss) true := je_bop false js (by intro z; rw [z] at h; cases h)
theorem r_tup {m : Nat} (hs : Nat.ble ss.length 1000 = true) (js : JEs X Y.T Y.xf W es ss) : JE X Y.T Y.xf W (.Tuple es m pos) (tupE ss) true := je_tup E.c (Nat.le_of_ble_eq_true hs) js
theorem r_lst (hs : Nat.ble ss.length 1000 = true) (js : JEs X Y.T Y.xf W es ss) : JE X Y.T Y.xf W (.List es pos) (lstE ss) true := je_lst E.c (Nat.le_of_ble_eq_true hs) js
theorem r_new (js : JEs X Y.T Y.xf W es ss) : JE X Y.T Y.xf W (.List es pos) (newE ss) true := je_new E.c js
theorem r_bi (f : Bi) (hf : isRp f = false) (hg : glbB sc (biNm f) = true) (hm : pt.free.contains (biNm f : PySem.Str) = true) (hne : es.isEmpty = false) (js : JWs X Y.T Y.xf W es ss) : JE X Y.T Y.xf W (.Call (.Name (biNm f) p) es [] pos) (biE f ss) true :=
  je_bi E.cc (by intro z; rw [z] at hf; cases hf) (E.gl hg) (E.mg0 hm) (by intro z; rw [z] at hne; cases hne) js
theorem r_repr (hg : glbB sc (biNm .repr) = true) (hm : pt.free.contains (biNm .repr : PySem.Str) = true) (hne : es.isEmpty = false) (js : JWs X Y.T Y.xf W es ss) : JE X Y.T Y.xf W (.Call (.Name (biNm .repr) p) es [] pos) (biE .repr ss) true :=
  je_biR (f := .repr) E.c (cr_repr E.c) (E.gl hg) (E.mg0 hm) (by intro z; rw [z] at hne; cases hne) js
theorem r_call (m : Nat) {d : Df} (h : pt.defs[m]? = some d) (e : d.pa = .glo x) (hd : debB x = true) (hg : glbB sc x = true) (hl : ss.length = d.ps.length) (js : JEs X Y.T Y.xf W es ss) : JE X Y.T Y.xf W (.Call (.Name x p) es [] pos) (callE (Γ.call m) ss) true := by
  obtain ⟨fd, B, G0⟩ := E.F.fk h e (nB hd)
  exact je_call E.M G0 (Nat.le_succ k) B (E.gl hg) hl js
/-- sorted(e, key=lambda x: ..) -/
def lamB (sc scope : Scope) (x : PySem.Str) : Bool := decide (scope.kind = .function) && (!scope.isCoroutine && (!scope.isGenerator && ((scope.names.all fun y => !decide (y.2 = .cell)) && ((scope.names.all fun y => !decide (y.2 = .free) || (kindB sc y.1 .cell || kindB sc y.1 .free)) && kindB scope x .local))))
omit E in
theorem lamB_ok {x : PySem.Str} (h : lamB sc scope x = true) : LamP sc scope ∧ scope.names.lookup x = some .local := by
  obtain ⟨h1, h⟩ := He.ba h
  obtain ⟨h2, h⟩ := He.ba h
  obtain ⟨h3, h⟩ := He.ba h
  obtain ⟨h4, h⟩ := He.ba h
  obtain ⟨h5, h6⟩ := He.ba h
  refine ⟨⟨of_decide_eq_true h1, nB h2, nB h3, fun y hy => of_decide_eq_false (nB (List.all_eq_true.mp h4 y hy)), fun y hy e => ?_⟩, kind_ok h6⟩
  have z := List.all_eq_true.mp h5 y hy
  rw [e] at z
  have z : (kindB sc y.1 .cell || kindB sc y.1 .free) = true := by simpa using z
  rcases Bool.or_eq_true_iff.mp z with z | z
  · exact .inl (kind_ok z)
  · exact .inr (kind_ok z)
theorem r_sortK {d : Df} (Z : LmX d Y X) (m : Nat) {kx : KX} {params : Arguments} {body : Expr} {lpos kpos : Pos} (ht : pt.tabs.contains m = true) (hd : pt.defs[m]? = some d) (hg : glbB sc "sorted" = true) (hm : pt.free.contains ("sorted" : PySem.Str) = true) (hs : lamB sc scope x = true)
    (hdef : defaultsOf params X.env = ([], [])) (hbind : ∀ (q : PySem.Str) (cl : List (PySem.Str × Addr)) (pm cv ctv : Value) (u : Value), bindArgs (PySem.W.kla_fn "<lambda>" q params body scope cl pm cv ctv) ⟨[u], []⟩ = pure [(x, u)])
    (lk : LK N sc scope x body kx) (h : plainE e = true) (j : JE X Y.T Y.xf W e s str) :
    JE X Y.T Y.xf W (.Call (.Name "sorted" p) [e] [⟨some "key", .Lambda params body scope lpos, kpos⟩] pos) (sortKE kx s) true := by
  have hm0 : m ∈ pt.tabs := by simpa using ht
  have S := E.F.st
  obtain ⟨h1, h2⟩ := He.ba S.chkT
  have h3 := List.all_eq_true.mp h1 m hm0
  obtain ⟨h4, h5⟩ := He.ba h3
  have ed : pt.dAd Y.K m = d.pa.ad Y.K := by unfold PT.dAd; rw [hd]
  have eq : pt.dQ m = lamQ d.qual := by unfold PT.dQ; rw [hd]
  have hc : X.env.code = .ref (cAd Y.K (pt.dAd Y.K m)) := by
    rw [Z.code, ← ed]
    unfold cAd
    cases hh : codeAd Y.K (pt.dAd Y.K m) with
    | ref c => rfl
    | _ => rw [hh] at h4; cases h4
  have hT : (tabAd Y.K (pt.dAd Y.K m), pt.dQ m) ∈ Y.T.tabs := by
    rw [S.eT]
    exact List.mem_map.mpr ⟨m, hm0, rfl⟩
  obtain ⟨hL, hx⟩ := lamB_ok hs
  exact je_sortK E.cc (by rw [E.M.eb, E.M.em]; exact E.F.tb m hm0) hc (by rw [Z.qual, eq]; rfl) hT (E.gl hg) (E.mg0 hm) hL hx hdef hbind lk h j
omit E in
theorem lk_p {x : PySem.Str} (h : kindB scope x .local = true) (hd : debB x = true) : LK N sc scope x (.Name x pos) .p := .p (kind_ok h) (nB hd)
def capB (N : List PySem.Str) (scope : Scope) (i : Nat) (y : PySem.Str) : Bool := decide (N[i]? = some y) && (kindB scope y .free && (debB y && !(y == ("__classdict__" : PySem.Str))))
omit E in
theorem lk_c {x y : PySem.Str} {i : Nat} (h : capB N scope i y = true) : LK N sc scope x (.Name y pos) (.c i) := by
  obtain ⟨h1, h⟩ := He.ba h
  obtain ⟨h2, h⟩ := He.ba h
  obtain ⟨h3, h4⟩ := He.ba h
  exact .c (of_decide_eq_true h1) (kind_ok h2) (nB h3) (nB h4)
omit E in
theorem lk_k {x : PySem.Str} {z : Int} {j : Nat} : LK N sc scope x (.Constant (.int z) j pos) (.k z) := .k
omit E in
theorem lk_ix {x : PySem.Str} {u v : KX} (hb : plainE b = true) (ja : LK N sc scope x a u) (jb : LK N sc scope x b v) : LK N sc scope x (.Subscript a b pos) (.ix u v) := .ix ja jb (plain_ix hb)
theorem r_index (hp : plainO o = true) (hl : (apos.endLine == pos.line) = true) (he : plainE e = true) (jo : JE X Y.T Y.xf W o so ra) (j : JE X Y.T Y.xf W e s str) : JE X Y.T Y.xf W (.Call (.Attribute o "index" apos) [e] [] pos) (indexE so s) true := je_index E.c hp hl he jo j
theorem r_lrng1 (hg : glbB sc "range" = true) (hm : pt.free.contains ("range" : PySem.Str) = true) (hg2 : glbB sc "list" = true) (hm2 : pt.free.contains ("list" : PySem.Str) = true) (h : plainE a = true) (j : JE X Y.T Y.xf W a s true) : JE X Y.T Y.xf W (.Call (.Name "list" p2) [.Call (.Name "range" p) [a] [] pos] [] cpos) (lrngE [s]) true := je_lrng1 E.c E.M.calm (E.gl hg) (E.mg0 hm) (E.gl hg2) (E.mg0 hm2) h j
/-- isinstance(e, T), T a built-in class -/
def tyNm : Ty → String
  | .int => "int" | .bool => "bool" | .str => "str" | .tuple => "tuple" | _ => ""
def tyBlt : Ty → Bool
  | .int | .bool | .str | .tuple => true
  | _ => false
omit E in
theorem ty_boot {τ : Ty} (h : tyBlt τ = true) : bootBuiltins (tyNm τ) = some (.type (tyNm τ)) ∧ (tyNm τ : PySem.Str) ≠ "__name__" ∧ ((tyNm τ : PySem.Str) == ("__debug__" : PySem.Str)) = false := by
  cases τ with
  | int => exact ⟨PyProof.Rows.boot_int, by decide, by decide⟩
  | bool => exact ⟨PyProof.Rows.boot_bool, by decide, by decide⟩
  | str => exact ⟨PyProof.Rows.boot_str, by decide, by decide⟩
  | tuple => exact ⟨PyProof.Rows.boot_tuple, by decide, by decide⟩
  | _ => cases h
theorem r_isi (τ : Ty) (m : Nat) (hτ : pt.tys[m]? = some τ) (hb : tyBlt τ = true) (hg : glbB sc "isinstance" = true) (hm : pt.free.contains ("isinstance" : PySem.Str) = true) (hg2 : glbB sc (tyNm τ) = true) (hm2 : pt.free.contains (tyNm τ : PySem.Str) = true) (h : plainE e = true) (j : JE X Y.T Y.xf W e s str) :
    JE X Y.T Y.xf W (.Call (.Name "isinstance" p) [e, .Name (tyNm τ) p2] [] pos) (isiE Γ s τ) true := by
  obtain ⟨h1, h2, h3⟩ := ty_boot hb
  have e1 : tyV pt Y.K τ = .type (tyNm τ) := by cases τ <;> first | rfl | cases hb
  exact je_isi E.M (by have q := E.F.isi hτ; rw [e1] at q; exact q) (c := .ty (tyNm τ)) (.ty _) (E.gl hg) (E.mg0 hm) h (L2.pe_bltn (E.gl hg2) (E.mg0 hm2) h1 rfl h2 h3) j
theorem r_sl {eo1 eo2 : Option Expr} {s1 s2 : List G.Sem} (j : JE X Y.T Y.xf W e s str) (jl : JP X Y.T Y.xf W eo1 s1) (jh : JP X Y.T Y.xf W eo2 s2) : JE X Y.T Y.xf W (.Subscript e (.Slice eo1 eo2 none p2) pos) (slE s s1 s2) true := je_sl E.c j jl jh
def okSep (x : List Nat) : Bool := decide (x.length ≤ 1000) && x.all okCode
theorem r_join (x : List Nat) {j0 : Nat} (hx : okSep x = true) (hl : (apos.endLine == pos.line) = true) (h : plainE e = true) (j : JE X Y.T Y.xf W e s str) : JE X Y.T Y.xf W (.Call (.Attribute (.Constant (.str ⟨x.toArray⟩) j0 p) "join" apos) [e] [] pos) (joinE x s) true :=
  je_join E.c ⟨lim_k (of_decide_eq_true (He.ba hx).1), (He.ba hx).2⟩ hl h j
variable {tg e2 : Expr} {elts : List Expr} {kk : Nat} {tpos : Pos} {t1 t2 : G.Sem}
theorem i_of (j : JE X Y.T Y.xf W e s str) : JI X Y.T Y.xf W tg e s str := ji_of j
theorem i_rng1 (hg : glbB sc "range" = true) (hm : pt.free.contains ("range" : PySem.Str) = true) (h : plainE a = true) (j : JE X Y.T Y.xf W a s true) : JI X Y.T Y.xf W tg (.Call (.Name "range" p) [a] [] pos) (rngE [s]) str := ji_rng1 E.c (E.gl hg) (E.mg0 hm) h j
theorem i_enum (hg : glbB sc "enumerate" = true) (hm : pt.free.contains ("enumerate" : PySem.Str) = true) (h : plainE e = true) (j : JE X Y.T Y.xf W e s str) : JI X Y.T Y.xf W (.Tuple elts kk tpos) (.Call (.Name "enumerate" p) [e] [] pos) (enumE s) str := ji_enum E.c (E.gl hg) (E.mg0 hm) h j
def pnB (N : List PySem.Str) (sc : Scope) (i : Nat) (x : PySem.Str) : Bool := decide (N[i]? = some x) && kindB sc x .local
theorem En.nml (h : pnB N sc i x = true) : NmL X x i := by
  obtain ⟨h1, h2⟩ := He.ba h
  have q : X.env.scope.names.lookup x = some .local := by rw [E.M.eS]; exact kind_ok h2
  exact ⟨by rw [E.M.eN]; exact E.M.nd, by rw [E.M.eN]; exact of_decide_eq_true h1, .inl q, .inr q⟩
theorem p_nm (h : pnB N sc i x = true) : PG X (.Name x pos) (tPt Y.T Ow0 (.nm i)) := pt_nm (E.nml h)
theorem p_tp {ps : List Pt} {m : Nat} (hp : es.all plainT = true) (hl : es.length = ps.length) (ts : PGs X es (tPts Y.T Ow0 ps)) : PG X (.Tuple es m pos) (tPt Y.T Ow0 (.tp ps)) := pt_tp E.M.calm E.M.eK hp hl ts
def blkB (N : List PySem.Str) (sc scope : Scope) (own : List (PySem.Str × Nat)) : Bool := decide (scope.kind = .function) && ((scope.names.all fun y => decide (scope.names.lookup y.1 = some y.2)) && ((own.all fun p => decide (N[p.2]? = some p.1)) &&
  ((scope.names.all fun y => !decide (y.2 = .free) || (kindB sc y.1 .cell || kindB sc y.1 .free)) && (scope.names.all fun y => !(decide (y.2 = .local) || decide (y.2 = .cell)) || ((own.map (·.1)).contains y.1 || !N.contains y.1)))))
omit E in
theorem blk_ok {own : List (PySem.Str × Nat)} (h : blkB N sc scope own = true) : L2.BlkOk N sc scope own := by
  obtain ⟨h1, h⟩ := He.ba h
  obtain ⟨h2, h⟩ := He.ba h
  obtain ⟨h3, h⟩ := He.ba h
  obtain ⟨h4, h5⟩ := He.ba h
  refine ⟨of_decide_eq_true h1, fun y hy => of_decide_eq_true (List.all_eq_true.mp h2 y hy), fun p hp => of_decide_eq_true (List.all_eq_true.mp h3 p hp), fun y hy e => ?_, fun y hy e => ?_⟩
  · have q := List.all_eq_true.mp h4 y hy
    rw [e] at q
    rcases Bool.or_eq_true_iff.mp q with q | q
    · simp at q
    · rcases Bool.or_eq_true_iff.mp q with q | q
      · exact .inl (kind_ok q)
      · exact .inr (kind_ok q)
  · have q := List.all_eq_true.mp h5 y hy
    rcases Bool.or_eq_true_iff.mp q with q | q
    · rcases e with e | e <;> rw [e] at q <;> simp at q
    · rcases Bool.or_eq_true_iff.mp q with q | q
      · exact .inl (by simpa using q)
      · exact .inr (by simpa using q)
def slotsB (p : Pt) (own : List (PySem.Str × Nat)) : Bool := (ptSlots p).all fun j => (own.map (·.2)).contains j
theorem lc_ok {elt iter : Expr} {ifs : List Expr} {sI sE : G.Sem} {p : Pt} {own : List (PySem.Str × Nat)} {rI : Bool} (hf : plainE iter = true) (hb : blkB N sc scope own = true) (hs : slotsB p own = true) (ji : JI X Y.T Y.xf W tg iter sI rI)
    (jt : ∀ X', En pt Y Γ k N X' W0 (L2.relS scope sc) → (∀ x, scope.names.lookup x = some .cell → X'.fn x = true) → PG X' tg (tPt Y.T [] p)) (jf : ∀ X', En pt Y Γ k N X' W0 (L2.relS scope sc) → JIf X' Y.T Y.xf W0 ifs ss) (je : ∀ X', En pt Y Γ k N X' W0 (L2.relS scope sc) → JE X' Y.T Y.xf W0 elt sE true) :
    LcOk X Y.T Y.xf W N sc scope elt tg iter ifs own sI sE p ss rI :=
  ⟨hf, blk_ok hb, ji, fun j hj => by simpa using List.all_eq_true.mp hs j hj, fun X' b => jt X' (E.blk b) (by
    obtain ⟨s, H, a, cl, fp, rfl⟩ := b
    intro x hx
    show (scope.names.lookup x == some .cell) = true
    rw [hx]; rfl), fun X' b => jf X' (E.blk b), fun X' b => je X' (E.blk b)⟩
theorem r_lc {elt iter : Expr} {ifs : List Expr} {sI sE : G.Sem} {p : Pt} {own : List (PySem.Str × Nat)} {rI : Bool} (L : LcOk X Y.T Y.xf W N sc scope elt tg iter ifs own sI sE p ss rI) :
    JE X Y.T Y.xf W (.ListComp elt [⟨tg, iter, ifs, 0⟩] scope pos) (lcE sI sE (own.map (·.2)) p ss) true := je_lc E.cc L
theorem r_nwLc {elt iter : Expr} {ifs : List Expr} {sI sE : G.Sem} {p : Pt} {own : List (PySem.Str × Nat)} {rI : Bool} (L : LcOk X Y.T Y.xf W N sc scope elt tg iter ifs own sI sE p ss rI) :
    JE X Y.T Y.xf W (.ListComp elt [⟨tg, iter, ifs, 0⟩] scope pos) (nwE (lcE sI sE (own.map (·.2)) p ss)) true := je_nw E.c lcV_sh (jf_lc E.cc L)
theorem f_list (hg : glbB sc "list" = true) (hm : pt.free.contains ("list" : PySem.Str) = true) (hne : es.isEmpty = false) (js : JWs X Y.T Y.xf W es ss) : JF X Y.T Y.xf W (.Call (.Name "list" p) es [] pos) (lsE (biE .list ss)) :=
  jf_list E.c (E.gl hg) (E.mg0 hm) (by intro z; rw [z] at hne; cases hne) js
theorem f_lst (hs : Nat.ble ss.length 1000 = true) (js : JEs X Y.T Y.xf W es ss) : JF X Y.T Y.xf W (.List es pos) (lstE ss) := jf_lst (Nat.le_of_ble_eq_true hs) js
theorem f_lc {elt iter : Expr} {ifs : List Expr} {sI sE : G.Sem} {p : Pt} {own : List (PySem.Str × Nat)} {rI : Bool} (L : LcOk X Y.T Y.xf W N sc scope elt tg iter ifs own sI sE p ss rI) :
    JF X Y.T Y.xf W (.ListComp elt [⟨tg, iter, ifs, 0⟩] scope pos) (lcE sI sE (own.map (·.2)) p ss) := jf_lc E.cc L
end
end G
namespace G
open PySem PySem.Spec PyProof.Rows
open L2 (V Hp HO upd SqL SqT Rd VK XK TE TT TA TI TS TG TGs Ends WX Cx PE PT PA PI PS PSs PG PGs Inv OpR CallR RelV Vals R2 PC PW Gl Room FunD Binds PK)
/-- a def's body's surroundings -/
structure Eb (pt : G.PT) (Y : Wd) (Γ : Ctx) (k : Nat) (N : List PySem.Str) (X : Cx) (W : WX) (sc : Scope) (Ow0 : List Addr) (fr : Bool) : Prop extends En pt Y Γ k N X W sc where
  S : CxS X ⟨Y.T, Y.xf, W, Ow0, fr⟩ N sc (k + 1)
theorem not_fr {d : Df} {fr : Bool} (h : d.fre = false) (hf : fr = true → d.fre = true) : fr = false := by
  cases fr with
  | false => rfl
  | true => rw [hf rfl] at h; cases h
/-- what swappedStores asks of the scope -/
def envS (sc : Scope) : PySem.Env := { (default : PySem.Env) with scope := sc }
theorem sw_env {ts : List Expr} {v : Expr} {env : PySem.Env} {sc : Scope} (h : env.scope = sc) : swappedStores ts v env = swappedStores ts v (envS sc) := by
  subst h
  unfold swappedStores
  rfl
theorem sw2_env {v : Expr} {t : Option Expr} {l : Nat} {env : PySem.Env} {sc : Scope} (h : env.scope = sc) : swapsWith v t l env = swapsWith v t l (envS sc) := by
  subst h
  unfold swapsWith
  rfl
theorem lst_sh {ss : List G.Sem} : ∀ env st d st', (lstE ss).val env st = .ok d st' → ∃ xs, d = .lst xs := fun env st d st' h => by
  have h : ((args ss env st).bind fun ds st => O.ok (G.D.lst ds) st) = .ok d st' := h
  cases e : args ss env st with
  | ok ds st1 => rw [e] at h; cases h; exact ⟨_, rfl⟩
  | ex c fs st1 => rw [e] at h; cases h
  | bad => rw [e] at h; cases h
theorem lc_sh {sI sE : G.Sem} {own : List Nat} {p : Pt} {ss : List G.Sem} : ∀ env st d st', (lcE sI sE own p ss).val env st = .ok d st' → ∃ xs, d = .lst xs := lcV_sh
section
variable {pt : G.PT} {Y : Wd} {Γ : Ctx} {k : Nat} {N : List PySem.Str} {X : Cx} {W : WX} {sc scope : Scope} {Ow0 : List Addr}
variable {fr : Bool} (B : Eb pt Y Γ k N X W sc Ow0 fr)
variable {x y z : PySem.Str} {i j l : Nat} {pos pos' p p2 p3 apos cpos : Pos} {e a b c o tg : Expr} {es vs : List Expr} {s sa sb sc' so : G.Sem} {ss : List G.Sem} {str ra rb rc : Bool} {f g : StS} {st : Stmt} {sts sts2 : List Stmt}
abbrev Eb.w (B : Eb pt Y Γ k N X W sc Ow0 fr) : WS := ⟨Y.T, Y.xf, W, Ow0, fr⟩
theorem Eb.nml {x : PySem.Str} {i : Nat} (B : Eb pt Y Γ k N X W sc Ow0 fr) (h : locB N sc i x = true) : NmL X x i := by
  obtain ⟨h1, h2⟩ := He.ba h
  refine ⟨by rw [B.M.eN]; exact B.M.nd, by rw [B.M.eN]; exact of_decide_eq_true h1, ?_, .inl (B.S.fn x)⟩
  unfold L2.Loc
  rw [B.M.eS]
  rcases Bool.or_eq_true_iff.mp h2 with h | h
  · exact .inl (kind_ok h)
  · exact .inr (kind_ok h)
include B
theorem s_nil : JSs X B.w [] passS := jss_nil
theorem s_cons (j : JS X B.w st f) (js : JSs X B.w sts g) : JSs X B.w (st :: sts) (seqS f g) := jss_cons j js
theorem s_bads : JSs X B.w sts badS := jss_bad
theorem s_frzs (i : Nat) (j : JSs X B.w sts f) : JSs X B.w sts (frzS i f) := jss_frz i j
theorem s_ret (hw : fr = false) (j : JE X Y.T Y.xf W e s true) : JS X B.w (.Return (some e) pos) (retS s) := js_ret hw j
theorem s_ex (h : noComp e = true) (j : JE X Y.T Y.xf W e s str) : JS X B.w (.Expr e pos) (exS s) := js_ex h j
theorem s_if (jc : JE X Y.T Y.xf W c s str) (ja : JSs X B.w sts f) (jb : JSs X B.w sts2 g) : JS X B.w (.If c sts sts2 pos) (ifS s f g) := js_if jc ja jb
theorem s_for {pt0 : Pt} (hf : plainE e = true) (j : JI X Y.T Y.xf W tg e s true) (t : PG X tg (tPt Y.T Ow0 pt0)) (jb : JSs X B.w sts f) : JS X B.w (.For tg e sts [] pos) (forS pt0 s f) := js_for B.S hf j t jb
theorem s_whl (jc : JE X Y.T Y.xf W c s str) (jb : JSs X B.w sts f) : JS X B.w (.While c sts [] pos) (whlS s f) := js_while B.S jc jb
theorem s_app (h : nmB N sc i x = true) (he : plainE e = true) (hl : (apos.endLine == cpos.line) = true) (j : JE X Y.T Y.xf W e s true) : JS X B.w (.Expr (.Call (.Attribute (.Name x p) "append" apos) [e] [] cpos) pos) (appS i s) :=
  js_app he hl (L2.pe_var (by rw [B.M.eN]; exact (nm_ok h).1) (by rw [B.M.eS]; exact (nm_ok h).2.1) (nm_ok h).2.2.1 (nm_ok h).2.2.2) j
theorem s_ins (h : nmB N sc i x = true) (ha : plainE a = true) (he : plainE e = true) (hl : (apos.endLine == cpos.line) = true) (ja : JE X Y.T Y.xf W a sa true) (j : JE X Y.T Y.xf W e s true) : JS X B.w (.Expr (.Call (.Attribute (.Name x p) "insert" apos) [a, e] [] cpos) pos) (insS i sa s) :=
  js_ins ha he hl (L2.pe_var (by rw [B.M.eN]; exact (nm_ok h).1) (by rw [B.M.eS]; exact (nm_ok h).2.1) (nm_ok h).2.2.1 (nm_ok h).2.2.2) ja j
theorem s_aug {op : Op2} {q : Operator} (h : locB N sc i x = true) (ho : (op = .add ∧ q = .Add) ∨ (op = .sub ∧ q = .Sub)) (j : JE X Y.T Y.xf W e s str) : JS X B.w (.AugAssign (.Name x p) q e pos) (augS i op s) := js_aug (B.nml h) ho j
theorem s_nm (h : locB N sc i x = true) (hc : noComp e = true) (j : JE X Y.T Y.xf W e s true) : JS X B.w (.Assign [.Name x p] e pos) (nmS i s) :=
  js_asg (noComp_swaps hc _ _ _) (.inl rfl) rfl j (jt_nm (B.nml h))
theorem s_own (h : locB N sc i x = true) (hc : noComp e = true) (j : JF X Y.T Y.xf W e s) : JS X B.w (.Assign [.Name x p] e pos) (ownS i s) := js_own (B.nml h) (noComp_swaps hc _ _ _) j
def lcB (sc scope : Scope) (y : PySem.Str) : Bool := decide (sc.kind = .function) && (kindB sc y .local && !(scope.names.any fun x => match x with
  | (n, k) => n == y && (k == NameKind.local || k == NameKind.cell)))
theorem sw_lc {elt : Expr} {gs : List Comprehension} {cp py : Pos} {y : PySem.Str} {n : Nat} (h : lcB sc scope y = true) (hl : (py.line == cp.line) = true) : swapsWith (.ListComp elt gs scope cp) (some (.Name y py)) n X.env = pure true := by
  obtain ⟨h1, h⟩ := He.ba h
  obtain ⟨h2, h3⟩ := He.ba h
  exact L2.sw_true (by rw [B.M.eS]; exact of_decide_eq_true h1) (by rw [B.M.eS]; exact kind_ok h2) hl (nB h3)
theorem s_lcN {elt iter : Expr} {ifs : List Expr} {sI sE : G.Sem} {p0 : Pt} {own : List (PySem.Str × Nat)} {rI : Bool} {py spos : Pos} (h : locB N sc i y = true) (hl : lcB sc scope y = true) (hl2 : (py.line == pos.line) = true) (L : LcOk X Y.T Y.xf W N sc scope elt tg iter ifs own sI sE p0 ss rI) :
    JS X B.w (.Assign [.Name y py] (.ListComp elt [⟨tg, iter, ifs, 0⟩] scope pos) spos) (nmS i (lcE sI sE (own.map (·.2)) p0 ss)) :=
  js_lcN B.S.toCxC (B.nml h) (by rw [B.M.eS]; exact kind_ok (He.ba (He.ba hl).2).1) (sw_lc B hl hl2) L
theorem p_nmB {pos : Pos} (h : locB N sc i x = true) : PG X (.Name x pos) (tPt Y.T Ow0 (.nm i)) := pt_nm (B.nml h)
theorem s_nmC (h : locB N sc i x = true) (hc : swapsWith e (some (.Name x p)) pos.line (envS sc) = pure false) (j : JE X Y.T Y.xf W e s true) : JS X B.w (.Assign [.Name x p] e pos) (nmS i s) :=
  js_asg ((sw2_env B.M.eS).trans hc) (.inl rfl) rfl j (jt_nm (B.nml h))
theorem t_nm (h : locB N sc i x = true) : JT X B.w (.Name x p) (nmT i) := jt_nm (B.nml h)
theorem t_osub (h : nmB N sc i x = true) (hb : plainE b = true) (j : JE X Y.T Y.xf W b sb true) : JT X B.w (.Subscript (.Name x p) b pos) (osubR i sb) :=
  jt_osub (L2.pe_var (by rw [B.M.eN]; exact (nm_ok h).1) (by rw [B.M.eS]; exact (nm_ok h).2.1) (nm_ok h).2.2.1 (nm_ok h).2.2.2) hb j
theorem t_sub (hb : plainE b = true) (ja : JE X Y.T Y.xf W a sa true) (j : JE X Y.T Y.xf W b sb true) : JT X B.w (.Subscript a b pos) (subR sa sb) := jt_sub hb ja j
theorem s_tg {f : D → StS} (hc : noComp e = true) (ht : isTup tg = false ∨ isTup e = false) (he : (assignEach [tg] X.env).map (·.2) = [assign tg X.env]) (j : JE X Y.T Y.xf W e s true) (t : JT X B.w tg f) : JS X B.w (.Assign [tg] e pos) (tgS f s) :=
  js_asg (noComp_swaps hc _ _ _) ht he j t
theorem s_unp {fs : List (D → StS)} {m : Nat} (hc : noComp e = true) (ht : isTup e = false) (j : JE X Y.T Y.xf W e s true) (t : JTs X B.w es fs) : JS X B.w (.Assign [.Tuple es m p] e pos) (unpS fs s) := js_unp B.S.toCxC hc ht j t
theorem s_asgn {fs : List (D → StS)} {m m2 : Nat} (hw : swappedStores [.Tuple es m p] (.Tuple vs m2 p2) (envS sc) = pure none) (hs : Nat.ble ss.length 1000 = true) (hl : fs.length = ss.length) (js : JEs X Y.T Y.xf W vs ss) (t : JTs X B.w es fs) : JS X B.w (.Assign [.Tuple es m p] (.Tuple vs m2 p2) pos) (asgnS fs ss) :=
  js_asgn B.S.toCxC ((sw_env B.M.eS).trans hw) (Nat.le_of_ble_eq_true hs) hl js t
theorem s_par2 {px py : Pos} {kt k2 : Nat} {oi oj : Bool} (hi : locB N sc i x = true) (hj : locB N sc j y = true) (hij : i ≠ j) (hx : kindB sc x .local = true) (hy : kindB sc y .local = true) (hw : swappedStores [.Tuple [.Name x px, .Name y py] kt p] (.Tuple [a, b] k2 p2) (envS sc) = pure (some [x, y])) (js : JOs X Y.T Y.xf W [oi, oj] [a, b] ss) :
    JS X B.w (.Assign [.Tuple [.Name x px, .Name y py] kt p] (.Tuple [a, b] k2 p2) pos) (parS [(oi, i), (oj, j)] ss) :=
  js_par2 B.S.calm (B.nml hi) (B.nml hj) hij (by rw [B.M.eS]; exact kind_ok hx) (by rw [B.M.eS]; exact kind_ok hy) ((sw_env B.M.eS).trans hw) js
theorem s_par3 {px py pz : Pos} {kt k2 : Nat} {oi oj ol : Bool} (hi : locB N sc i x = true) (hj : locB N sc j y = true) (hl : locB N sc l z = true) (hij : i ≠ j) (hil : i ≠ l) (hjl : j ≠ l) (hx : kindB sc x .local = true) (hy : kindB sc y .local = true) (hz : kindB sc z .local = true)
    (hw : swappedStores [.Tuple [.Name x px, .Name y py, .Name z pz] kt p] (.Tuple [a, b, c] k2 p2) (envS sc) = pure (some [x, y, z])) (js : JOs X Y.T Y.xf W [oi, oj, ol] [a, b, c] ss) :
    JS X B.w (.Assign [.Tuple [.Name x px, .Name y py, .Name z pz] kt p] (.Tuple [a, b, c] k2 p2) pos) (parS [(oi, i), (oj, j), (ol, l)] ss) :=
  js_par3 B.S.calm (B.nml hi) (B.nml hj) (B.nml hl) hij hil hjl (by rw [B.M.eS]; exact kind_ok hx) (by rw [B.M.eS]; exact kind_ok hy) (by rw [B.M.eS]; exact kind_ok hz) ((sw_env B.M.eS).trans hw) js
theorem s_parN {kt k2 : Nat} {ts : List (Bool × Nat)} (hw : swappedStores [.Tuple es kt p] (.Tuple vs k2 p2) (envS sc) = pure none) (hs : Nat.ble ts.length 1000 = true) (hn : NmLs X es ts) (js : JOs X Y.T Y.xf W (ts.map (·.1)) vs ss) : JS X B.w (.Assign [.Tuple es kt p] (.Tuple vs k2 p2) pos) (parS ts ss) :=
  js_parN B.S.calm ((sw_env B.M.eS).trans hw) (Nat.le_of_ble_eq_true hs) hn js
theorem s_raise (cc : Nat) {fn : Nm} {t : XcT} (h : pt.exs[cc]? = some t) (hf : t.q.field = [fn]) (hx : t.x = x) (hd : debB x = true) (hg : glbB sc x = true) (hpl : plainE e = true) (j : JE X Y.T Y.xf W e s true) :
    JS X B.w (.Raise (some (.Call (.Name x p) [e] [] cpos)) none pos) (raiseS Γ cc [s]) := by
  subst hx
  have h1 := all_at B.F.st.cs.2.2.2.1 h
  exact js_raise B.S B.M (B.F.at_x h) hf (by rw [B.F.st.exf]; simp only [xfOf, h, hf]) (by rw [B.F.st.t_nm]) (B.F.st.t_exc h) (B.F.err h hf) (Nat.le_refl _) (B.gl hg) (B.F.st.gl (He.ba h1).1) (nB hd) hpl j
end
end G
namespace G
open PySem PySem.Spec PyProof.Rows
open L2 (V Hp HO upd SqL SqT Rd VK XK TE TT TA TI TS TG TGs Ends WX Cx PE PT PA PI PS PSs PG PGs Inv OpR CallR RelV Vals R2 PC PW Gl Room FunD Binds PK Takes Zc)
structure EnH (pt : G.PT) (Y : Wd) (Γ : Ctx) (k : Nat) (N : List PySem.Str) (X : Cx) (sc : Scope) : Prop where
  F : FsH pt Y Γ k
  M : CxH X Y N sc (k + 1)
  on : pt.xon = true
section
variable {pt : G.PT} {Y : Wd} {Γ : Ctx} {k : Nat} {N : List PySem.Str} {X : Cx} {sc : Scope} {Ow0 : List Addr} {fr : Bool}
theorem EnH.c (E : EnH pt Y Γ k N X sc) : CxG X Y.T N sc (k + 1) := E.M.toCxG
theorem EnH.gl (E : EnH pt Y Γ k N X sc) {x : PySem.Str} (h : glbB sc x = true) : Gl X x := by
  show X.env.scope.names.lookup x = some .globalImplicit
  rw [E.M.eS]
  exact kind_ok h
theorem EnH.mg0 (E : EnH pt Y Γ k N X sc) {x : PySem.Str} (h : pt.free.contains x = true) : X.mg x = none := by rw [E.M.em]; exact E.F.st.free h
theorem EnH.nml (E : EnH pt Y Γ k N X sc) {x : PySem.Str} {i : Nat} (h : locB N sc i x = true) : NmL X x i := by
  obtain ⟨h1, h2⟩ := He.ba h
  refine ⟨by rw [E.M.eN]; exact E.M.nd, by rw [E.M.eN]; exact of_decide_eq_true h1, ?_, .inl (E.M.fn x)⟩
  unfold L2.Loc
  rw [E.M.eS]
  rcases Bool.or_eq_true_iff.mp h2 with h | h
  · exact .inl (kind_ok h)
  · exact .inr (kind_ok h)
variable (E : EnH pt Y Γ k N X sc)
include E
variable {x y : PySem.Str} {i j : Nat} {pos p p2 py apos cpos : Pos} {e a b c o : Expr} {es : List Expr} {s sa sb sc' : G.Sem} {ss : List G.Sem} {str ra rb rc : Bool} {f g : StS} {st : Stmt} {sts sts2 : List Stmt}
end
end G
namespace G
open PySem PySem.Spec PyProof.Rows
open L2 (V Hp HO upd SqL SqT Rd VK XK Inv RelV Vals Gl Room Env0 Mod HOk FunD Binds)
theorem law_glue {l : PySem.W.OpenLaw} {pt : PT} {nH n iL k : Nat} {q : Program} {loose : List PySem.Str} {XP : (PySem.Str → Option Value) → Heap → Prop} {d : DefRec} {dL : Df} {x : PySem.Str}
    (hn : l.most = some 63) (hdf : d.params.defaults = []) (hr : Room (2 * n + 1) callerA) (hL : pt.defs[iL]? = some dL) (pL : dL.pa = .glo d.name) (sL : dL.ps = [x])
    (ok : ∀ d ∈ pt.defs, DfOk pt d) (xok : XOk pt) (ht : ∀ ns : List Int, ns.length ≤ 63 → Trues (pt.call n iL) ns) :
    PySem.W.WalkO q loose XP (hookP nH pt).says l.row.toRowW d [] (fun f vs => PySem.call f vs) := by
  refine walk_ofG (x := x) (k := 2 * n + 1) (c := pt.call n iL) hn (by decide +kernel) hdf hr (fun w mg fa h Y hns hmg => ?_) ht
  obtain ⟨K, KX, says, htab⟩ := Y
  have S0 : St pt ⟨l.prog, w, K, mg, h, tbOf pt K, xfOf pt⟩ := ⟨rfl, rfl, KX, hns, says⟩
  have eg := S0.fn_gl hL pL
  have e2 : fa = dL.pa.ad K := by
    have := hmg.symm.trans eg
    cases this
    rfl
  subst e2
  obtain ⟨fd, D⟩ := S0.fd hL
  have hb := FunD.bindsA (ps := [x]) D (by have b := (ok dL (List.mem_of_getElem? hL)).bd; rw [sL] at b; exact b)
  obtain ⟨hc1, hc2⟩ := He.ba S0.chkT
  have Z : TabsAt h K (tbOf pt K) (pt.tabs.map fun i => (cAd K (pt.dAd K i), tabAd K (pt.dAd K i))) := by
    refine ⟨fun p hp => ?_, fun p hp => ?_, fun p hp => ?_, ?_, ?_⟩
    · obtain ⟨i, hi, rfl⟩ := List.mem_map.mp hp
      exact htab i hi
    · obtain ⟨i, hi, rfl⟩ := List.mem_map.mp hp
      have h3 := (He.ba (He.ba (List.all_eq_true.mp hc1 i hi)).2).2
      cases e : K.lookup (tabAd K (pt.dAd K i)) with
      | none => rfl
      | some o => exact absurd h3 (by show ¬ (match K.lookup (tabAd K (pt.dAd K i)) with | none => true | some _ => false) = true; rw [e]; simp)
    · obtain ⟨i, hi, rfl⟩ := List.mem_map.mp hp
      exact PySem.W.codeHd_of_K KX (He.ba (He.ba (List.all_eq_true.mp hc1 i hi)).2).1
    · simp only [tbOf, List.map_map]; rfl
    · have := of_decide_eq_true hc2
      rw [List.map_map]
      exact this
  refine ⟨K, tbOf pt K, xfOf pt, fd, _, KX, rfl, Z, fun s u => hb s [u] rfl, fun base KB hbs TB => ?_⟩
  have S : St pt ⟨l.prog, w, K, mg, base, tbOf pt K, xfOf pt⟩ := ⟨rfl, rfl, KB, hbs, says⟩
  obtain ⟨fd2, D2, _, G0⟩ := (all_ok ok xok S rfl (fun i hi => TB (cAd K (pt.dAd K i), tabAd K (pt.dAd K i)) (List.mem_map.mpr ⟨i, hi, rfl⟩)) n).fn iL dL hL
  obtain ⟨oc, od, dV, kV, doc, pm, an, cdv, ct, osl, rfl, lk, _⟩ := D.ex
  obtain ⟨oc2, od2, dV2, kV2, doc2, pm2, an2, cdv2, ct2, osl2, rfl, lk2, _⟩ := D2.ex
  have el := lk.symm.trans lk2
  rw [sL] at G0
  injection el with el
  injection el with _ _ e3
  injection e3 with e3
  rw [e3]
  exact G0
theorem al_nil {α : Type} {P : α → Prop} : ∀ d ∈ ([] : List α), P d := fun _ h => by cases h
theorem al_cons {α : Type} {P : α → Prop} {a : α} {l : List α} (h : P a) (hs : ∀ d ∈ l, P d) : ∀ d ∈ a :: l, P d := fun d hd => by
  rcases List.mem_cons.mp hd with e | hd
  · rw [e]; exact h
  · exact hs d hd
end G
namespace G
open PySem PySem.Spec PyProof PyProof.Rows
end G
namespace G
open PySem PySem.Spec PyProof.Rows
open L2 (V Hp HO upd SqL SqT Rd VK XK TE TT TA TI TS TG TGs Ends WX Cx PE PT PA PI PS PSs PG PGs Inv OpR CallR RelV Vals R2 PC PW Gl)
end G
namespace G
open PySem PySem.Spec PyProof.Rows
open L2 (V Hp HO upd SqL SqT Rd VK XK TE TT TA TI TS TG TGs Ends WX Cx PE PT PA PI PS PSs PG PGs Inv OpR CallR RelV Vals R2 PC PW Gl)
section
variable {X : Cx} {T : Tb} {xf : Nat → List Nm} {W : WX} {N : List PySem.Str} {sc : Scope} {n : Nat} {e k a b : Expr} {p2 pos pos' : Pos} {str : Bool} {s t sa sb : G.Sem}
theorem keyD_ok (k : L2.Key) : keyOk (keyD k) = true := by cases k <;> rfl
theorem keyD_inj {a b : L2.Key} (h : keyD a = keyD b) : a = b := by
  cases a <;> cases b <;> simp [keyD] at h
  · rw [h]
  · rename_i x y
    congr 1
    cases x with | mk u => cases y with | mk v =>
    simpa using h
theorem pyEq_keyD {a b : L2.Key} : pyEq (keyD a) (keyD b) = decide (a = b) := by
  have : pyEq (keyD a) (keyD b) = true ↔ a = b := by
    constructor
    · intro h
      apply keyD_inj
      cases a <;> cases b <;> simp [keyD, pyEq] at h ⊢ <;> exact h
    · rintro rfl
      cases a <;> simp [keyD, pyEq]
  rw [Bool.eq_iff_iff, this, decide_eq_true_iff]
theorem pyEqs_keyD : ∀ {a b : List L2.Key}, pyEqs (a.map keyD) (b.map keyD) = decide (a = b)
  | [], [] => rfl
  | [], _ :: _ => rfl
  | _ :: _, [] => rfl
  | x :: a, y :: b => by
    show (pyEq (keyD x) (keyD y) && pyEqs (a.map keyD) (b.map keyD)) = _
    rw [pyEq_keyD, pyEqs_keyD]
    by_cases h1 : x = y <;> by_cases h2 : a = b <;> simp [h1, h2]
theorem key_of_rv {H : Hp} {ρ Ow : List Addr} {v : V} {d : D} (h : keyOk d = true) (r : RV T H ρ Ow v d) : ∃ k : L2.Key, d = keyD k ∧ v = L2.kV k := by
  cases d with
  | int i => cases r; exact ⟨.inl i, rfl, rfl⟩
  | str x => cases r; exact ⟨.inr ⟨x.toArray⟩, rfl, rfl⟩
  | _ => cases h
theorem keys_of_rv {H : Hp} {ρ Ow : List Addr} : ∀ {ds : List D} {vs : List V}, ds.all keyOk = true → RVs T H ρ Ow vs ds → ∃ kk : List L2.Key, ds = kk.map keyD ∧ vs = kk.map L2.kV
  | [], _, _, .nil => ⟨[], rfl, rfl⟩
  | d :: ds, _, h, .cons r rs => by
    rw [List.all_cons, Bool.and_eq_true] at h
    obtain ⟨k, rfl, rfl⟩ := key_of_rv h.1 r
    obtain ⟨kk, rfl, rfl⟩ := keys_of_rv h.2 rs
    exact ⟨k :: kk, rfl, rfl⟩
theorem valV_dic {kk : List (List L2.Key)} {k : List L2.Key} : (L2.valV (dicKV kk) k).isSome = kk.any fun z => decide (z = k) := by
  rw [← L2.valV_any]
  unfold dicKV
  rw [List.any_map]; rfl
theorem any_dic {kk : List (List L2.Key)} {k : List L2.Key} : ((dicD kk).any fun z => pyEqs z (k.map keyD)) = kk.any fun z => decide (z = k) := by
  unfold dicD
  rw [List.any_map]
  congr 1
  funext z
  exact pyEqs_keyD
theorem put_dic {kk : List (List L2.Key)} {k : List L2.Key} : ∃ kk' : List (List L2.Key), L2.putK (dicKV kk) k (.bl true) = dicKV kk' ∧ putK (dicD kk) (k.map keyD) = dicD kk' := by
  unfold L2.putK putK
  rw [any_dic]
  have e : ((dicKV kk).any fun kv => decide (kv.1 = k)) = kk.any fun z => decide (z = k) := by
    unfold dicKV
    rw [List.any_map]; rfl
  rw [e]
  by_cases h : (kk.any fun z => decide (z = k)) = true
  · rw [if_pos h, if_pos h]
    refine ⟨kk, ?_, rfl⟩
    unfold dicKV
    rw [List.map_map]
    refine List.map_congr_left fun z _ => ?_
    show (if z = k then (z, V.bl true) else (z, V.bl true)) = _
    split <;> rfl
  · rw [if_neg h, if_neg h]
    exact ⟨kk ++ [k], by unfold dicKV; rw [List.map_append]; rfl, by unfold dicD; rw [List.map_append]; rfl⟩
/-- a key by values: a new tuple -/
def tKey (T : Tb) (xf : Nat → List Nm) (W : WX) (f : Env → Store → O D) : TE := fun σ H Q => At T xf W f (fun d ρ Ow H' => ∀ (kk : List L2.Key) (b : Addr), d = .tup (kk.map keyD) → H' b = none → Q (.ref b) (upd H' b (.tup (kk.map L2.kV)))) σ H
/-- an expression that makes a key -/
def JK (X : Cx) (T : Tb) (xf : Nat → List Nm) (W : WX) (e : Expr) (s : G.Sem) : Prop := PE X e (tKey T xf W (keyV s))
theorem jk_tup {es : List Expr} {ss : List G.Sem} {k : Nat} (hs : ss.length ≤ 1000) (js : JEs X T xf W es ss) : JK X T xf W (.Tuple es k pos) (tupE ss) := by
  refine PE.imp (L2.pe_tup (pa_args js)) fun σ H Q ⟨env, st, ρ, Ow, en, sr, po⟩ => ?_
  have po2 := Post.bind (Post.bind po)
  refine ⟨env, st, ρ, Ow, en, sr, po2.eqn.mono fun ds st1 H1 ρ1 e1 s1 q vs rs => ?_⟩
  obtain ⟨eq, q⟩ := q
  have hz : vs.length ≤ LIM := lim_k (by rw [rs.length, args_len eq]; exact hs)
  refine ⟨lim_len hz, fun p hp => ?_⟩
  have q1 := Post.ok s1 q
  by_cases hk : ds.all keyOk = true
  · obtain ⟨kk, e1, e2⟩ := keys_of_rv hk rs
    have hks : (keyL (.tup ds)).isSome = true := by
      show (if ds.all keyOk = true then some ds else none).isSome = true
      rw [if_pos hk]; rfl
    rw [if_pos hks] at q1
    have q2 := Post.ok s1 q1
    rw [e2]
    exact q2 kk p (by rw [e1]) hp
  · have hks : ¬ (keyL (.tup ds)).isSome = true := by
      show ¬ (if ds.all keyOk = true then some ds else none).isSome = true
      rw [if_neg hk]; simp
    rw [if_neg hks] at q1
    exact q1.elim
theorem je_dic (C : CxG X T N sc n) : JE X T xf W (.Dict [] [] pos) dicE true :=
  .of C (PE.imp L2.pe_dnewT fun σ H Q ⟨env, st, ρ, Ow, en, sr, po⟩ => fun p hp => by
    have e := Ext.newS (ρ := ρ) (o := HO.dT []) hp
    exact po _ (ρ ++ [p]) e (sr.push hp ⟨[], rfl, Nat.zero_le _, L2.upd_same⟩) _ (.loc (by rw [← sr.len, List.getElem?_concat_length])))
theorem keyL_key {kk : List L2.Key} : keyL (.tup (kk.map keyD)) = some (kk.map keyD) := by
  show (if (kk.map keyD).all keyOk = true then some (kk.map keyD) else none) = _
  rw [if_pos (by rw [List.all_map, List.all_eq_true]; exact fun k _ => keyD_ok k)]
theorem dic_get {H : Hp} {a : Addr} {z : Bool} {kk : List (List L2.Key)} {k : List L2.Key} {b : Addr} (h : dicO H a z kk) (hb : H b = some (.tup (k.map L2.kV))) : L2.DGet H a (.ref b) (L2.valV (dicKV kk) k) := by
  refine .inr ⟨dicKV kk, k, b, ?_, rfl, hb, rfl⟩
  cases z with
  | false => exact .inl h
  | true => exact .inr h
/-- the reading of k in d -/
theorem dhas_go {neg : Bool} {σ : L2.St} {H : Hp} {Q : VK} (q : tVal T xf W true (fun env st => (keyV sa env st).bind fun x st => (sb.val env st).bind fun y st => dhasV neg x y st) σ H Q) :
    tKey T xf W (keyV sa) σ H fun y H1 => tVal T xf W true sb.val σ H1 fun x H2 => ∃ a o, x = .ref a ∧ L2.DGet H2 a y o ∧ Q (.bl (o.isSome != neg)) H2 := by
  obtain ⟨env, st, ρ, Ow, en, sr, po⟩ := q
  refine ⟨env, st, ρ, Ow, en, sr, (Post.bind po).mono fun d st1 H1 ρ1 e1 s1 q kk b ed hb => ?_⟩
  subst ed
  have e2 := Ext.new (ρ := ρ1) (o := HO.tup (kk.map L2.kV)) hb
  have s2 := s1.new (o := HO.tup (kk.map L2.kV)) hb
  have hb2 : b ∉ ρ1 := (s1.fresh hb).1
  have q' := Post.later e2 q
  refine ⟨env, st1, ρ1, Ow, (en.ext e1 sr.disj).ext e2 s1.disj, s2, (Post.bind q').mono fun y st3 H3 ρ3 e3 s3 q3 v r => ?_⟩
  have hb3 : H3 b = some (.tup (kk.map L2.kV)) := (e3.keep b _ L2.upd_same hb2).1
  cases y with
  | loc l =>
    have r' : RV T H3 ρ3 Ow v (.loc l) := r
    cases r' with
    | loc ha =>
      rename_i a
      have q4 : Post ⟨T, xf, W, σ⟩ H3 ρ3 Ow (fun d _ H' ρ' => ∀ v, RX true T H' ρ' Ow v d → Q v H') (match st3[l]? with
        | some (.dic _ ks) => .ok (.bl ((ks.any fun z => pyEqs z (kk.map keyD)) != neg)) st3
        | _ => .bad) := by
        have := q3
        unfold dhasV at this
        rw [keyL_key] at this
        exact this
      cases hs : st3[l]? with
      | none => rw [hs] at q4; exact q4.elim
      | some ob =>
        cases ob with
        | lst xs => rw [hs] at q4; exact q4.elim
        | ins c fs => rw [hs] at q4; exact q4.elim
        | dic z ks =>
          rw [hs] at q4
          obtain ⟨kk2, rfl, hz, hd⟩ := s3.at_ l a _ ha hs
          refine ⟨a, _, rfl, dic_get hd hb3, ?_⟩
          have q5 := Post.ok s3 q4
          rw [any_dic, ← valV_dic] at q5
          exact q5 _ (.bl _)
  | _ => first | exact q3.elim | (unfold dhasV at q3; rw [keyL_key] at q3; exact q3.elim)
theorem tst_bl {f : Env → Store → O D} (hf : ∀ env st d st', f env st = .ok d st' → ∃ k, d = .bl k) {σ : L2.St} {H : Hp} {Q : Bool → Hp → Prop} (q : tTst T xf W (G.Sem.of f).test σ H Q) : tVal T xf W true f σ H fun x H1 => ∃ c, x = .bl c ∧ Q c H1 := by
  obtain ⟨env, st, ρ, Ow, en, sr, p⟩ := q
  have p1 := Post.bind p
  refine ⟨env, st, ρ, Ow, en, sr, ?_⟩
  have key : ∀ o : O D, (∀ d st', o = .ok d st' → ∃ k, d = .bl k) → Post ⟨T, xf, W, σ⟩ H ρ Ow (fun d st1 H1 ρ1 => Post ⟨T, xf, W, σ⟩ H1 ρ1 Ow (fun b _ H' _ => Q b H') (O.of (truth st1 d) st1)) o →
      Post ⟨T, xf, W, σ⟩ H ρ Ow (fun d _ H' ρ' => ∀ v, RX true T H' ρ' Ow v d → ∃ k, v = V.bl k ∧ Q k H') o := fun o hk p => by
    cases o with
    | ok d st1 =>
      obtain ⟨k, rfl⟩ := hk d st1 rfl
      intro H' ρ' e s v r
      cases r
      exact ⟨k, rfl, Post.ok s (p H' ρ' e s)⟩
    | ex c fs st1 => exact p
    | bad => exact p
  exact key _ (fun d st' hd => hf env st d st' hd) p1
theorem dhas_bl {neg : Bool} : ∀ (env : Env) (st : Store) (d : D) (st' : Store), (dhasE neg sa sb).val env st = .ok d st' → ∃ k, d = .bl k := by
  intro env st d st' h
  have h : ((keyV sa env st).bind fun x st => (sb.val env st).bind fun y st => dhasV neg x y st) = .ok d st' := h
  cases h1 : keyV sa env st with
  | ok x s1 =>
    rw [h1] at h
    have h : ((sb.val env s1).bind fun y st => dhasV neg x y st) = .ok d st' := h
    cases h2 : sb.val env s1 with
    | ok y s2 =>
      rw [h2] at h
      have h : dhasV neg x y s2 = .ok d st' := h
      unfold dhasV at h
      split at h
      · split at h
        · cases h; exact ⟨_, rfl⟩
        · cases h
      · cases h
    | ex _ _ _ => rw [h2] at h; cases h
    | bad => rw [h2] at h; cases h
  | ex _ _ _ => rw [h1] at h; cases h
  | bad => rw [h1] at h; cases h
theorem dhas_w {neg : Bool} {f : Option V → Bool} (hf : ∀ o : Option V, f o = (o.isSome != neg)) {σ : L2.St} {H : Hp} {Q : VK} (q : tVal T xf W true (dhasE neg sa sb).val σ H Q) :
    tKey T xf W (keyV sa) σ H fun y H1 => tVal T xf W true sb.val σ H1 fun x H2 => ∃ a o, x = .ref a ∧ L2.DGet H2 a y o ∧ Q (.bl (f o)) H2 := by
  obtain ⟨env, st, ρ, Ow, en, sr, po⟩ := dhas_go q
  refine ⟨env, st, ρ, Ow, en, sr, po.mono fun d st1 H1 ρ1 e1 s1 q kk b ed hb => ?_⟩
  obtain ⟨env, st, ρ, Ow, en, sr, po⟩ := q kk b ed hb
  refine ⟨env, st, ρ, Ow, en, sr, po.mono fun d st1 H1 ρ1 e1 s1 q v r => ?_⟩
  obtain ⟨a, o, h1, h2, h3⟩ := q v r
  exact ⟨a, o, h1, h2, by rw [hf]; exact h3⟩
theorem je_dhas (C : CxG X T N sc n) (hb : plainE b = true) (ja : JK X T xf W a sa) (jb : JE X T xf W b sb true) : JE X T xf W (.Compare a [.In] [b] pos) (dhasE false sa sb) true := by
  have hu := C.rm.un
  have i : ∀ σ H Q, tVal T xf W true (dhasE false sa sb).val σ H Q → L2.tDIn (tKey T xf W (keyV sa)) (tVal T xf W true sb.val) σ H Q := fun σ H Q q => dhas_w (f := fun o => o.isSome) (by simp) q
  refine ⟨PE.imp (L2.pe_cmp (L2.pc_din (by omega) ja jb.val) (plain_marks hb _)) i, ?_, fun tg => items_of C (PE.imp (L2.pe_cmp (L2.pc_din (by omega) ja jb.val) (plain_marks hb _)) i)⟩
  exact PT.imp (L2.pt_cmp (L2.pc_din (by omega) ja jb.val) (plain_marks hb _)) fun σ H Q q => i σ H _ (tst_bl dhas_bl q)
end
section
variable {X : Cx} {w : WS} {N : List PySem.Str} {sc : Scope} {n j0 : Nat} {a b : Expr} {pos pos' pos2 : Pos} {sa sb : G.Sem}
theorem js_dput (C : CxC X w.T N sc n) (ja : JE X w.T w.xf w.W a sa true) (jb : JK X w.T w.xf w.W b sb) : JS X w (.Assign [.Subscript a b pos'] (.Constant (.bool true) j0 pos2) pos) (dputS sa sb) := by
  have hu := C.rm.un
  refine PS.imp (L2.ps_dput (by omega) ja.val jb L2.pe_bl (by rfl)) fun Z σ H ⟨env, st, ρ, Ow, fr, p⟩ => ?_
  refine ⟨env, st, ρ, Ow, fr.en, fr.sr, (PostR.run fr p).mono fun dx st1 H1 ρ1 e1 s1 q o ro => ?_⟩
  obtain ⟨f1, q⟩ := q
  refine ⟨env, st1, ρ1, Ow, f1.en, f1.sr, (PostR.run f1 q).mono fun dk st2 H2 ρ2 e2 s2 q2 kk b ed hb => ?_⟩
  obtain ⟨f2, q2⟩ := q2
  subst ed
  have e3 := Ext.new (ρ := ρ2) (o := HO.tup (kk.map L2.kV)) hb
  have f3 := f2.ext e3 (s2.new (o := HO.tup (kk.map L2.kV)) hb)
  have hb2 : b ∉ ρ2 := (s2.fresh hb).1
  have ro2 : RV w.T _ ρ2 Ow o dx := (ro.ext e2).ext e3
  cases dx with
  | loc l =>
    cases ro2 with
    | loc ha =>
      rename_i a
      have q3 : PostR w H2 ρ2 Ow Z (match st2[l]? with
        | some (.dic false ks) => if ks.length < LIM then .nx env (st2.set l (.dic false (putK ks (kk.map keyD)))) else .bad
        | _ => .bad) := by
        have := q2
        unfold dputV at this
        rw [keyL_key] at this
        exact this
      cases hs : st2[l]? with
      | none => rw [hs] at q3; exact q3.elim
      | some ob =>
        cases ob with
        | lst xs => rw [hs] at q3; exact q3.elim
        | ins c fs => rw [hs] at q3; exact q3.elim
        | dic z ks =>
          rw [hs] at q3
          cases z with
          | true => exact q3.elim
          | false =>
          have q4 : PostR w H2 ρ2 Ow Z (if ks.length < LIM then .nx env (st2.set l (.dic false (putK ks (kk.map keyD)))) else .bad) := q3
          split at q4
          · rename_i hl
            obtain ⟨kk2, rfl, hz, hd⟩ := f3.sr.at_ l a _ ha hs
            have hd : upd H2 b (.tup (kk.map L2.kV)) a = some (.dT (dicKV kk2)) := hd
            obtain ⟨kk3, g1, g2⟩ := put_dic (kk := kk2) (k := kk)
            rw [g2] at q4
            have hlen : (dicD kk3).length ≤ LIM := by
              rw [← g2]
              unfold putK
              split
              · exact hz
              · rw [List.length_append]; exact hl
            have hlen2 : (dicKV kk2).length < sizeLine := by
              unfold dicD at hl
              unfold dicKV
              rw [← lim_line]
              simpa using hl
            obtain ⟨stp, f4⟩ := f3.updSt (o := .dT (dicKV kk3)) (ob := .dic false (dicD kk3)) ha (fun ob u z => by rw [hd] at z; cases z) ⟨kk3, rfl, hlen, L2.upd_same⟩
            refine ⟨a, _, rfl, .inr ⟨dicKV kk2, kk, b, hd, rfl, L2.upd_same, hlen2, rfl⟩, ?_⟩
            rw [g1]
            exact q4 _ _ _ _ ((f2.step e3).trans stp) f4
          · exact q4.elim
  | _ => first | exact q2.elim | (unfold dputV at q2; rw [keyL_key] at q2; exact q2.elim)
end
end G
namespace G
open PySem PySem.Spec PyProof.Rows
open L2 (V Hp HO upd SqL SqT Rd VK XK TE TT TA TI TS TG TGs Ends WX Cx PE PT PA PI PS PSs PG PGs Inv OpR CallR RelV Vals R2 PC PW Gl Room FunD Binds PK)
section
variable {pt : G.PT} {Y : Wd} {a b : Expr} {sa sb : G.Sem} {es : List Expr} {ss : List G.Sem} {m0 : Nat} {pos' pos2 : Pos} {Γ : Ctx} {k : Nat} {N : List PySem.Str} {X : Cx} {W : WX} {sc scope : Scope} {Ow0 : List Addr} {e : Expr} {s : G.Sem} {str : Bool} {p2 p3 p4 pos : Pos} {j0 : Nat}
variable (E : En pt Y Γ k N X W sc)
include E
theorem r_dic : JE X Y.T Y.xf W (.Dict [] [] pos) dicE true := je_dic E.c
theorem r_dhas (hb : plainE b = true) (ja : JK X Y.T Y.xf W a sa) (jb : JE X Y.T Y.xf W b sb true) : JE X Y.T Y.xf W (.Compare a [.In] [b] pos) (dhasE false sa sb) true := je_dhas E.c hb ja jb
theorem kk_tup (hs : Nat.ble ss.length 1000 = true) (js : JEs X Y.T Y.xf W es ss) : JK X Y.T Y.xf W (.Tuple es m0 pos) (tupE ss) := jk_tup (Nat.le_of_ble_eq_true hs) js
end
section
variable {pt : G.PT} {Y : Wd} {Γ : Ctx} {k : Nat} {N : List PySem.Str} {X : Cx} {W : WX} {sc : Scope} {Ow0 : List Addr} {fr : Bool} {a b : Expr} {sa sb : G.Sem} {pos pos' pos2 : Pos} {j0 : Nat}
variable (B : Eb pt Y Γ k N X W sc Ow0 fr)
include B
theorem s_dput (ja : JE X Y.T Y.xf W a sa true) (jb : JK X Y.T Y.xf W b sb) : JS X B.w (.Assign [.Subscript a b pos'] (.Constant (.bool true) j0 pos2) pos) (dputS sa sb) := js_dput B.S.toCxC ja jb
end
end G
namespace G
def m_is_integer (Γ : Ctx) : StS :=
  seqS (retS (Sem.bop true [isiE Γ (vE 0) .int, Sem.no (isiE Γ (vE 0) .bool)])) (passS)
def m_is_within (Γ : Ctx) (p0 : Fd) : StS :=
  seqS (retS (Sem.bop true [callE p0 [vE 0], chE .le .le (vE 1) (vE 0) (vE 2)])) (passS)
def m_is_name (Γ : Ctx) : StS :=
  seqS (ifS (Sem.bop false [Sem.no (isiE Γ (vE 0) .str), Sem.no (chE .le .le (kE (.int 1)) (biE .len [vE 0]) (kE (.int 8)))]) (seqS (retS (kE (.bl false))) (passS)) (passS)) (seqS (retS (Sem.bop true [opE .mem (opE .idx (vE 0) (kE (.int 0))) (kE (.str [97, 98, 99, 100, 101, 102, 103, 104, 105, 106, 107, 108, 109, 110, 111, 112, 113, 114, 115, 116, 117, 118, 119, 120, 121, 122])), biE .all [lcE (vE 0) (Sem.bop false [opE .mem (vE 1) (kE (.str [97, 98, 99, 100, 101, 102, 103, 104, 105, 106, 107, 108, 109, 110, 111, 112, 113, 114, 115, 116, 117, 118, 119, 120, 121, 122])), opE .mem (vE 1) (kE (.str [48, 49, 50, 51, 52, 53, 54, 55, 56, 57]))]) [1] (.nm 1) []]])) (passS))
def m_check_points (Γ : Ctx) (p0 : Fd) (p1 : Nat) : StS :=
  seqS (ifS (Sem.no (callE p0 [vE 0, kE (.int 1), kE (.int 9)])) (seqS (raiseS Γ p1 [vE 0]) (passS)) (passS)) (passS)
def m_wrong_row (Γ : Ctx) (p0 : Fd) : StS :=
  seqS (ownS 1 (lstE [])) (seqS (forS (.tp [.nm 2, .nm 3]) (enumE (vE 0)) (seqS (ifS (Sem.bop false [Sem.no (callE p0 [vE 3]), opE .mem (opE .idx (vE 3) (kE (.int 0))) (pkE 1), opE .ge (vE 2) (kE (.int 6))]) (seqS (retS (vE 2)) (passS)) (passS)) (seqS (appS 1 (opE .idx (vE 3) (kE (.int 0)))) (passS)))) (seqS (retS (kE .non)) (passS)))
def m_check_rows (Γ : Ctx) (p0 : Nat) (p1 : Fd) : StS :=
  seqS (ifS (Sem.bop false [Sem.no (isiE Γ (vE 0) .tuple), opE .eq (biE .len [vE 0]) (kE (.int 0))]) (seqS (raiseS Γ p0 [kE .non]) (passS)) (passS)) (seqS (nmS 1 (callE p1 [vE 0])) (seqS (ifS (opE .isnot (vE 1) (kE .non)) (seqS (raiseS Γ p0 [vE 1]) (passS)) (passS)) (passS)))
def m_well (Γ : Ctx) : StS :=
  seqS (nmS 2 (Sem.ife (opE .lt (vE 1) (biE .len [vE 0])) (opE .idx (vE 0) (vE 1)) (kE (.int 0)))) (seqS (nmS 3 (opE .add (kE (.int 104729)) (opE .mul (kE (.int 7907)) (vE 1)))) (seqS (forS (.nm 4) (slE (vE 0) [] [kE (.int 4)]) (seqS (nmS 3 (opE .mod (biE .int [opE .add (opE .add (opE .mul (vE 3) (kE (.int 48271))) (opE .mod (biE .int [vE 4]) (kE (.int 2147483587)))) (kE (.int 13))]) (kE (.int 2147483629)))) (passS))) (seqS (nmS 3 (opE .mod (biE .int [opE .add (opE .add (opE .mul (vE 3) (kE (.int 69621))) (opE .mod (biE .int [vE 2]) (kE (.int 2147483579)))) (kE (.int 5))]) (kE (.int 2147483629)))) (seqS (retS (newE [vE 3, Sem.ife (opE .ge (biE .abs [vE 2]) (opE .pow (kE (.int 10)) (kE (.int 18)))) (biE .abs [vE 2]) (kE (.int 0)), kE (.int 0)])) (passS)))))
def m_dip (Γ : Ctx) : StS :=
  seqS (ifS (opE .gt (opE .idx (vE 0) (kE (.int 1))) (kE (.int 0))) (seqS (unpS [subR (vE 0) (kE (.int 1)), nmT 2] (biE .divmod [opE .idx (vE 0) (kE (.int 1)), vE 1])) (seqS (retS (vE 2)) (passS))) (passS)) (seqS (tgS (subR (vE 0) (kE (.int 2))) (opE .add (opE .idx (vE 0) (kE (.int 2))) (kE (.int 1)))) (seqS (tgS (subR (vE 0) (kE (.int 0))) (opE .mod (biE .int [opE .add (opE .add (opE .mul (opE .idx (vE 0) (kE (.int 0))) (kE (.int 39373))) (opE .mul (opE .mul (kE (.int 7)) (opE .idx (vE 0) (kE (.int 2)))) (opE .idx (vE 0) (kE (.int 2))))) (kE (.int 101))]) (kE (.int 2147483629)))) (seqS (retS (opE .mod (biE .int [opE .fdiv (opE .idx (vE 0) (kE (.int 0))) (kE (.int 64))]) (vE 1))) (passS))))
def m_names (Γ : Ctx) (p0 : Fd) : StS :=
  seqS (nmS 2 (lstE [kE (.str [112, 111, 105, 110, 116, 115]), kE (.str [116, 97, 107, 101, 115]), kE (.str [110, 101, 118, 101, 114]), kE (.str [97, 98, 111, 118, 101]), kE (.str [97, 108, 108]), kE (.str [97]), kE (.str [98]), kE (.str [110, 111, 110, 101])])) (seqS (parS [(false, 4), (true, 5)] [kE (.str [97, 98, 99, 100, 101, 102, 103, 104, 105, 106, 107, 108, 109, 110, 111, 112, 113, 114, 115, 116, 117, 118, 119, 120, 121, 122, 48, 49, 50, 51, 52, 53, 54, 55, 56, 57]), lstE []]) (seqS (forS (.nm 3) (rngE [vE 1]) (seqS (nmS 6 (Sem.ife (opE .eq (callE p0 [vE 0, kE (.int 4)]) (kE (.int 0))) (callE p0 [vE 0, kE (.int 8)]) (callE p0 [vE 0, kE (.int 2)]))) (seqS (nmS 7 (opE .add (opE .idx (vE 4) (callE p0 [vE 0, kE (.int 26)])) (joinE [] (lcE (rngE [vE 6]) (opE .idx (vE 4) (callE p0 [vE 0, kE (.int 36)])) [9] (.nm 9) [])))) (seqS (ifS (opE .eq (callE p0 [vE 0, kE (.int 5)]) (kE (.int 0))) (seqS (nmS 7 (opE .idx (vE 2) (callE p0 [vE 0, kE (.int 8)]))) (passS)) (passS)) (seqS (nmS 8 (opE .add (lstE [vE 7]) (lcE (rngE [vE 1]) (opE .add (kE (.str [122])) (biE .str [vE 9])) [9] (.nm 9) []))) (seqS (appS 5 (opE .idx (lcE (vE 8) (vE 10) [10] (.nm 10) [opE .nmem (vE 10) (pkE 5)]) (kE (.int 0)))) (passS))))))) (frzS 5 (seqS (retS (vE 5)) (passS)))))
def m_number (Γ : Ctx) (p0 : Fd) : StS :=
  seqS (nmS 1 (callE p0 [vE 0, kE (.int 4)])) (seqS (ifS (opE .eq (vE 1) (kE (.int 0))) (seqS (retS (opE .add (kE (.int 1)) (callE p0 [vE 0, kE (.int 4)]))) (passS)) (passS)) (seqS (ifS (opE .eq (vE 1) (kE (.int 1))) (seqS (retS (opE .add (kE (.int 1)) (callE p0 [vE 0, opE .pow (kE (.int 10)) (kE (.int 6))]))) (passS)) (passS)) (seqS (ifS (opE .eq (vE 1) (kE (.int 2))) (seqS (retS (opE .sub (opE .pow (kE (.int 10)) (kE (.int 30))) (callE p0 [vE 0, kE (.int 3)]))) (passS)) (passS)) (seqS (retS (opE .add (opE .add (kE (.int 1)) (opE .mul (callE p0 [vE 0, opE .pow (kE (.int 10)) (kE (.int 15))]) (opE .pow (kE (.int 10)) (kE (.int 15))))) (callE p0 [vE 0, opE .pow (kE (.int 10)) (kE (.int 15))]))) (passS)))))
def m_own_points (Γ : Ctx) : StS :=
  seqS (retS (opE .fdiv (opE .mul (opE .mul (vE 0) (vE 1)) (opE .sub (vE 1) (kE (.int 1)))) (kE (.int 2)))) (passS)
def m_ladders (Γ : Ctx) : StS :=
  seqS (nmS 1 (sortKE (.ix (.ix (.c 0) (.p)) (.k 2)) (lrngE [biE .len [vE 0]]))) (seqS (parS [(true, 3), (false, 4), (false, 5), (false, 6)] [lstE [], kE (.int 0), kE (.int 0), tupE []]) (seqS (forS (.nm 2) (vE 1) (seqS (parS [(false, 4), (false, 5), (false, 6)] [opE .add (vE 4) (opE .idx (opE .idx (vE 0) (vE 2)) (kE (.int 1))), opE .add (vE 5) (opE .mul (opE .idx (opE .idx (vE 0) (vE 2)) (kE (.int 1))) (opE .idx (opE .idx (vE 0) (vE 2)) (kE (.int 2)))), opE .add (vE 6) (tupE [vE 2])]) (seqS (appS 3 (tupE [vE 4, vE 5, vE 6])) (passS)))) (frzS 3 (seqS (retS (vE 3)) (passS)))))
def m_lack_of (Γ : Ctx) (p0 : Fd) (p1 : Fd) : StS :=
  seqS (parS [(false, 2), (false, 3)] [kE (.int 0), tupE []]) (seqS (forS (.tp [.nm 4, .nm 5, .nm 6]) (callE p0 [vE 1]) (seqS (ifS (opE .gt (opE .sub (callE p1 [vE 0, vE 4]) (vE 5)) (vE 2)) (seqS (parS [(false, 2), (false, 3)] [opE .sub (callE p1 [vE 0, vE 4]) (vE 5), vE 6]) (passS)) (passS)) (passS))) (seqS (retS (tupE [vE 2, vE 3])) (passS)))
def m_spare_of (Γ : Ctx) (p0 : Fd) (p1 : Fd) : StS :=
  seqS (unpS [nmT 2, nmT 3, nmT 4] (opE .idx (callE p0 [vE 1]) (negE (kE (.int 1))))) (seqS (retS (opE .sub (vE 3) (callE p1 [vE 0, vE 2]))) (passS))
def m_is_possible (Γ : Ctx) (p0 : Fd) (p1 : Fd) : StS :=
  seqS (retS (Sem.bop true [opE .eq (callE p0 [vE 0, vE 1]) (kE (.int 0)), opE .eq (opE .idx (callE p1 [vE 0, vE 1]) (kE (.int 0))) (kE (.int 0))])) (passS)
def m_mixed (Γ : Ctx) (p0 : Fd) : StS :=
  seqS (ownS 2 (lstE [])) (seqS (forS (.nm 3) (rngE [vE 1]) (seqS (insS 2 (callE p0 [vE 0, opE .add (biE .len [pkE 2]) (kE (.int 1))]) (vE 3)) (passS))) (frzS 2 (seqS (retS (vE 2)) (passS))))
def m_some (Γ : Ctx) (p0 : Fd) : StS :=
  seqS (nmS 2 (callE p0 [vE 0, kE (.int 5)])) (seqS (ifS (opE .lt (vE 2) (kE (.int 4))) (seqS (retS (opE .idx (lstE [kE (.int 0), vE 1, opE .fdiv (vE 1) (kE (.int 2)), opE .fdiv (vE 1) (kE (.int 3))]) (vE 2))) (passS)) (passS)) (seqS (retS (opE .fdiv (opE .mul (vE 1) (callE p0 [vE 0, kE (.int 1001)])) (kE (.int 1000)))) (passS)))
def m_tower (Γ : Ctx) (p0 : Fd) (p1 : Fd) (p2 : Fd) (p3 : Fd) : StS :=
  seqS (parS [(false, 5), (false, 6), (true, 7)] [lcE (rngE [opE .add (kE (.int 1)) (callE p0 [vE 0, vE 2])]) (callE p1 [vE 0]) [8] (.nm 8) [], kE (.int 0), lstE []]) (seqS (forS (.nm 3) (vE 5) (seqS (appS 7 (tupE [vE 3, opE .add (opE .mul (vE 1) (vE 6)) (opE .fdiv (opE .mul (vE 1) (opE .sub (vE 3) (kE (.int 1)))) (kE (.int 2)))])) (seqS (nmS 6 (opE .add (vE 6) (vE 3))) (passS)))) (seqS (nmS 4 (callE p2 [vE 0, biE .len [pkE 7]])) (seqS (retS (lcE (callE p3 [vE 0, biE .len [pkE 7]]) (tupE [opE .idx (vE 4) (vE 8), opE .idx (opE .idx (pkE 7) (vE 8)) (kE (.int 0)), opE .idx (opE .idx (pkE 7) (vE 8)) (kE (.int 1))]) [8] (.nm 8) [])) (passS))))
def m_bent (Γ : Ctx) (p0 : Fd) : StS :=
  seqS (ownS 2 (lsE (biE .list [vE 1]))) (seqS (forS (.nm 3) (rngE [callE p0 [vE 0, kE (.int 4)]]) (seqS (parS [(false, 4), (false, 5)] [callE p0 [vE 0, biE .len [pkE 2]], callE p0 [vE 0, kE (.int 5)]]) (seqS (unpS [nmT 6, nmT 7, nmT 8] (opE .idx (pkE 2) (vE 4))) (seqS (ifS (opE .lt (vE 5) (kE (.int 3))) (seqS (nmS 8 (biE .max [kE (.int 0), opE .add (vE 8) (opE .idx (lstE [kE (.int 1), opE .sub (kE (.int 0)) (kE (.int 1)), opE .sub (kE (.int 0)) (kE (.int 2))]) (vE 5))])) (passS)) (seqS (ifS (opE .eq (vE 5) (kE (.int 3))) (seqS (nmS 8 (opE .fdiv (opE .mul (vE 8) (callE p0 [vE 0, kE (.int 2001)])) (kE (.int 1000)))) (passS)) (seqS (nmS 8 (opE .idx (opE .idx (pkE 2) (callE p0 [vE 0, biE .len [pkE 2]])) (kE (.int 2)))) (passS))) (passS))) (seqS (tgS (osubR 2 (vE 4)) (tupE [vE 6, vE 7, biE .min [opE .pow (kE (.int 10)) (kE (.int 32)), vE 8]])) (passS)))))) (frzS 2 (seqS (retS (vE 2)) (passS))))
def m_within (Γ : Ctx) : StS :=
  seqS (retS (Sem.bop true [isiE Γ (vE 0) .int, Sem.no (isiE Γ (vE 0) .bool), chE .le .le (vE 1) (vE 0) (vE 2)])) (passS)
def m_law_k08 (Γ : Ctx) (p0 : Fd) (p1 : Fd) : StS :=
  seqS (forS (.nm 1) (rngE [biE .max [kE (.int 2), biE .min [biE .len [vE 0], kE (.int 3)]]]) (seqS (ifS (Sem.no (callE p0 [callE p1 [vE 0, vE 1]])) (seqS (retS (kE (.bl false))) (passS)) (passS)) (passS))) (seqS (retS (kE (.bl true))) (passS))
def m_great (Γ : Ctx) (p0 : Fd) (p1 : Fd) (p2 : Fd) (p3 : Fd) : StS :=
  seqS (nmS 3 (callE p0 [vE 0, kE (.int 4)])) (seqS (ifS (opE .eq (vE 3) (kE (.int 0))) (seqS (retS (callE p1 [vE 0, vE 1, opE .sub (vE 2) (kE (.int 1))])) (passS)) (passS)) (seqS (retS (callE p2 [vE 0, Sem.ife (opE .eq (vE 3) (kE (.int 1))) (callE p1 [vE 0, vE 1, opE .sub (vE 2) (kE (.int 1))]) (callE p3 [vE 0, vE 1, vE 2])])) (passS)))
def m_fair (Γ : Ctx) (p0 : Fd) (p1 : Fd) (p2 : Fd) (p3 : Fd) (p4 : Fd) : StS :=
  seqS (nmS 3 (opE .add (lcE (rngE [opE .add (kE (.int 1)) (callE p0 [vE 0, vE 2])]) (callE p1 [vE 0]) [6] (.nm 6) []) (lstE [kE (.int 1)]))) (seqS (nmS 4 (opE .sub (biE .len [vE 3]) (kE (.int 1)))) (seqS (nmS 5 (lcE (vE 3) (nwE (lcE (vE 3) (kE (.int 0)) [12] (.nm 12) [])) [9] (.nm 9) [])) (seqS (forS (.nm 6) (rngE [opE .add (vE 4) (kE (.int 1))]) (seqS (tgS (subR (opE .idx (vE 5) (vE 6)) (vE 6)) (opE .fdiv (opE .mul (opE .mul (vE 1) (opE .idx (vE 3) (vE 6))) (opE .sub (opE .idx (vE 3) (vE 6)) (kE (.int 1)))) (kE (.int 2)))) (seqS (forS (.nm 8) (rngE [vE 6]) (seqS (nmS 10 (opE .mul (opE .mul (vE 1) (opE .idx (vE 3) (vE 6))) (opE .idx (vE 3) (vE 8)))) (seqS (nmS 11 (callE p2 [vE 0, vE 10])) (seqS (ifS (opE .eq (vE 6) (vE 4)) (seqS (nmS 13 (opE .mod (biE .int [opE .sub (kE (.int 0)) (biE .sum [opE .idx (vE 5) (vE 8)])]) (opE .idx (vE 3) (vE 8)))) (seqS (nmS 11 (opE .sub (opE .sub (vE 10) (vE 13)) (opE .mul (opE .idx (vE 3) (vE 8)) (callE p0 [vE 0, vE 1])))) (passS))) (passS)) (seqS (asgnS [subR (opE .idx (vE 5) (vE 6)) (vE 8), subR (opE .idx (vE 5) (vE 8)) (vE 6)] [vE 11, opE .sub (vE 10) (vE 11)]) (passS)))))) (passS)))) (seqS (nmS 7 (callE p3 [vE 0, opE .add (vE 4) (kE (.int 1))])) (seqS (retS (lcE (callE p4 [vE 0, opE .add (vE 4) (kE (.int 1))]) (tupE [opE .idx (vE 7) (vE 6), opE .idx (vE 3) (vE 6), opE .fdiv (biE .sum [opE .idx (vE 5) (vE 6)]) (opE .idx (vE 3) (vE 6))]) [6] (.nm 6) [])) (passS))))))
def m_is_loose_row (Γ : Ctx) (p0 : Fd) (p1 : Fd) : StS :=
  seqS (ifS (Sem.bop false [Sem.no (isiE Γ (vE 0) .tuple), opE .ne (biE .len [vE 0]) (kE (.int 4)), Sem.no (callE p0 [opE .idx (vE 0) (kE (.int 0))])]) (seqS (retS (kE (.bl false))) (passS)) (passS)) (seqS (retS (Sem.bop true [callE p1 [opE .idx (vE 0) (kE (.int 1)), kE (.int 1), kE (.int 1000000000000000000000000000000)], biE .all [lcE (slE (vE 0) [kE (.int 2)] []) (callE p1 [vE 1, kE (.int 0), kE (.int 1000000000000000000000000000000000)]) [1] (.nm 1) []]])) (passS))
def m_level (Γ : Ctx) : StS :=
  seqS (retS (biE .max [opE .idx (vE 0) (kE (.int 2)), biE .min [opE .idx (vE 0) (kE (.int 3)), vE 1]])) (passS)
def m_total_at (Γ : Ctx) (p0 : Fd) : StS :=
  seqS (retS (biE .sum [lcE (vE 0) (opE .mul (opE .idx (vE 2) (kE (.int 1))) (callE p0 [vE 2, vE 1])) [2] (.nm 2) []])) (passS)
def m_last_level (Γ : Ctx) (p0 : Fd) : StS :=
  seqS (parS [(false, 2), (false, 3)] [kE (.int 0), kE (.int 1000000000000000000000000000000000)]) (seqS (whlS (opE .lt (vE 2) (vE 3)) (seqS (nmS 4 (opE .fdiv (opE .add (opE .add (vE 2) (vE 3)) (kE (.int 1))) (kE (.int 2)))) (seqS (ifS (opE .le (callE p0 [vE 0, vE 4]) (vE 1)) (seqS (nmS 2 (vE 4)) (passS)) (seqS (nmS 3 (opE .sub (vE 4) (kE (.int 1)))) (passS))) (passS)))) (seqS (retS (vE 2)) (passS)))
def m_levelled (Γ : Ctx) (p0 : Fd) (p1 : Fd) (p2 : Fd) : StS :=
  seqS (parS [(false, 4), (false, 5)] [callE p0 [vE 0, vE 1], lstE []]) (seqS (nmS 2 (opE .sub (vE 1) (callE p1 [vE 0, vE 4]))) (seqS (forS (.nm 3) (vE 0) (seqS (nmS 6 (callE p2 [vE 3, vE 4])) (seqS (nmS 7 (Sem.ife (opE .gt (callE p2 [vE 3, opE .add (vE 4) (kE (.int 1))]) (vE 6)) (biE .min [vE 2, opE .idx (vE 3) (kE (.int 1))]) (kE (.int 0)))) (seqS (augS 2 .sub (vE 7)) (seqS (nmS 5 (opE .add (vE 5) (lcE (tupE [tupE [opE .sub (opE .idx (vE 3) (kE (.int 1))) (vE 7), vE 6], tupE [vE 7, opE .add (vE 6) (kE (.int 1))]]) (tupE [opE .idx (vE 3) (kE (.int 0)), vE 8, vE 9]) [8, 9] (.tp [.nm 8, .nm 9]) [opE .gt (vE 8) (kE (.int 0))]))) (passS)))))) (seqS (retS (vE 5)) (passS))))
def m_filled_rows (Γ : Ctx) (p0 : Fd) (p1 : Fd) (p2 : Fd) (p3 : Fd) : StS :=
  seqS (nmS 2 (callE p0 [vE 0, biE .sum [lcE (vE 1) (opE .idx (vE 4) (kE (.int 1))) [4] (.nm 4) []]])) (seqS (ifS (Sem.no (biE .all [lcE (vE 1) (opE .le (opE .idx (vE 4) (kE (.int 2))) (opE .idx (vE 4) (kE (.int 3)))) [4] (.nm 4) []])) (seqS (retS (kE .non)) (passS)) (passS)) (seqS (ifS (Sem.no (chE .le .le (callE p1 [vE 1, kE (.int 0)]) (vE 2) (callE p1 [vE 1, kE (.int 1000000000000000000000000000000000)]))) (seqS (retS (kE .non)) (passS)) (passS)) (seqS (nmS 3 (callE p2 [vE 1, vE 2])) (seqS (retS (Sem.ife (callE p3 [vE 0, vE 3]) (biE .tuple [vE 3]) (kE .non))) (passS)))))
def m_loose_possible (Γ : Ctx) (p0 : Fd) (p1 : Fd) (p2 : Fd) : StS :=
  seqS (exS (callE p0 [vE 0])) (seqS (exS (callE p1 [vE 1])) (seqS (retS (opE .isnot (callE p2 [vE 0, vE 1]) (kE .non))) (passS)))
def m_filled (Γ : Ctx) (p0 : Fd) (p1 : Fd) (p2 : Fd) : StS :=
  seqS (exS (callE p0 [vE 0])) (seqS (exS (callE p1 [vE 1])) (seqS (retS (callE p2 [vE 0, vE 1])) (passS)))
def m_loosened (Γ : Ctx) (p0 : Fd) : StS :=
  seqS (ownS 2 (lstE [])) (seqS (forS (.tp [.nm 3, .nm 4, .nm 5]) (vE 1) (seqS (parS [(false, 6), (false, 7), (false, 8)] [callE p0 [vE 0, kE (.int 7)], callE p0 [vE 0, opE .pow (kE (.int 10)) (kE (.int 6))], callE p0 [vE 0, kE (.int 3)]]) (seqS (parS [(false, 9), (false, 10)] [vE 5, vE 5]) (seqS (ifS (opE .eq (vE 6) (kE (.int 1))) (seqS (parS [(false, 9), (false, 10)] [biE .max [kE (.int 0), opE .sub (vE 5) (vE 7)], opE .add (vE 5) (vE 8)]) (passS)) (seqS (ifS (opE .eq (vE 6) (kE (.int 2))) (seqS (parS [(false, 9), (false, 10)] [kE (.int 0), vE 5]) (passS)) (seqS (ifS (opE .eq (vE 6) (kE (.int 3))) (seqS (nmS 10 (opE .pow (kE (.int 10)) (kE (.int 33)))) (passS)) (seqS (ifS (opE .eq (vE 6) (kE (.int 4))) (seqS (parS [(false, 9), (false, 10)] [opE .add (vE 5) (vE 8), opE .add (vE 5) (kE (.int 1))]) (passS)) (seqS (ifS (opE .eq (vE 6) (kE (.int 5))) (seqS (parS [(false, 9), (false, 10)] [opE .fdiv (vE 5) (opE .add (kE (.int 1)) (vE 8)), opE .add (opE .mul (vE 5) (opE .add (kE (.int 1)) (vE 8))) (vE 7)]) (passS)) (seqS (ifS (opE .eq (vE 6) (kE (.int 6))) (seqS (parS [(false, 9), (false, 10)] [biE .max [kE (.int 0), opE .sub (vE 5) (vE 8)], vE 5]) (passS)) (passS)) (passS))) (passS))) (passS))) (passS))) (passS))) (seqS (appS 2 (tupE [vE 3, vE 4, vE 9, vE 10])) (passS)))))) (frzS 2 (seqS (retS (vE 2)) (passS))))
def m_enough (Γ : Ctx) (p0 : Fd) : StS :=
  seqS (parS [(false, 2), (false, 3)] [kE (.int 0), kE (.int 0)]) (seqS (forS (.tp [.nm 4, .nm 5, .nm 6]) (sortKE (.ix (.p) (.k 2)) (vE 1)) (seqS (parS [(false, 2), (false, 3)] [opE .add (vE 2) (vE 5), opE .add (vE 3) (opE .mul (vE 5) (vE 6))]) (seqS (ifS (opE .lt (vE 3) (callE p0 [vE 0, vE 2])) (seqS (retS (kE (.bl false))) (passS)) (passS)) (passS)))) (seqS (retS (opE .eq (vE 3) (callE p0 [vE 0, vE 2]))) (passS)))
def m_filling (Γ : Ctx) (p0 : Fd) (p1 : Fd) (p2 : Fd) (p3 : Fd) : StS :=
  seqS (ifS (opE .ne (biE .repr [callE p0 [vE 0, biE .tuple [vE 1]]]) (biE .repr [vE 2])) (seqS (retS (kE (.bl false))) (passS)) (passS)) (seqS (nmS 3 (callE p1 [vE 0, biE .tuple [vE 1]])) (seqS (ifS (Sem.bop false [opE .is (vE 3) (kE .non), Sem.no (vE 2)]) (seqS (retS (Sem.bop true [opE .is (vE 3) (kE .non), Sem.no (vE 2)])) (passS)) (passS)) (seqS (nmS 4 (callE p2 [vE 1, vE 3])) (seqS (retS (Sem.bop true [opE .isnot (vE 4) (kE .non), callE p3 [vE 0, vE 4]])) (passS)))))
def m_turned (Γ : Ctx) (p0 : Fd) (p1 : Fd) (p2 : Fd) : StS :=
  seqS (nmS 4 (callE p0 [vE 1, callE p1 [vE 0, biE .tuple [vE 1]]])) (seqS (ifS (opE .is (vE 4) (kE .non)) (seqS (retS (kE (.bl false))) (passS)) (passS)) (seqS (nmS 5 (biE .tuple [lcE (vE 4) (tupE [opE .idx (opE .idx (vE 2) (vE 7)) (kE (.int 0)), vE 8, opE .sub (vE 3) (vE 9)]) [7, 8, 9] (.tp [.nm 7, .nm 8, .nm 9]) []])) (seqS (nmS 6 (callE p0 [vE 2, vE 5])) (seqS (retS (Sem.bop true [opE .isnot (vE 6) (kE .non), callE p2 [vE 0, vE 6]])) (passS)))))
def m_right_k51 (Γ : Ctx) (p0 : Fd) (p1 : Fd) (p2 : Fd) (p3 : Fd) (p4 : Fd) (p5 : Fd) (p6 : Fd) : StS :=
  seqS (nmS 1 (opE .add (kE (.int 1)) (callE p0 [vE 0, kE (.int 9)]))) (seqS (nmS 2 (callE p1 [vE 0, callE p2 [vE 0, vE 1, kE (.int 6)]])) (seqS (nmS 3 (opE .mul (vE 1) (opE .sub (biE .sum [lcE (vE 2) (opE .idx (vE 7) (kE (.int 1))) [7] (.nm 7) []]) (kE (.int 1))))) (seqS (nmS 2 (lcE (vE 2) (tupE [opE .idx (vE 7) (kE (.int 0)), opE .idx (vE 7) (kE (.int 1)), biE .min [vE 3, opE .idx (vE 7) (kE (.int 2))], biE .min [vE 3, opE .idx (vE 7) (kE (.int 3))]]) [7] (.nm 7) [])) (seqS (nmS 4 (callE p3 [vE 0, biE .len [vE 2]])) (seqS (nmS 5 (lcE (rngE [biE .len [vE 2]]) (tupE [opE .idx (vE 4) (vE 8), opE .idx (opE .idx (vE 2) (vE 8)) (kE (.int 1)), opE .sub (vE 3) (opE .idx (opE .idx (vE 2) (vE 8)) (kE (.int 3))), opE .sub (vE 3) (opE .idx (opE .idx (vE 2) (vE 8)) (kE (.int 2)))]) [8] (.nm 8) [])) (seqS (nmS 6 (callE p4 [vE 1, biE .tuple [vE 2]])) (seqS (ifS (Sem.bop false [opE .nmem (biE .repr [vE 6]) (lstE [kE (.str [84, 114, 117, 101]), kE (.str [70, 97, 108, 115, 101])]), Sem.no (callE p5 [vE 1, vE 2, vE 6])]) (seqS (retS (kE (.bl false))) (passS)) (passS)) (seqS (ifS (Sem.no (callE p5 [vE 1, vE 5, vE 6])) (seqS (retS (kE (.bl false))) (passS)) (passS)) (seqS (retS (Sem.bop false [Sem.no (vE 6), Sem.bop true [callE p6 [vE 1, vE 2, vE 5, vE 3], callE p6 [vE 1, vE 5, vE 2, vE 3]]])) (passS))))))))))
def m_shaped (Γ : Ctx) (p0 : Fd) : StS :=
  seqS (parS [(false, 3), (true, 4), (true, 5), (false, 6)] [lcE (vE 0) (opE .idx (vE 8) (kE (.int 0))) [8] (.nm 8) [], lcE (vE 0) (kE (.int 0)) [8] (.nm 8) [], lstE [], dicE]) (seqS (ifS (Sem.no (isiE Γ (vE 1) .tuple)) (seqS (retS (kE .non)) (passS)) (passS)) (seqS (forS (.nm 2) (vE 1) (seqS (ifS (Sem.bop false [Sem.no (isiE Γ (vE 2) .tuple), opE .ne (biE .len [vE 2]) (kE (.int 3)), opE .nmem (opE .idx (vE 2) (kE (.int 0))) (vE 3)]) (seqS (retS (kE .non)) (passS)) (passS)) (seqS (nmS 7 (indexE (vE 3) (opE .idx (vE 2) (kE (.int 0))))) (seqS (ifS (Sem.bop false [Sem.no (callE p0 [opE .idx (vE 2) (kE (.int 1)), kE (.int 1), opE .idx (opE .idx (vE 0) (vE 7)) (kE (.int 1))]), Sem.no (callE p0 [opE .idx (vE 2) (kE (.int 2)), opE .idx (opE .idx (vE 0) (vE 7)) (kE (.int 2)), opE .idx (opE .idx (vE 0) (vE 7)) (kE (.int 3))])]) (seqS (retS (kE .non)) (passS)) (passS)) (seqS (ifS (dhasE false (tupE [vE 7, opE .idx (vE 2) (kE (.int 2))]) (vE 6)) (seqS (retS (kE .non)) (passS)) (passS)) (seqS (dputS (vE 6) (tupE [vE 7, opE .idx (vE 2) (kE (.int 2))])) (seqS (tgS (osubR 4 (vE 7)) (opE .add (opE .idx (pkE 4) (vE 7)) (opE .idx (vE 2) (kE (.int 1))))) (seqS (appS 5 (tupE [vE 7, opE .idx (vE 2) (kE (.int 1)), opE .idx (vE 2) (kE (.int 2))])) (passS))))))))) (frzS 5 (seqS (retS (Sem.ife (opE .eq (pkE 4) (lcE (vE 0) (opE .idx (vE 8) (kE (.int 1))) [8] (.nm 8) [])) (vE 5) (kE .non))) (passS)))))
end G
namespace G
class QQ (α : Type) where
  q : α → Store → Prop
def OPi {α : Type} [k : QQ α] : O α → Prop
  | .ok a st => k.q a st
  | _ => False
def OP {α : Type} (Q : α → Store → Prop) (o : O α) : Prop := @OPi α ⟨Q⟩ o
class Kt where
  nx : Env → Store → Prop
  rt : D → Store → Prop
  bk : Env → Store → Prop
  ct : Env → Store → Prop
def RP [K : Kt] : R → Prop
  | .nx env st => K.nx env st
  | .rt d st => K.rt d st
  | .bk env st => K.bk env st
  | .ct env st => K.ct env st
  | _ => False
section
variable {α β : Type} {Q : α → Store → Prop} {nx : Env → Store → Prop} {rt : D → Store → Prop} {bk ct : Env → Store → Prop} {env : Env} {st : Store}
theorem OP.mono {Q' : α → Store → Prop} {o : O α} (h : OP Q o) (i : ∀ a st, Q a st → Q' a st) : @OPi _ ⟨Q'⟩ o := by
  cases o with
  | ok a st => exact i _ _ h
  | _ => exact h
theorem RP.mono {n1 n2 : Env → Store → Prop} {r1 r2 : D → Store → Prop} {b1 b2 c1 c2 : Env → Store → Prop} {r : R} (h : @RP ⟨n1, r1, b1, c1⟩ r) (h1 : ∀ e s, n1 e s → n2 e s) (h2 : ∀ e s, r1 e s → r2 e s) (h3 : ∀ e s, b1 e s → b2 e s) (h4 : ∀ e s, c1 e s → c2 e s) : @RP ⟨n2, r2, b2, c2⟩ r := by
  cases r with
  | nx e s => exact h1 _ _ h
  | rt e s => exact h2 _ _ h
  | bk e s => exact h3 _ _ h
  | ct e s => exact h4 _ _ h
  | _ => exact h
theorem /-ev-/ OP_ok {a : α} : @OPi _ ⟨Q⟩ (.ok a st) = Q a st := propext Iff.rfl
theorem /-ev-/ OP_bad : @OPi _ ⟨Q⟩ .bad = False := propext Iff.rfl
theorem /-ev-/ OP_bind {f : α → Store → O β} {Q : β → Store → Prop} {x : O α} : @OPi _ ⟨Q⟩ (x.bind f) = @OPi _ ⟨fun a st => @OPi _ ⟨Q⟩ (f a st)⟩ x := by
  cases x <;> rfl
theorem /-ev-/ O_of_some {a : α} : O.of (some a) st = .ok a st := rfl
theorem /-ev-/ O_of_none : O.of (none : Option α) st = .bad := rfl
theorem /-ev-/ OP_of_ite {c : Prop} [Decidable c] {a : α} : @OPi _ ⟨Q⟩ (O.of (if c then some a else none) st) = (c ∧ Q a st) := by
  by_cases h : c
  · rw [if_pos h]; simp [h, OPi, O.of]
  · rw [if_neg h]; simp [h, OPi, O.of]
theorem /-ev-/ OP_ite {c : Prop} [Decidable c] {a b : O α} : @OPi _ ⟨Q⟩ (if c then a else b) = ((c → @OPi _ ⟨Q⟩ a) ∧ (¬ c → @OPi _ ⟨Q⟩ b)) := by
  by_cases h : c <;> simp [h]
theorem /-ev-/ RP_ite {c : Prop} [Decidable c] {a b : R} : @RP ⟨nx, rt, bk, ct⟩ (if c then a else b) = ((c → @RP ⟨nx, rt, bk, ct⟩ a) ∧ (¬ c → @RP ⟨nx, rt, bk, ct⟩ b)) := by
  by_cases h : c <;> simp [h]
theorem /-ev-/ OP_ite_bad {c : Prop} [Decidable c] {a : O α} : @OPi _ ⟨Q⟩ (if c then a else .bad) = (c ∧ @OPi _ ⟨Q⟩ a) := by
  by_cases h : c <;> simp [h, OPi]
theorem /-ev-/ RP_ite_bad {c : Prop} [Decidable c] {a : R} : @RP ⟨nx, rt, bk, ct⟩ (if c then a else .bad) = (c ∧ @RP ⟨nx, rt, bk, ct⟩ a) := by
  by_cases h : c <;> simp [h, RP]
theorem /-ev-/ RP_nx : @RP ⟨nx, rt, bk, ct⟩ (.nx env st) = nx env st := propext Iff.rfl
theorem /-ev-/ RP_rt {d : D} : @RP ⟨nx, rt, bk, ct⟩ (.rt d st) = rt d st := propext Iff.rfl
theorem /-ev-/ RP_bk : @RP ⟨nx, rt, bk, ct⟩ (.bk env st) = bk env st := propext Iff.rfl
theorem /-ev-/ RP_ct : @RP ⟨nx, rt, bk, ct⟩ (.ct env st) = ct env st := propext Iff.rfl
theorem /-ev-/ RP_bad : @RP ⟨nx, rt, bk, ct⟩ .bad = False := propext Iff.rfl
theorem /-ev-/ RP_run {o : O α} {f : α → Store → R} : @RP ⟨nx, rt, bk, ct⟩ (o.run env f) = @OPi _ ⟨fun a st => @RP ⟨nx, rt, bk, ct⟩ (f a st)⟩ o := by
  cases o <;> rfl
theorem /-ev-/ RP_seqR {r : R} {f : StS} : @RP ⟨nx, rt, bk, ct⟩ (seqR r f) = @RP ⟨fun env st => @RP ⟨nx, rt, bk, ct⟩ (f env st), rt, bk, ct⟩ r := by
  cases r <;> rfl
variable {i : Nat} {s s1 s2 : Sem} {a b : StS}
theorem /-ev-/ RP_seq : @RP ⟨nx, rt, bk, ct⟩ (seqS a b env st) = @RP ⟨fun env st => @RP ⟨nx, rt, bk, ct⟩ (b env st), rt, bk, ct⟩ (a env st) := RP_seqR
theorem /-ev-/ RP_pass : @RP ⟨nx, rt, bk, ct⟩ (passS env st) = nx env st := propext Iff.rfl
theorem /-ev-/ RP_brk : @RP ⟨nx, rt, bk, ct⟩ (brkS env st) = bk env st := propext Iff.rfl
theorem /-ev-/ RP_cont : @RP ⟨nx, rt, bk, ct⟩ (contS env st) = ct env st := propext Iff.rfl
theorem /-ev-/ RP_ret0 : @RP ⟨nx, rt, bk, ct⟩ (ret0S env st) = rt .non st := propext Iff.rfl
theorem /-ev-/ RP_badS : @RP ⟨nx, rt, bk, ct⟩ (badS env st) = False := rfl
theorem /-ev-/ RP_ret : @RP ⟨nx, rt, bk, ct⟩ (retS s env st) = @OPi _ ⟨rt⟩ (s.val env st) := RP_run
theorem /-ev-/ RP_ex : @RP ⟨nx, rt, bk, ct⟩ (exS s env st) = @OPi _ ⟨fun _ st => nx env st⟩ (s.val env st) := RP_run
theorem /-ev-/ RP_nm : @RP ⟨nx, rt, bk, ct⟩ (nmS i s env st) = @OPi _ ⟨fun d st => nx (env.set i (.v d)) st⟩ (s.val env st) := RP_run
theorem /-ev-/ RP_own : @RP ⟨nx, rt, bk, ct⟩ (ownS i s env st) = @OPi _ ⟨fun d st => @RP ⟨nx, rt, bk, ct⟩ (ownR i d env st)⟩ (s.val env st) := RP_run
theorem /-ev-/ ownR_lst {xs : List D} : ownR i (.lst xs) env st = .nx (env.set i (.own xs)) st := rfl
theorem /-ev-/ RP_if : @RP ⟨nx, rt, bk, ct⟩ (ifS s a b env st) = @OPi _ ⟨fun t st => @RP ⟨nx, rt, bk, ct⟩ (if t = true then a env st else b env st)⟩ (s.test env st) := RP_run
theorem /-ev-/ RP_tg {f : D → StS} : @RP ⟨nx, rt, bk, ct⟩ (tgS f s env st) = @OPi _ ⟨fun d st => @RP ⟨nx, rt, bk, ct⟩ (f d env st)⟩ (s.val env st) := RP_run
theorem /-ev-/ RP_par {ts : List (Bool × Nat)} {ss : List Sem} : @RP ⟨nx, rt, bk, ct⟩ (parS ts ss env st) = @OPi _ ⟨fun ds st => @RP ⟨nx, rt, bk, ct⟩ (ofPut (putO ts ds env) st)⟩ (args ss env st) := RP_run
theorem /-ev-/ RP_asgn {fs : List (D → StS)} {ss : List Sem} : @RP ⟨nx, rt, bk, ct⟩ (asgnS fs ss env st) = @OPi _ ⟨fun ds st => @RP ⟨nx, rt, bk, ct⟩ (setAll fs ds env st)⟩ (args ss env st) := RP_run
theorem /-ev-/ RP_unp {fs : List (D → StS)} : @RP ⟨nx, rt, bk, ct⟩ (unpS fs s env st) = @OPi _ ⟨fun d st => @RP ⟨nx, rt, bk, ct⟩ (match d with
  | .tup ds => if ds.length = fs.length then setAll fs ds env st else .bad
  | .lst ds => if ds.length = fs.length then setAll fs ds env st else .bad
  | _ => .bad)⟩ (s.val env st) := RP_run
theorem /-ev-/ RP_for {p : Pt} : @RP ⟨nx, rt, bk, ct⟩ (forS p s a env st) = @OPi _ ⟨fun xs st => @RP ⟨nx, rt, bk, ct⟩ (forL a p xs env st)⟩ (s.items env st) := RP_run
theorem /-ev-/ RP_app : @RP ⟨nx, rt, bk, ct⟩ (appS i s env st) = @RP ⟨nx, rt, bk, ct⟩ (match env[i]? with
  | some (.own xs) => (s.val env st).run env fun d st => if xs.length < LIM then .nx (env.set i (.own (xs ++ [d]))) st else .bad
  | _ => .bad) := rfl
theorem /-ev-/ RP_frz : @RP ⟨nx, rt, bk, ct⟩ (frzS i a env st) = @RP ⟨nx, rt, bk, ct⟩ (match env[i]? with
  | some (.own xs) => a (env.set i (.v (.lst xs))) st
  | _ => .bad) := rfl
theorem /-ev-/ RP_aug {o : Op2} : @RP ⟨nx, rt, bk, ct⟩ (augS i o s env st) = @RP ⟨nx, rt, bk, ct⟩ (match env.get i with
  | some (.int x) => (s.val env st).run env fun y st => aug1 o i x y env st
  | _ => .bad) := rfl
theorem /-ev-/ aug_add {x y : Int} : aug1 .add i x (.int y) env st = .nx (env.set i (.v (.int (x + y)))) st := rfl
theorem /-ev-/ aug_sub {x y : Int} : aug1 .sub i x (.int y) env st = .nx (env.set i (.v (.int (x - y)))) st := rfl
theorem /-ev-/ ofPut_some {e : Env} : ofPut (some e) st = .nx e st := rfl
theorem /-ev-/ putO_nil : putO [] [] env = some env := rfl
theorem /-ev-/ putO_v {ts : List (Bool × Nat)} {d : D} {ds : List D} : putO ((false, i) :: ts) (d :: ds) env = putO ts ds (env.set i (.v d)) := rfl
theorem /-ev-/ putO_o {ts : List (Bool × Nat)} {xs : List D} {ds : List D} : putO ((true, i) :: ts) (.lst xs :: ds) env = putO ts ds (env.set i (.own xs)) := rfl
theorem /-ev-/ setAll_nil : setAll [] [] env st = .nx env st := rfl
theorem /-ev-/ setAll_cons {f : D → StS} {fs : List (D → StS)} {d : D} {ds : List D} : setAll (f :: fs) (d :: ds) env st = seqR (f d env st) (setAll fs ds) := rfl
theorem /-ev-/ nmT_eq {d : D} : nmT i d env st = .nx (env.set i (.v d)) st := rfl
theorem /-ev-/ osubR_eq {d : D} : osubR i s d env st = match env[i]? with
  | some (.own xs) => (s.val env st).run env fun k st => match k with
    | .int k => match ixN xs.length k with
      | some j => .nx (env.set i (.own (xs.set j d))) st
      | none => .bad
    | _ => .bad
  | _ => .bad := rfl
theorem /-ev-/ RP_fld {Γ : Ctx} {f : Nm} : @RP ⟨nx, rt, bk, ct⟩ (fldS Γ f s1 s2 env st) = @OPi _ ⟨fun d st => @RP ⟨nx, rt, bk, ct⟩ (fldR Γ f s1 d env st)⟩ (s2.val env st) := RP_run
theorem RP_fldR {Γ : Ctx} {f : Nm} {d : D} : @RP ⟨nx, rt, bk, ct⟩ (fldR Γ f s1 d env st) = @OPi _ ⟨fun x st => @RP ⟨nx, rt, bk, ct⟩ (match x with
    | .loc l => (match st[l]? with
      | some (.ins c fs) => if ltLoc l d = true ∧ fs.length < 100 ∧ isFld Γ c f = true then .nx env (st.set l (.ins c (putF f d fs))) else .bad
      | _ => .bad)
    | _ => .bad)⟩ (s1.val env st) := RP_run
variable {d : D} {o p : Op2} {x y z : Sem} {es : List Sem} {Γ : Ctx} {c : Fd}
theorem /-ev-/ val_k : (kE d).val env st = .ok d st := rfl
theorem /-ev-/ val_v : (vE i).val env st = .of (env.get i) st := rfl
theorem /-ev-/ val_pk : (pkE i).val env st = .of (env.pk i) st := rfl
theorem /-ev-/ val_op : (opE o x y).val env st = (x.val env st).bind fun u st => (y.val env st).bind fun v st => .of (op2 o st u v) st := rfl
theorem /-ev-/ val_neg : (negE x).val env st = (x.val env st).bind fun u st => .of (neg1 u) st := rfl
theorem /-ev-/ val_no : (Sem.no x).val env st = (x.val env st).bind fun u st => (O.of (truth st u) st).bind fun b st => .ok (.bl (!b)) st := rfl
theorem /-ev-/ val_ife : (Sem.ife x y z).val env st = (x.test env st).bind fun t st => if t = true then y.val env st else z.val env st := rfl
theorem /-ev-/ val_tup : (tupE es).val env st = (args es env st).bind fun ds st => .ok (.tup ds) st := rfl
theorem /-ev-/ val_lst : (lstE es).val env st = (args es env st).bind fun ds st => .ok (.lst ds) st := rfl
theorem /-ev-/ val_new : (newE es).val env st = (args es env st).bind newV := rfl
theorem /-ev-/ val_bi {f : Bi} : (biE f es).val env st = (args es env st).bind fun ds st => .of (bi f st ds) st := rfl
theorem /-ev-/ val_call : (callE c es).val env st = (args es env st).bind c := rfl
theorem /-ev-/ val_callK {is : List Nat} : (callKE c is es).val env st = (args es env st).bind fun ds st => c (pick .non is ds) st := rfl
theorem /-ev-/ val_mk : (mkE Γ i es).val env st = (args es env st).bind (mkObj Γ i) := rfl
theorem /-ev-/ val_mkK {is : List Nat} : (mkKE Γ i is es).val env st = (args es env st).bind fun ds st => mkObj Γ i (pick .non is ds) st := rfl
theorem /-ev-/ val_mkc {j : Nat} : (mkcE Γ j i es).val env st = match env.get j with
  | some (.cls d) => if d = i then (args es env st).bind (mkObj Γ i) else .bad
  | _ => .bad := rfl
theorem /-ev-/ get_c {env : Env} {k : Nat} {d : D} : Env.get (.v d :: env) 0 = some d := rfl
theorem /-ev-/ val_cm : (cmE c i es).val env st = (args es env st).bind fun ds st => c (.cls i :: ds) st := rfl
theorem /-ev-/ val_isi {τ : Ty} : (isiE Γ x τ).val env st = (x.val env st).bind fun u st => .of ((isiV Γ st u τ).map .bl) st := rfl
theorem /-ev-/ val_at {f : Nm} : (atE Γ f x).val env st = (x.val env st).bind fun u st => atV Γ f u st := rfl
theorem /-ev-/ val_has {n : Bool} : (hasE Γ i n x y).val env st = (x.val env st).bind fun u st => (y.val env st).bind fun v st => hasV Γ i n u v st := rfl
theorem /-ev-/ val_lenO : (lenOE Γ i x).val env st = (x.val env st).bind fun u st => dunV Γ i n_len u st := rfl
theorem /-ev-/ val_strO : (strOE Γ i x).val env st = (x.val env st).bind fun u st => dunV Γ i n_str u st := rfl
theorem /-ev-/ val_boolO : (boolOE Γ i x).val env st = (x.val env st).bind fun u st => dunV Γ i n_bool u st := rfl
def lsV (d : D) (st : Store) : O D := match d with
  | .lst xs => .ok (.lst xs) st
  | _ => .bad
theorem /-ev-/ val_ls : (lsE x).val env st = (x.val env st).bind lsV := rfl
theorem /-ev-/ lsV_lst {xs : List D} : lsV (.lst xs) st = .ok (.lst xs) st := rfl
theorem /-ev-/ val_up : (upE x).val env st = (x.val env st).bind fun u st => .of (upD u) st := rfl
theorem /-ev-/ upD_str {u : List Nat} : upD (.str u) = if u.length ≤ 1000000 ∧ u.all (fun c => decide (c < 128)) = true then some (.str (u.map upC)) else none := rfl
theorem /-ev-/ val_d0 : dct0E.val env st = .ok (.dct [] []) st := rfl
theorem /-ev-/ val_d1 : (dct1E x y).val env st = (x.val env st).bind fun u st => (y.val env st).bind fun v st => dct1V u v st := rfl
theorem /-ev-/ d1_str {u : List Nat} {v : D} : dct1V (.str u) v st = .ok (.dct [.str u] [v]) st := rfl
theorem /-ev-/ val_ch : (chE o p x y z).val env st = (x.val env st).bind fun u st => (y.val env st).bind fun v st => (O.of (op2 o st u v) st).bind fun r st => match r with
  | .bl b => if b = true then (z.val env st).bind fun w st => .of (op2 p st v w) st else .ok (.bl false) st
  | _ => .bad := by
  show chain o p x y z env st = _
  unfold chain
  congr 1; funext u st; congr 1; funext v st; congr 1; funext r st
  cases r <;> first | rfl | (rename_i b; cases b <;> rfl)
theorem /-ev-/ val_split {n : Nat} : (splitE x n).val env st = (x.val env st).bind fun u st => .of (mt .split st u [.str [n]]) st := rfl
theorem /-ev-/ val_join {n : List Nat} : (joinE n x).val env st = (x.val env st).bind fun u st => .of (mt .join st (.str n) [u]) st := rfl
theorem /-ev-/ val_fmt : (fmtE x).val env st = (x.val env st).bind fun u st => .of (fmtD u) st := rfl
theorem /-ev-/ val_joined : (joinedE es).val env st = joinedV es [] env st := rfl
theorem /-ev-/ val_cons : (consE x y).val env st = (x.val env st).bind fun u st => (y.val env st).bind fun v st => consV u v st := rfl
theorem /-ev-/ val_bop {n : Bool} : (Sem.bop n es).val env st = bopV n es env st := rfl
theorem /-ev-/ val_sl {lo hi : List Sem} : (slE x lo hi).val env st = (x.val env st).bind fun u st => (optV lo env st).bind fun l st => (optV hi env st).bind fun h st => .of (slice st u l h) st := rfl
theorem /-ev-/ val_lc {own : List Nat} {q : Pt} {ifs : List Sem} : (lcE x y own q ifs).val env st = (x.items env st).bind fun items st => (compL (turnV own y q ifs env) items [] st).bind fun ds st => .ok (.lst ds) st := rfl
theorem /-ev-/ tst_k : (kE d).test env st = .of (truth st d) st := rfl
theorem /-ev-/ tst_v : (vE i).test env st = (O.of (env.get i) st).bind fun x st => .of (truth st x) st := rfl
theorem /-ev-/ tst_op : (opE o x y).test env st = ((opE o x y).val env st).bind fun x st => .of (truth st x) st := rfl
theorem /-ev-/ tst_bi {f : Bi} : (biE f es).test env st = ((biE f es).val env st).bind fun x st => .of (truth st x) st := rfl
theorem /-ev-/ tst_call : (callE c es).test env st = ((callE c es).val env st).bind fun x st => .of (truth st x) st := rfl
theorem /-ev-/ tst_isi {τ : Ty} : (isiE Γ x τ).test env st = ((isiE Γ x τ).val env st).bind fun x st => .of (truth st x) st := rfl
theorem /-ev-/ tst_ch : (chE o p x y z).test env st = ((chE o p x y z).val env st).bind fun x st => .of (truth st x) st := rfl
theorem /-ev-/ tst_has {n : Bool} : (hasE Γ i n x y).test env st = ((hasE Γ i n x y).val env st).bind fun x st => .of (truth st x) st := rfl
theorem /-ev-/ tst_boolO : (boolOE Γ i x).test env st = ((boolOE Γ i x).val env st).bind fun x st => .of (truth st x) st := rfl
theorem /-ev-/ tst_at {f : Nm} : (atE Γ f x).test env st = ((atE Γ f x).val env st).bind fun x st => .of (truth st x) st := rfl
theorem /-ev-/ tst_me {f : Nm} : (meE Γ i f x es).test env st = ((meE Γ i f x es).val env st).bind fun x st => .of (truth st x) st := rfl
theorem /-ev-/ tst_no : (Sem.no x).test env st = (x.test env st).bind fun b st => .ok (!b) st := rfl
theorem /-ev-/ tst_bop {n : Bool} : (Sem.bop n es).test env st = bopT n es env st := rfl
theorem /-ev-/ tst_ife : (Sem.ife x y z).test env st = (x.test env st).bind fun t st => if t = true then y.test env st else z.test env st := rfl
theorem /-ev-/ bopV_one {n : Bool} : bopV n [x] env st = x.val env st := rfl
theorem /-ev-/ bopV_cons {n : Bool} : bopV n (x :: y :: es) env st = (x.val env st).bind fun u st => match u with
    | .bl b => if b = n then bopV n (y :: es) env st else .ok (.bl b) st
    | _ => .bad := rfl
theorem /-ev-/ bopT_one {n : Bool} : bopT n [x] env st = x.test env st := rfl
theorem /-ev-/ bopT_cons {n : Bool} : bopT n (x :: y :: es) env st = (x.test env st).bind fun b st => if b = n then bopT n (y :: es) env st else .ok b st := rfl
theorem /-ev-/ args_nil : args [] env st = .ok [] st := rfl
theorem /-ev-/ args_cons : args (x :: es) env st = (x.val env st).bind fun u st => (args es env st).bind fun us st => .ok (u :: us) st := rfl
theorem /-ev-/ joinedV_nil {acc : List Nat} : joinedV [] acc env st = .ok (.str acc) st := rfl
theorem /-ev-/ joinedV_cons {acc : List Nat} : joinedV (x :: es) acc env st = (x.val env st).bind fun u st => match u with
    | .str y => if acc.length + y.length ≤ LIM then joinedV es (acc ++ y) env st else .bad
    | _ => .bad := rfl
theorem /-ev-/ optV_none : optV [] env st = .ok none st := rfl
theorem /-ev-/ optV_one : optV [x] env st = (x.val env st).bind fun u st => .of (optI [u]) st := by
  unfold optV args
  cases x.val env st <;> rfl
theorem /-ev-/ optI_int {k : Int} : optI [.int k] = some (some k) := rfl
theorem /-ev-/ itm_v : (vE i).items env st = (O.of (env.get i) st).bind fun x st => .of (seqI x) st := rfl
theorem /-ev-/ itm_pk : (pkE i).items env st = (O.of (env.pk i) st).bind fun x st => .of (seqI x) st := rfl
theorem /-ev-/ itm_op : (opE o x y).items env st = ((opE o x y).val env st).bind fun x st => .of (seqI x) st := rfl
theorem /-ev-/ itm_call : (callE c es).items env st = ((callE c es).val env st).bind fun x st => .of (seqI x) st := rfl
theorem /-ev-/ itm_at {f : Nm} : (atE Γ f x).items env st = ((atE Γ f x).val env st).bind fun x st => .of (seqI x) st := rfl
theorem /-ev-/ itm_sl {lo hi : List Sem} : (slE x lo hi).items env st = ((slE x lo hi).val env st).bind fun x st => .of (seqI x) st := rfl
theorem /-ev-/ itm_lst : (lstE es).items env st = ((lstE es).val env st).bind fun x st => .of (seqI x) st := rfl
theorem /-ev-/ itm_tup : (tupE es).items env st = ((tupE es).val env st).bind fun x st => .of (seqI x) st := rfl
theorem /-ev-/ itm_lc {own : List Nat} {q : Pt} {ifs : List Sem} : (lcE x y own q ifs).items env st = ((lcE x y own q ifs).val env st).bind fun x st => .of (seqI x) st := rfl
theorem /-ev-/ itm_rng : (rngE es).items env st = (args es env st).bind fun ds st => rngI ds st := rfl
theorem /-ev-/ itm_enum : (enumE x).items env st = (x.val env st).bind fun x st => .of ((seqF x).map enumD) st := rfl
theorem /-ev-/ itm_zip : (zipE x y).items env st = (x.val env st).bind fun u st => (y.val env st).bind fun v st => .of (zipV u v) st := rfl
theorem /-ev-/ rng1 {Q : List D → Store → Prop} {j : Int} : @OPi _ ⟨Q⟩ (rngI [.int j] st) = ((-LIM ≤ j ∧ j ≤ LIM) ∧ Q (rangeD 0 j) st) := by
  show @OPi _ ⟨Q⟩ (if -(LIM : Int) ≤ j ∧ j ≤ LIM then .ok (rangeD 0 j) st else .bad) = _
  by_cases h : -(LIM : Int) ≤ j ∧ j ≤ LIM
  · rw [if_pos h]; simp [OPi, h]
  · rw [if_neg h]; simp only [OPi]; simp [h]
end
section
variable {st : Store} {i j : Int} {a b : Bool} {xs ys : List D} {u v : List Nat} {d e : D}
theorem /-ev-/ vw_int : view st (.int i) = .int i := rfl
theorem /-ev-/ vw_str : view st (.str u) = .str u := rfl
theorem /-ev-/ vw_tup : view st (.tup xs) = .tup xs := rfl
theorem /-ev-/ vw_lst : view st (.lst xs) = .lst xs := rfl
theorem /-ev-/ vw_bl : view st (.bl a) = .bl a := rfl
theorem /-ev-/ vw_non : view st .non = .non := rfl
theorem /-ev-/ add_int : op2 .add st (.int i) (.int j) = some (.int (i + j)) := rfl
theorem /-ev-/ add_str : op2 .add st (.str u) (.str v) = if u.length + v.length ≤ LIM then some (.str (u ++ v)) else none := rfl
theorem /-ev-/ add_tup : op2 .add st (.tup xs) (.tup ys) = if xs.length + ys.length ≤ LIM then some (.tup (xs ++ ys)) else none := rfl
theorem /-ev-/ add_lst : op2 .add st (.lst xs) (.lst ys) = if xs.length + ys.length ≤ LIM then some (.lst (xs ++ ys)) else none := rfl
theorem /-ev-/ sub_int : op2 .sub st (.int i) (.int j) = some (.int (i - j)) := rfl
theorem /-ev-/ mul_int : op2 .mul st (.int i) (.int j) = if okMul i j = true then some (.int (i * j)) else none := rfl
theorem /-ev-/ fdiv_int : op2 .fdiv st (.int i) (.int j) = if okDiv j = true then some (.int (i / j)) else none := rfl
theorem /-ev-/ mod_int : op2 .mod st (.int i) (.int j) = if okDiv j = true then some (.int (i % j)) else none := rfl
theorem /-ev-/ lt_int : op2 .lt st (.int i) (.int j) = some (.bl (decide (i < j))) := rfl
theorem /-ev-/ le_int : op2 .le st (.int i) (.int j) = some (.bl (decide (i ≤ j))) := rfl
theorem /-ev-/ gt_int : op2 .gt st (.int i) (.int j) = some (.bl (decide (j < i))) := rfl
theorem /-ev-/ ge_int : op2 .ge st (.int i) (.int j) = some (.bl (decide (j ≤ i))) := rfl
theorem /-ev-/ eq_int : op2 .eq st (.int i) (.int j) = some (.bl (decide (i = j))) := by
  simp [op2, view, okEq, pyEq] <;> (first | rfl | exact Bool.beq_eq_decide_eq _ _)
theorem /-ev-/ ne_int : op2 .ne st (.int i) (.int j) = some (.bl (!decide (i = j))) := by
  simp [op2, view, okEq, pyEq] <;> (first | rfl | exact Bool.beq_eq_decide_eq _ _)
theorem /-ev-/ eq_str : op2 .eq st (.str u) (.str v) = some (.bl (decide (u = v))) := by
  simp [op2, view, okEq, pyEq] <;> (first | rfl | exact Bool.beq_eq_decide_eq _ _)
theorem /-ev-/ ne_str : op2 .ne st (.str u) (.str v) = some (.bl (!decide (u = v))) := by
  simp [op2, view, okEq, pyEq] <;> (first | rfl | exact Bool.beq_eq_decide_eq _ _)
theorem /-ev-/ is_non : op2 .is st .non .non = some (.bl true) := rfl
theorem /-ev-/ isnot_non : op2 .isnot st .non .non = some (.bl false) := rfl
theorem /-ev-/ is_tup : op2 .is st (.tup xs) .non = some (.bl false) := rfl
theorem /-ev-/ isnot_tup : op2 .isnot st (.tup xs) .non = some (.bl true) := rfl
theorem /-ev-/ is_int : op2 .is st (.int i) .non = some (.bl false) := rfl
theorem /-ev-/ isnot_int : op2 .isnot st (.int i) .non = some (.bl true) := rfl
theorem /-ev-/ mem_chr {c : Nat} : op2 .mem st (.str [c]) (.str v) = some (.bl (v.contains c)) := rfl
theorem /-ev-/ nmem_chr {c : Nat} : op2 .nmem st (.str [c]) (.str v) = some (.bl (!v.contains c)) := rfl
theorem /-ev-/ idx_str : op2 .idx st (.str u) (.int i) = (atI u i).map fun c => .str [c] := rfl
theorem /-ev-/ idx_tup : op2 .idx st (.tup xs) (.int i) = atI xs i := rfl
theorem /-ev-/ idx_lst : op2 .idx st (.lst xs) (.int i) = atI xs i := rfl
theorem /-ev-/ idx_fl : op2 .idx st (.fl xs) (.int i) = atI xs i := rfl
theorem /-ev-/ tr_bl : truth st (.bl a) = some a := rfl
theorem /-ev-/ tr_int : truth st (.int i) = some (i != 0) := rfl
theorem /-ev-/ tr_non : truth st .non = some false := rfl
theorem /-ev-/ tr_str : truth st (.str u) = some (!u.isEmpty) := rfl
theorem /-ev-/ tr_tup : truth st (.tup xs) = some (!xs.isEmpty) := rfl
theorem /-ev-/ tr_lst : truth st (.lst xs) = some (!xs.isEmpty) := rfl
theorem /-ev-/ neg_int : neg1 (.int i) = some (.int (-i)) := rfl
theorem /-ev-/ sf_tup : seqF (.tup xs) = some xs := rfl
theorem /-ev-/ sf_lst : seqF (.lst xs) = some xs := rfl
theorem /-ev-/ si_tup : seqI (.tup xs) = some xs := rfl
theorem /-ev-/ si_lst : seqI (.lst xs) = some xs := rfl
theorem /-ev-/ si_str : seqI (.str u) = some (u.map fun c => .str [c]) := rfl
theorem /-ev-/ sv_tup : seqv st (.tup xs) = some xs := rfl
theorem /-ev-/ sv_lst : seqv st (.lst xs) = some xs := rfl
theorem /-ev-/ sv_fl : seqv st (.fl xs) = some xs := rfl
theorem /-ev-/ len_str : bi .len st [.str u] = some (.int u.length) := rfl
theorem /-ev-/ len_tup : bi .len st [.tup xs] = some (.int xs.length) := rfl
theorem /-ev-/ len_lst : bi .len st [.lst xs] = some (.int xs.length) := rfl
theorem /-ev-/ len_fl : bi .len st [.fl xs] = some (.int xs.length) := rfl
theorem /-ev-/ int_int : bi .int st [.int i] = some (.int i) := rfl
theorem /-ev-/ int_bl : bi .int st [.bl a] = some (.int (b2i a)) := rfl
theorem /-ev-/ int_str : bi .int st [.str u] = if u ≠ [] ∧ u.length ≤ 40 ∧ u.all isDig = true then some (.int (digVal u)) else none := rfl
theorem /-ev-/ str_int : bi .str st [.int i] = if i.natAbs < 2 ^ 1900 then some (.str (intStr i)) else none := rfl
theorem /-ev-/ str_str : bi .str st [.str u] = some (.str u) := rfl
theorem /-ev-/ abs_int : bi .abs st [.int i] = some (.int i.natAbs) := rfl
theorem /-ev-/ bool_bl : bi .bool st [.bl a] = some (.bl a) := rfl
theorem /-ev-/ min_int : bi .min st [.int i, .int j] = some (.int (if j < i then j else i)) := rfl
theorem /-ev-/ max_int : bi .max st [.int i, .int j] = some (.int (if j > i then j else i)) := rfl
theorem /-ev-/ divmod_int : bi .divmod st [.int i, .int j] = if okDiv j = true then some (.tup [.int (i / j), .int (i % j)]) else none := rfl
theorem /-ev-/ tuple_lst : bi .tuple st [.lst xs] = some (.tup xs) := rfl
theorem /-ev-/ tuple_tup : bi .tuple st [.tup xs] = some (.tup xs) := rfl
theorem /-ev-/ list_lst : bi .list st [.lst xs] = some (.lst xs) := rfl
theorem /-ev-/ list_tup : bi .list st [.tup xs] = some (.lst xs) := rfl
theorem /-ev-/ sl_str {lo hi : Option Int} : slice st (.str u) lo hi = some (.str (cut u lo hi)) := rfl
theorem /-ev-/ sl_tup {lo hi : Option Int} : slice st (.tup xs) lo hi = some (.tup (cut xs lo hi)) := rfl
theorem /-ev-/ sl_lst {lo hi : Option Int} : slice st (.lst xs) lo hi = some (.lst (cut xs lo hi)) := rfl
theorem /-ev-/ sl_fl {lo hi : Option Int} : slice st (.fl xs) lo hi = some (.lst (cut xs lo hi)) := rfl
theorem /-ev-/ fmt_str : fmtD (.str u) = some (.str u) := rfl
theorem /-ev-/ fmt_int : fmtD (.int i) = if i.natAbs < 2 ^ 1900 then some (.str (intStr i)) else none := rfl
theorem /-ev-/ cons_lst : consV d (.lst xs) st = if xs.length < LIM then .ok (.lst (d :: xs)) st else .bad := rfl
theorem /-ev-/ lv_lst : listv st (.lst xs) = some xs := rfl
theorem /-ev-/ atI_zero {α : Type} {x : α} {l : List α} : atI (x :: l) 0 = some x := by
  simp [atI, ixN]
theorem atI_nat {α : Type} {l : List α} {k : Nat} : atI l (k : Int) = l[k]? := by
  unfold atI ixN
  by_cases h : (k : Int) < l.length
  · have h2 : k < l.length := by omega
    simp [h]
  · have h2 : l.length ≤ k := by omega
    simp [h, List.getElem?_eq_none h2]
theorem /-ev-/ atI_one {α : Type} {x y : α} {l : List α} : atI (x :: y :: l) 1 = some y := atI_nat (k := 1)
theorem /-ev-/ atI_two {α : Type} {x y z : α} {l : List α} : atI (x :: y :: z :: l) 2 = some z := atI_nat (k := 2)
theorem /-ev-/ atI_three {α : Type} {x y z w : α} {l : List α} : atI (x :: y :: z :: w :: l) 3 = some w := atI_nat (k := 3)
end
theorem /-ev-/ not_f : (!false) = true := rfl
theorem /-ev-/ not_t : (!true) = false := rfl
theorem /-ev-/ testsV_nil {env : Env} {st : Store} : testsV [] env st = .ok true st := rfl
theorem /-ev-/ testsV_one {e : Sem} {env : Env} {st : Store} : testsV [e] env st = e.test env st := rfl
theorem turnV_eq {own : List Nat} {elt : Sem} {p : Pt} {ifs : List Sem} {env : Env} {x : D} {st : Store} : turnV own elt p ifs env x st = match setPt p x (wipe env own) with
  | none => .bad
  | some env => (testsV ifs env st).bind fun t st => if t = true then (elt.val env st).bind fun y st => .ok (some y) st else .ok none st := rfl
section
variable {s : Sl} {env : Env} {n : Nat} {d : D} {xs : List D}
theorem /-ev-/ get_v : Env.get (.v d :: env) 0 = some d := rfl
theorem /-ev-/ get_s : Env.get (s :: env) (n + 1) = Env.get env n := rfl
theorem /-ev-/ pk_v : Env.pk (.v d :: env) 0 = some d := rfl
theorem /-ev-/ pk_o : Env.pk (.own xs :: env) 0 = some (.lst xs) := rfl
theorem /-ev-/ pk_s : Env.pk (s :: env) (n + 1) = Env.pk env n := rfl
theorem /-ev-/ ix_z : (s :: env)[0]? = some s := rfl
theorem /-ev-/ ix_s : (s :: env)[n + 1]? = env[n]? := rfl
theorem /-ev-/ set_z {t : Sl} : List.set (s :: env) 0 t = t :: env := rfl
theorem /-ev-/ set_s {t : Sl} : List.set (s :: env) (n + 1) t = s :: env.set n t := rfl
theorem /-ev-/ wipe_nil : wipe env [] = env := rfl
theorem /-ev-/ wipe_cons {l : List Nat} : wipe env (n :: l) = (wipe env l).set n .em := rfl
theorem /-ev-/ setPt_nm : setPt (.nm n) d env = some (env.set n (.v d)) := rfl
theorem /-ev-/ setPt_tp {ps : List Pt} : setPt (.tp ps) (.tup xs) env = setPts ps xs env := rfl
theorem /-ev-/ setPt_tx {ps : List Pt} {c : Nat} : setPt (.tp ps) (.exc c xs) env = setPts ps xs env := rfl
theorem /-ev-/ setPt_tl {ps : List Pt} : setPt (.tp ps) (.lst xs) env = setPts ps xs env := rfl
theorem /-ev-/ setPts_nil : setPts [] [] env = some env := rfl
theorem /-ev-/ setPts_cons {p : Pt} {ps : List Pt} : setPts (p :: ps) (d :: xs) env = (setPt p d env).bind (setPts ps xs) := rfl
theorem /-ev-/ ob_some {α β : Type} {a : α} {f : α → Option β} : (some a).bind f = f a := rfl
theorem /-ev-/ om_some {α β : Type} {a : α} {f : α → β} : (some a).map f = some (f a) := rfl
theorem /-ev-/ dt_eq {p : Prop} [Decidable p] : (decide p = true) = p := by simp
theorem /-ev-/ df_eq {p : Prop} [Decidable p] : (decide p = false) = ¬ p := by simp
theorem /-ev-/ bn_eq {b : Bool} : ((!b) = true) = (b = false) := by cases b <;> simp
theorem /-ev-/ bf_eq {b : Bool} : ((!b) = false) = (b = true) := by cases b <;> simp
theorem /-ev-/ ne0 {i : Int} : ((i != 0) = true) = (i ≠ 0) := by simp
theorem /-ev-/ len_nil {α : Type} : ([] : List α).length = 0 := rfl
theorem /-ev-/ len_cons {α : Type} {a : α} {l : List α} : (a :: l).length = l.length + 1 := rfl
theorem /-ev-/ map_nil' {α β : Type} {f : α → β} : List.map f [] = [] := rfl
theorem /-ev-/ map_cons' {α β : Type} {f : α → β} {a : α} {l : List α} : List.map f (a :: l) = f a :: l.map f := rfl
theorem /-ev-/ rep_z {α : Type} {a : α} : List.replicate 0 a = [] := rfl
theorem /-ev-/ rep_s {α : Type} {a : α} {n : Nat} : List.replicate (n + 1) a = a :: List.replicate n a := rfl
theorem /-ev-/ app_nil {α : Type} {l : List α} : [] ++ l = l := rfl
theorem /-ev-/ app_cons {α : Type} {a : α} {l m : List α} : (a :: l) ++ m = a :: (l ++ m) := rfl
end
section
variable {p q : Prop} {α : Sort _} {x y : α}
theorem /-ev-/ ft_eq : (false = true) = False := by simp
theorem /-ev-/ tf_eq : (true = false) = False := by simp
theorem /-ev-/ t_imp : (True → p) = p := by simp
theorem /-ev-/ f_imp : (False → p) = True := by simp
theorem /-ev-/ n_t : (¬ True) = False := by simp
theorem /-ev-/ n_f : (¬ False) = True := by simp
theorem /-ev-/ a_t : (p ∧ True) = p := by simp
theorem /-ev-/ t_a : (True ∧ p) = p := by simp
theorem /-ev-/ a_f : (p ∧ False) = False := by simp
theorem /-ev-/ f_a : (False ∧ p) = False := by simp
theorem /-ev-/ i_t : (p → True) = True := by simp
theorem /-ev-/ e_s : (x = x) = True := by simp
theorem /-ev-/ it_t {x y : α} : (if True then x else y) = x := by simp
theorem /-ev-/ it_f {x y : α} : (if False then x else y) = y := by simp
theorem /-ev-/ nn {p : Prop} : (¬ ¬ p) = p := by simp
theorem /-ev-/ n_sub (n : Nat) : n - n = 0 := Nat.sub_self n
end
theorem OP_run {np ns : Nat} {s : StS} {ds : List D} {st : Store} {Q : D → Store → Prop} (h : ds.length = np)
    (r : @RP ⟨fun _ st => Q .non st, Q, fun _ _ => False, fun _ _ => False⟩ (s (ds.map Sl.v ++ List.replicate (ns - ds.length) .em) st)) : @OPi _ ⟨Q⟩ (runF np ns s ds st) := by
  unfold runF
  rw [if_pos h]
  revert r
  generalize s (ds.map Sl.v ++ List.replicate (ns - ds.length) .em) st = r
  cases r <;> exact fun h => h
theorem forL_inv {nx : Env → Store → Prop} {rt : D → Store → Prop} {bk ct : Env → Store → Prop} {body : StS} {p : Pt} {xs : List D} {env : Env} {st : Store} (I : List D → Env → Store → Prop) (h0 : I [] env st)
    (hs : ∀ (pre : List D) (x : D) (post : List D) (env : Env) (st : Store), xs = pre ++ x :: post → I pre env st → ∃ env1, setPt p x env = some env1 ∧ @RP ⟨I (pre ++ [x]), rt, nx, I (pre ++ [x])⟩ (body env1 st))
    (he : ∀ env st, I xs env st → nx env st) : @RP ⟨nx, rt, bk, ct⟩ (forL body p xs env st) := by
  have go : ∀ (post pre : List D) (env : Env) (st : Store), xs = pre ++ post → I pre env st → @RP ⟨nx, rt, bk, ct⟩ (forL body p post env st) := by
    intro post
    induction post with
    | nil =>
      intro pre env st e h
      rw [List.append_nil] at e
      subst e
      exact he env st h
    | cons x post ih =>
      intro pre env st e h
      obtain ⟨env1, e1, h1⟩ := hs pre x post env st e h
      unfold forL
      rw [e1]
      have ih2 := fun env st h => ih (pre ++ [x]) env st (by rw [e]; simp) h
      show @RP ⟨nx, rt, bk, ct⟩ (match body env1 st with
        | .nx env st => forL body p post env st
        | .ct env st => forL body p post env st
        | .bk env st => .nx env st
        | o => o)
      revert h1
      generalize body env1 st = r
      cases r with
      | nx e s => exact fun h => ih2 e s h
      | ct e s => exact fun h => ih2 e s h
      | bk e s => exact fun h => h
      | rt e s => exact fun h => h
      | _ => exact fun h => h.elim
  exact go xs [] env st rfl h0
theorem comp_mapL {α : Type} {f : D → Store → O (Option D)} {enc : α → D} {g : α → D} {st : Store} (l : List α) (hl : l.length ≤ LIM) (h : ∀ a ∈ l, f (enc a) st = .ok (some (g a)) st) : compL f (l.map enc) [] st = .ok (l.map g) st := by
  have go : ∀ (post : List α) (acc : List D), (∀ x ∈ post, f (enc x) st = .ok (some (g x)) st) → acc.length + post.length ≤ LIM → compL f (post.map enc) acc st = .ok (acc ++ post.map g) st := by
    intro post
    induction post with
    | nil => intro acc _ _; simp [compL]
    | cons x post ih =>
      intro acc h hl
      simp only [List.length_cons] at hl
      rw [List.map_cons]
      unfold compL
      rw [h x (by simp)]
      show (if acc.length < LIM then compL f (post.map enc) (acc ++ [g x]) st else .bad) = _
      rw [if_pos (by omega), ih _ (fun y hy => h y (by simp [hy])) (by simp; omega)]
      simp
  have := go l [] h (by simpa using hl)
  simpa using this
theorem OP_eq {α : Type} {o : O α} {r : α} {st : Store} (h : @OPi _ ⟨fun a s => a = r ∧ s = st⟩ o) : o = .ok r st := by
  cases o with
  | ok a s => obtain ⟨h1, h2⟩ := h; rw [h1, h2]
  | _ => exact h.elim
theorem bls_map {α : Type} (g : α → Bool) : ∀ l : List α, bls (l.map fun a => .bl (g a)) = some (l.map g)
  | [] => rfl
  | a :: l => by simp [bls, bls_map g l]
theorem ints_map {α : Type} (g : α → Int) : ∀ l : List α, dInts (l.map fun a => .int (g a)) = some (l.map g)
  | [] => rfl
  | a :: l => by simp [dInts, ints_map g l]
theorem strs_map {α : Type} (g : α → List Nat) : ∀ l : List α, dStrs (l.map fun a => .str (g a)) = some (l.map g)
  | [] => rfl
  | a :: l => by simp [dStrs, strs_map g l]
theorem lim_ge {k : Nat} (h : k ≤ 10000000) : k ≤ LIM := by
  unfold LIM; omega
theorem comp_filterL {α : Type} {f : D → Store → O (Option D)} {enc g : α → D} {P : α → Bool} {st : Store} (l : List α) (hl : l.length ≤ LIM) (h : ∀ a ∈ l, f (enc a) st = .ok (if P a = true then some (g a) else none) st) : compL f (l.map enc) [] st = .ok ((l.filter P).map g) st := by
  have go : ∀ (post : List α) (acc : List D), (∀ x ∈ post, f (enc x) st = .ok (if P x = true then some (g x) else none) st) → acc.length + post.length ≤ LIM → compL f (post.map enc) acc st = .ok (acc ++ (post.filter P).map g) st := by
    intro post
    induction post with
    | nil => intro acc _ _; simp [compL]
    | cons x post ih =>
      intro acc h hl
      simp only [List.length_cons] at hl
      rw [List.map_cons]
      unfold compL
      rw [h x (by simp)]
      by_cases hp : P x = true
      · rw [if_pos hp]
        show (if acc.length < LIM then compL f (post.map enc) (acc ++ [g x]) st else .bad) = _
        rw [if_pos (by omega), ih _ (fun y hy => h y (by simp [hy])) (by simp; omega)]
        simp [hp]
      · rw [if_neg hp]
        show compL f (post.map enc) acc st = _
        rw [ih _ (fun y hy => h y (by simp [hy])) (by omega)]
        simp [hp]
  have := go l [] h (by simpa using hl)
  simpa using this
theorem range0 (m : Int) : rangeD 0 m = (List.range m.toNat).map fun (k : Nat) => D.int (k : Int) := by
  unfold rangeD
  simp
theorem range_at {m : Nat} {pre post : List Nat} {x : Nat} (h : List.range m = pre ++ x :: post) : x = pre.length ∧ pre.length < m := by
  have h1 : (List.range m)[pre.length]? = some x := by rw [h]; simp
  rw [List.getElem?_eq_some_iff] at h1
  obtain ⟨h2, h3⟩ := h1
  simp at h2 h3
  exact ⟨h3.symm, h2⟩
theorem comp_invL {α : Type} {Q : List D → Store → Prop} {f : D → Store → O (Option D)} {enc : α → D} {l : List α} {st : Store} (J : List α → List D → Store → Prop) (hl : l.length ≤ LIM) (h0 : J [] [] st)
    (hs : ∀ (pre : List α) (x : α) (post : List α) (acc : List D) (st : Store), l = pre ++ x :: post → J pre acc st → @OPi _ ⟨fun o st' => match o with
      | some y => J (pre ++ [x]) (acc ++ [y]) st'
      | none => J (pre ++ [x]) acc st'⟩ (f (enc x) st))
    (he : ∀ acc st', J l acc st' → Q acc st') : @OPi _ ⟨Q⟩ (compL f (l.map enc) [] st) := by
  have go : ∀ (post pre : List α) (acc : List D) (st : Store), l = pre ++ post → acc.length ≤ pre.length → J pre acc st → @OPi _ ⟨Q⟩ (compL f (post.map enc) acc st) := by
    intro post
    induction post with
    | nil =>
      intro pre acc st e hl h
      rw [List.append_nil] at e
      subst e
      exact he acc st h
    | cons x post ih =>
      intro pre acc st e hl2 h
      have h1 := hs pre x post acc st e h
      have hlen : l.length = pre.length + (post.length + 1) := by rw [e]; simp
      rw [List.map_cons]
      unfold compL
      revert h1
      generalize f (enc x) st = o
      cases o with
      | ok a s =>
        cases a with
        | none => exact fun h => ih (pre ++ [x]) acc s (by rw [e]; simp) (by simp; omega) h
        | some y =>
          intro h
          show @OPi _ ⟨Q⟩ (if acc.length < LIM then compL f (post.map enc) (acc ++ [y]) s else .bad)
          rw [if_pos (by omega)]
          exact ih (pre ++ [x]) (acc ++ [y]) s (by rw [e]; simp) (by simp; omega) h
      | _ => exact fun h => h.elim
  exact go l [] [] st rfl (Nat.le_refl _) h0
theorem nodup_le {α : Type} [DecidableEq α] : ∀ {l m : List α}, l.Nodup → (∀ x ∈ l, x ∈ m) → l.length ≤ m.length
  | [], _, _, _ => Nat.zero_le _
  | a :: l, m, h, hs => by
    obtain ⟨h1, h2⟩ := List.nodup_cons.mp h
    have ih := nodup_le (l := l) (m := m.erase a) h2 fun x hx => (List.mem_erase_of_ne (fun e => h1 (by rw [← e]; exact hx))).mpr (hs x (by simp [hx]))
    have := List.length_erase_of_mem (hs a (by simp))
    have hp := List.length_pos_of_mem (hs a (by simp))
    simp only [List.length_cons]
    omega
end G
set_option hygiene false in
local macro_rules | `(tactic| simp! only [$ls,*]) => `(tactic| simp only [seval, G.OP_ok, G.OP_bad, G.OP_bind, G.O_of_some, G.O_of_none, G.OP_of_ite, G.OP_ite, G.RP_ite, ↓G.OP_ite_bad, ↓G.RP_ite_bad, G.RP_nx, G.RP_rt, G.RP_bk, G.RP_ct, G.RP_bad, G.RP_run, G.RP_seqR, G.RP_seq, G.RP_pass, G.RP_brk, G.RP_cont, G.RP_ret0, G.RP_badS, G.RP_ret, G.RP_ex, G.RP_nm, G.RP_own, G.ownR_lst, G.RP_if, G.RP_tg, G.RP_par, G.RP_asgn, G.RP_unp, G.RP_for, G.RP_app, G.RP_frz, G.RP_aug, G.aug_add, G.aug_sub, G.ofPut_some, G.putO_nil, G.putO_v, G.putO_o, G.setAll_nil, G.setAll_cons, G.nmT_eq, G.osubR_eq, G.RP_fld, G.val_k, G.val_v, G.val_pk, G.val_op, G.val_neg, G.val_no, G.val_ife, G.val_tup, G.val_lst, G.val_new, G.val_bi, G.val_call, G.val_callK, G.val_mk, G.val_mkK, G.val_mkc, G.get_c, G.val_cm, G.val_isi, G.val_at, G.val_has, G.val_lenO, G.val_strO, G.val_boolO, G.val_ls, G.lsV_lst, G.val_up, G.upD_str, G.val_d0, G.val_d1, G.d1_str, G.val_ch, G.val_split, G.val_join, G.val_fmt, G.val_joined, G.val_cons, G.val_bop, G.val_sl, G.val_lc, G.tst_k, G.tst_v, G.tst_op, G.tst_bi, G.tst_call, G.tst_isi, G.tst_ch, G.tst_has, G.tst_boolO, G.tst_at, G.tst_me, G.tst_no, G.tst_bop, G.tst_ife, G.bopV_one, G.bopV_cons, G.bopT_one, G.bopT_cons, G.args_nil, G.args_cons, G.joinedV_nil, G.joinedV_cons, G.optV_none, G.optV_one, G.optI_int, G.itm_v, G.itm_pk, G.itm_op, G.itm_call, G.itm_at, G.itm_sl, G.itm_lst, G.itm_tup, G.itm_lc, G.itm_rng, G.itm_enum, G.itm_zip, G.rng1, G.vw_int, G.vw_str, G.vw_tup, G.vw_lst, G.vw_bl, G.vw_non, G.add_int, G.add_str, G.add_tup, G.add_lst, G.sub_int, G.mul_int, G.fdiv_int, G.mod_int, G.lt_int, G.le_int, G.gt_int, G.ge_int, G.eq_int, G.ne_int, G.eq_str, G.ne_str, G.is_non, G.isnot_non, G.is_tup, G.isnot_tup, G.is_int, G.isnot_int, G.mem_chr, G.nmem_chr, G.idx_str, G.idx_tup, G.idx_lst, G.idx_fl, G.tr_bl, G.tr_int, G.tr_non, G.tr_str, G.tr_tup, G.tr_lst, G.neg_int, G.sf_tup, G.sf_lst, G.si_tup, G.si_lst, G.si_str, G.sv_tup, G.sv_lst, G.sv_fl, G.len_str, G.len_tup, G.len_lst, G.len_fl, G.int_int, G.int_bl, G.int_str, G.str_int, G.str_str, G.abs_int, G.bool_bl, G.min_int, G.max_int, G.divmod_int, G.tuple_lst, G.tuple_tup, G.list_lst, G.list_tup, G.sl_str, G.sl_tup, G.sl_lst, G.sl_fl, G.fmt_str, G.fmt_int, G.cons_lst, G.lv_lst, G.atI_zero, G.atI_one, G.atI_two, G.atI_three, G.not_f, G.not_t, G.testsV_nil, G.testsV_one, G.get_v, G.get_s, G.pk_v, G.pk_o, G.pk_s, G.ix_z, G.ix_s, G.set_z, G.set_s, G.wipe_nil, G.wipe_cons, G.setPt_nm, G.setPt_tp, G.setPt_tx, G.setPt_tl, G.setPts_nil, G.setPts_cons, G.ob_some, G.om_some, G.dt_eq, G.df_eq, G.bn_eq, G.bf_eq, G.ne0, G.len_nil, G.len_cons, G.map_nil', G.map_cons', G.rep_z, G.rep_s, G.app_nil, G.app_cons, G.ft_eq, G.tf_eq, G.t_imp, G.f_imp, G.n_t, G.n_f, G.a_t, G.t_a, G.a_f, G.f_a, G.i_t, G.e_s, G.it_t, G.it_f, G.nn, G.n_sub, $ls,*])
namespace G
def subV (x k d : D) (env : Env) (st : Store) : R := match x, k with
    | .loc l, .int k => (match st[l]? with
      | some (.lst xs) => match ixN xs.length k with
        | some j => if ltLoc l d then .nx env (st.set l (.lst (xs.set j d))) else .bad
        | none => .bad
      | _ => .bad)
    | _, _ => .bad
theorem /-ev-/ RP_sub {s1 s2 : Sem} {d : D} {env : Env} {st : Store} {nx : Env → Store → Prop} {rt : D → Store → Prop} {bk ct : Env → Store → Prop} : @RP ⟨nx, rt, bk, ct⟩ (subR s1 s2 d env st) = @OPi _ ⟨fun x st => @OPi _ ⟨fun k st => @RP ⟨nx, rt, bk, ct⟩ (subV x k d env st)⟩ (s2.val env st)⟩ (s1.val env st) := by
  unfold subR
  rw [RP_run]
  congr 2
  funext x st
  rw [RP_run]
  rfl
theorem /-ev-/ ixN30 : ixN 3 0 = some 0 := by decide
theorem /-ev-/ ixN31 : ixN 3 1 = some 1 := by decide
theorem /-ev-/ ixN32 : ixN 3 2 = some 2 := by decide
theorem /-ev-/ lt_int' {l : Nat} {i : Int} : ltLoc l (.int i) = true := rfl
theorem /-ev-/ setD_z {d e : D} {xs : List D} : List.set (d :: xs) 0 e = e :: xs := rfl
theorem /-ev-/ setD_s {d e : D} {xs : List D} {n : Nat} : List.set (d :: xs) (n + 1) e = d :: xs.set n e := rfl
theorem /-ev-/ isi_int_int {Γ : Ctx} {st : Store} {i : Int} : isiV Γ st (.int i) .int = some true := rfl
theorem /-ev-/ isi_int_bool {Γ : Ctx} {st : Store} {i : Int} : isiV Γ st (.int i) .bool = some false := rfl
theorem /-ev-/ isi_str_str {Γ : Ctx} {st : Store} {i : List Nat} : isiV Γ st (.str i) .str = some true := rfl
theorem /-ev-/ isi_tup_tup {Γ : Ctx} {st : Store} {i : List D} : isiV Γ st (.tup i) .tuple = some true := rfl
def fldV (Γ : Ctx) (f : Nm) (d x : D) (env : Env) (st : Store) : R := match x with
    | .loc l => (match st[l]? with
      | some (.ins c fs) => if ltLoc l d = true ∧ fs.length < 100 ∧ isFld Γ c f = true then .nx env (st.set l (.ins c (putF f d fs))) else .bad
      | _ => .bad)
    | _ => .bad
theorem /-ev-/ RP_fldV {Γ : Ctx} {f : Nm} {s1 : Sem} {d : D} {env : Env} {st : Store} {nx : Env → Store → Prop} {rt : D → Store → Prop} {bk ct : Env → Store → Prop} : @RP ⟨nx, rt, bk, ct⟩ (fldR Γ f s1 d env st) = @OPi _ ⟨fun x st => @RP ⟨nx, rt, bk, ct⟩ (fldV Γ f d x env st)⟩ (s1.val env st) := by
  rw [RP_fldR]; rfl
theorem pow_i {i j : Int} {st : Store} (h : 0 ≤ j) (h2 : j ≤ 1000) (h3 : i.natAbs < 1000) : op2 .pow st (.int i) (.int j) = some (.int (i ^ j.toNat)) := if_pos ⟨h, h2, h3⟩
theorem /-ev-/ pow6 {st : Store} : op2 .pow st (.int 10) (.int 6) = some (.int 1000000) := pow_i (by decide) (by decide) (by decide)
theorem /-ev-/ pow9 {st : Store} : op2 .pow st (.int 10) (.int 9) = some (.int 1000000000) := pow_i (by decide) (by decide) (by decide)
theorem /-ev-/ pow15 {st : Store} : op2 .pow st (.int 10) (.int 15) = some (.int 1000000000000000) := pow_i (by decide) (by decide) (by decide)
theorem /-ev-/ pow16 {st : Store} : op2 .pow st (.int 10) (.int 16) = some (.int 10000000000000000) := pow_i (by decide) (by decide) (by decide)
theorem /-ev-/ pow17 {st : Store} : op2 .pow st (.int 10) (.int 17) = some (.int 100000000000000000) := pow_i (by decide) (by decide) (by decide)
theorem /-ev-/ pow18 {st : Store} : op2 .pow st (.int 10) (.int 18) = some (.int 1000000000000000000) := pow_i (by decide) (by decide) (by decide)
theorem /-ev-/ pow30 {st : Store} : op2 .pow st (.int 10) (.int 30) = some (.int 1000000000000000000000000000000) := pow_i (by decide) (by decide) (by decide)
theorem /-ev-/ pow33 {st : Store} : op2 .pow st (.int 10) (.int 33) = some (.int 1000000000000000000000000000000000) := pow_i (by decide) (by decide) (by decide)
theorem /-ev-/ lt_ints {l : Nat} {d : D} {ds : List D} : ltLocs l (d :: ds) = (ltLoc l d && ltLocs l ds) := rfl
theorem /-ev-/ lt_nil {l : Nat} : ltLocs l [] = true := rfl
section
variable {env : Env} {st : Store} {x y : Sem} {es : List Sem} {xs : List D} {d : D} {i : Nat} {nx : Env → Store → Prop} {rt : D → Store → Prop} {bk ct : Env → Store → Prop}
theorem /-ev-/ val_sortK {kx : KX} : (sortKE kx x).val env st = (x.val env st).bind fun d st => .of (((listv st d).bind fun xs => sortK (fun x => kx.val env x) xs).map .lst) st := rfl
theorem /-ev-/ itm_sortK {kx : KX} : (sortKE kx x).items env st = ((sortKE kx x).val env st).bind fun x st => .of (seqI x) st := rfl
theorem /-ev-/ val_lrng : (lrngE es).val env st = (args es env st).bind fun ds st => (rngI ds st).bind fun xs st => .ok (.lst xs) st := rfl
theorem /-ev-/ val_eqO {Γ : Ctx} {n : Bool} : (eqOE Γ i n x y).val env st = (x.val env st).bind fun u st => (y.val env st).bind fun v st => eqOV Γ i n u v st := rfl
theorem /-ev-/ tst_eqO {Γ : Ctx} {n : Bool} : (eqOE Γ i n x y).test env st = ((eqOE Γ i n x y).val env st).bind fun x st => .of (truth st x) st := rfl
theorem /-ev-/ val_index : (indexE x y).val env st = (x.val env st).bind fun u st => if isLs u = true then (y.val env st).bind fun v st => .of (mt .index st u [v]) st else .bad := rfl
theorem /-ev-/ val_count : (countE x y).val env st = (x.val env st).bind fun u st => if isLs u = true then (y.val env st).bind fun v st => .of (mt .count st u [v]) st else .bad := rfl
theorem /-ev-/ val_tindex : (tindexE x y).val env st = (x.val env st).bind fun u st => if isTp u = true then (y.val env st).bind fun v st => .of (mt .index st u [v]) st else .bad := rfl
theorem /-ev-/ isTp_tup : isTp (.tup xs) = true := rfl
theorem /-ev-/ val_lc2 {sI sI1 elt : Sem} {own1 own : List Nat} {p1 p : Pt} {ifs1 ifs : List Sem} : (lc2E sI sI1 elt own1 p1 ifs1 own p ifs).val env st = (sI.items env st).bind fun items st => (compL2 (turn2V sI1 elt own1 p1 ifs1 own p ifs env) items [] st).bind fun ds st => .ok (.lst ds) st := rfl
theorem /-ev-/ itm_lc2 {sI sI1 elt : Sem} {own1 own : List Nat} {p1 p : Pt} {ifs1 ifs : List Sem} : (lc2E sI sI1 elt own1 p1 ifs1 own p ifs).items env st = ((lc2E sI sI1 elt own1 p1 ifs1 own p ifs).val env st).bind fun x st => .of (seqI x) st := rfl
theorem /-ev-/ isLs_lst : isLs (.lst xs) = true := rfl
theorem /-ev-/ RP_ins : @RP ⟨nx, rt, bk, ct⟩ (insS i x y env st) = @RP ⟨nx, rt, bk, ct⟩ (match env[i]? with
  | some (.own xs) => (x.val env st).run env fun k st => (y.val env st).run env fun d st => match k with
    | .int k => if 0 ≤ k ∧ k ≤ xs.length ∧ xs.length < LIM then .nx (env.set i (.own (xs.take k.toNat ++ d :: xs.drop k.toNat))) st else .bad
    | _ => .bad
  | _ => .bad) := rfl
end
end G
set_option hygiene false in
local macro_rules | `(tactic| simp! only [$ls,*]) => `(tactic| simp only [seval, G.OP_ok, G.OP_bad, G.OP_bind, G.O_of_some, G.O_of_none, G.OP_of_ite, G.OP_ite, G.RP_ite, ↓G.OP_ite_bad, ↓G.RP_ite_bad, G.RP_nx, G.RP_rt, G.RP_bk, G.RP_ct, G.RP_bad, G.RP_run, G.RP_seqR, G.RP_seq, G.RP_pass, G.RP_brk, G.RP_cont, G.RP_ret0, G.RP_badS, G.RP_ret, G.RP_ex, G.RP_nm, G.RP_own, G.ownR_lst, G.RP_if, G.RP_tg, G.RP_par, G.RP_asgn, G.RP_unp, G.RP_for, G.RP_app, G.RP_frz, G.RP_aug, G.aug_add, G.aug_sub, G.ofPut_some, G.putO_nil, G.putO_v, G.putO_o, G.setAll_nil, G.setAll_cons, G.nmT_eq, G.osubR_eq, G.RP_fld, G.val_k, G.val_v, G.val_pk, G.val_op, G.val_neg, G.val_no, G.val_ife, G.val_tup, G.val_lst, G.val_new, G.val_bi, G.val_call, G.val_callK, G.val_mk, G.val_mkK, G.val_mkc, G.get_c, G.val_cm, G.val_isi, G.val_at, G.val_has, G.val_lenO, G.val_strO, G.val_boolO, G.val_ls, G.lsV_lst, G.val_up, G.upD_str, G.val_d0, G.val_d1, G.d1_str, G.val_ch, G.val_split, G.val_join, G.val_fmt, G.val_joined, G.val_cons, G.val_bop, G.val_sl, G.val_lc, G.tst_k, G.tst_v, G.tst_op, G.tst_bi, G.tst_call, G.tst_isi, G.tst_ch, G.tst_has, G.tst_boolO, G.tst_at, G.tst_me, G.tst_no, G.tst_bop, G.tst_ife, G.bopV_one, G.bopV_cons, G.bopT_one, G.bopT_cons, G.args_nil, G.args_cons, G.joinedV_nil, G.joinedV_cons, G.optV_none, G.optV_one, G.optI_int, G.itm_v, G.itm_pk, G.itm_op, G.itm_call, G.itm_at, G.itm_sl, G.itm_lst, G.itm_tup, G.itm_lc, G.itm_rng, G.itm_enum, G.itm_zip, G.rng1, G.vw_int, G.vw_str, G.vw_tup, G.vw_lst, G.vw_bl, G.vw_non, G.add_int, G.add_str, G.add_tup, G.add_lst, G.sub_int, G.mul_int, G.fdiv_int, G.mod_int, G.lt_int, G.le_int, G.gt_int, G.ge_int, G.eq_int, G.ne_int, G.eq_str, G.ne_str, G.is_non, G.isnot_non, G.is_tup, G.isnot_tup, G.is_int, G.isnot_int, G.mem_chr, G.nmem_chr, G.idx_str, G.idx_tup, G.idx_lst, G.idx_fl, G.tr_bl, G.tr_int, G.tr_non, G.tr_str, G.tr_tup, G.tr_lst, G.neg_int, G.sf_tup, G.sf_lst, G.si_tup, G.si_lst, G.si_str, G.sv_tup, G.sv_lst, G.sv_fl, G.len_str, G.len_tup, G.len_lst, G.len_fl, G.int_int, G.int_bl, G.int_str, G.str_int, G.str_str, G.abs_int, G.bool_bl, G.min_int, G.max_int, G.divmod_int, G.tuple_lst, G.tuple_tup, G.list_lst, G.list_tup, G.sl_str, G.sl_tup, G.sl_lst, G.sl_fl, G.fmt_str, G.fmt_int, G.cons_lst, G.lv_lst, G.atI_zero, G.atI_one, G.atI_two, G.atI_three, G.not_f, G.not_t, G.testsV_nil, G.testsV_one, G.get_v, G.get_s, G.pk_v, G.pk_o, G.pk_s, G.ix_z, G.ix_s, G.set_z, G.set_s, G.wipe_nil, G.wipe_cons, G.setPt_nm, G.setPt_tp, G.setPt_tx, G.setPt_tl, G.setPts_nil, G.setPts_cons, G.ob_some, G.om_some, G.dt_eq, G.df_eq, G.bn_eq, G.bf_eq, G.ne0, G.len_nil, G.len_cons, G.map_nil', G.map_cons', G.rep_z, G.rep_s, G.app_nil, G.app_cons, G.ft_eq, G.tf_eq, G.t_imp, G.f_imp, G.n_t, G.n_f, G.a_t, G.t_a, G.a_f, G.f_a, G.i_t, G.e_s, G.it_t, G.it_f, G.nn, G.n_sub, G.RP_sub, G.ixN30, G.ixN31, G.ixN32, G.lt_int', G.setD_z, G.setD_s, G.isi_int_int, G.isi_int_bool, G.isi_str_str, G.isi_tup_tup, G.RP_fldV, G.pow6, G.pow9, G.pow15, G.pow16, G.pow17, G.pow18, G.pow30, G.pow33, G.lt_ints, G.lt_nil, G.val_sortK, G.itm_sortK, G.val_lrng, G.val_eqO, G.tst_eqO, G.val_index, G.val_count, G.val_tindex, G.isTp_tup, G.val_lc2, G.itm_lc2, G.isLs_lst, G.RP_ins, $ls,*])
namespace G
/-- other places of the store that are kept -/
class FrC where
  fr : List (Nat × Obj)
instance frc0 : FrC := ⟨[]⟩
/-- a well of draws at l, at most n draws mixed so far -/
def Wl [FrC] (l n : Nat) (st : Store) : Prop := ∃ a b c : Int, st[l]? = some (.lst [.int a, .int b, .int c]) ∧ (0 ≤ a ∧ a < 4294967296) ∧ 0 ≤ b ∧ (0 ≤ c ∧ c ≤ n) ∧ ∀ q ∈ FrC.fr, q.1 ≠ l ∧ st[q.1]? = some q.2
section
variable [FrC]
theorem fr_set {l : Nat} {st : Store} {o : Obj} (h : ∀ q ∈ FrC.fr, q.1 ≠ l ∧ st[q.1]? = some q.2) : ∀ q ∈ FrC.fr, q.1 ≠ l ∧ (st.set l o)[q.1]? = some q.2 := fun q hq => ⟨(h q hq).1, by rw [List.getElem?_set_ne (Ne.symm (h q hq).1)]; exact (h q hq).2⟩
theorem Wl.up {l m n : Nat} {st : Store} (h : Wl l m st) (hm : m ≤ n) : Wl l n st := by
  obtain ⟨a, b, c, h1, h2, h3, h4, h5⟩ := h
  exact ⟨a, b, c, h1, h2, h3, by omega, h5⟩
theorem big_lt {i : Int} (h : -(10 ^ 50) ≤ i) (h2 : i ≤ 10 ^ 50) : i.natAbs < BIG := by
  unfold BIG
  have : (10 : Int) ^ 50 < 2 ^ 4000 := by decide +kernel
  omega
theorem okMul_of {i j : Int} (h : -(10 ^ 50) ≤ i) (h2 : i ≤ 10 ^ 50) (h3 : -(10 ^ 50) ≤ j) (h4 : j ≤ 10 ^ 50) : okMul i j = true := by
  unfold okMul
  simp [big_lt h h2, big_lt h3 h4]
theorem okDiv_of {j : Int} (h : 0 < j) (h2 : j ≤ 10 ^ 50) : okDiv j = true := by
  unfold okDiv DIV
  have : (10 : Int) ^ 50 < 2 ^ 4000 := by decide +kernel
  have h3 : j.natAbs < 2 ^ 4000 := by omega
  simp [h, h3]
def SpDip (f : Fd) : Prop := ∀ (l n : Nat) (m : Int) (st : Store), Wl l n st → n ≤ 1000000000 → 1 ≤ m → m ≤ 10 ^ 50 → OP (fun r st' => ∃ k : Int, r = .int k ∧ 0 ≤ k ∧ k < m ∧ Wl l (n + 1) st') (f [.loc l, .int m] st)
theorem sv_loc {l : Nat} {st : Store} {xs : List D} (h : st[l]? = some (.lst xs)) : seqv st (.loc l) = some xs := by
  show (match st[l]? with | some (.lst xs) => some xs | _ => none) = _
  rw [h]
theorem idx_loc {l : Nat} {st : Store} {xs : List D} {i : Int} (h : st[l]? = some (.lst xs)) : op2 .idx st (.loc l) (.int i) = atI xs i := by
  show (seqv st (.loc l)).bind _ = _
  rw [sv_loc h]; rfl
theorem subV_loc {l : Nat} {st : Store} {xs : List D} {k : Int} {d : D} {env : Env} (h : st[l]? = some (.lst xs)) : subV (.loc l) (.int k) d env st = match ixN xs.length k with
    | some j => if ltLoc l d then .nx env (st.set l (.lst (xs.set j d))) else .bad
    | none => .bad := by
  show (match st[l]? with
    | some (.lst xs) => match ixN xs.length k with
      | some j => if ltLoc l d then R.nx env (st.set l (.lst (xs.set j d))) else .bad
      | none => .bad
    | _ => .bad) = _
  rw [h]
theorem idx_set {l : Nat} {st : Store} {xs : List D} {i : Int} (h : l < st.length) : op2 .idx (st.set l (.lst xs)) (.loc l) (.int i) = atI xs i :=
  idx_loc (by rw [List.getElem?_set_self h])
theorem subV_set {l : Nat} {st : Store} {xs : List D} {k : Int} {d : D} {env : Env} (h : l < st.length) : subV (.loc l) (.int k) d env (st.set l (.lst xs)) = match ixN xs.length k with
    | some j => if ltLoc l d then .nx env (st.set l (.lst (xs.set j d))) else .bad
    | none => .bad := by
  rw [subV_loc (by rw [List.getElem?_set_self h])]
  simp only [List.set_set]
theorem sp_dip (Γ : Ctx) : SpDip (runF 2 3 (m_dip Γ)) := by
  intro l n m st ⟨a, b, c, h1, ha, hb, hc, hf⟩ hn hm hm2
  have hl := (List.getElem?_eq_some_iff.mp h1).1
  refine OP_run rfl ?_
  delta m_dip
  simp! only [idx_loc h1]
  refine ⟨fun hb0 => ?_, fun hb0 => ?_⟩
  · refine ⟨okDiv_of (by omega) hm2, ?_⟩
    simp! only [subV_loc h1]
    refine ⟨_, rfl, Int.emod_nonneg _ (by omega), Int.emod_lt_of_pos _ (by omega), a, b / m, c, by rw [List.getElem?_set_self hl], ha, Int.ediv_nonneg hb (by omega), ⟨hc.1, by omega⟩, fr_set hf⟩
  · simp! only [subV_loc h1, idx_set hl, subV_set hl]
    refine ⟨okMul_of (by omega) (by omega) (by omega) (by omega), okMul_of (by omega) (by omega) (by omega) (by omega), okMul_of (by omega) (by omega) (by omega) (by omega), okDiv_of (by omega) (by omega), okDiv_of (by omega) (by omega), okDiv_of (by omega) hm2, ?_⟩
    refine ⟨_, rfl, Int.emod_nonneg _ (by omega), Int.emod_lt_of_pos _ (by omega), _, b, c + 1, by rw [List.getElem?_set_self hl], ⟨Int.emod_nonneg _ (by omega), Int.lt_of_lt_of_le (Int.emod_lt_of_pos _ (by omega)) (by omega)⟩, hb, ⟨by omega, by omega⟩, fr_set hf⟩
end
end G
namespace G
def letS : List Nat := [97, 98, 99, 100, 101, 102, 103, 104, 105, 106, 107, 108, 109, 110, 111, 112, 113, 114, 115, 116, 117, 118, 119, 120, 121, 122]
def digS : List Nat := [48, 49, 50, 51, 52, 53, 54, 55, 56, 57]
def isSign (c : Nat) : Bool := letS.contains c || digS.contains c
def isNameS (s : List Nat) : Bool := decide (1 ≤ s.length ∧ s.length ≤ 8) && (letS.contains (s.getD 0 0) && s.all isSign)
def SpInt (f : Fd) : Prop := ∀ i st, f [.int i] st = .ok (.bl true) st
theorem sp_integer (Γ : Ctx) : SpInt (runF 1 1 (m_is_integer Γ)) := by
  intro i st
  apply OP_eq
  refine OP_run rfl ?_
  delta m_is_integer
  simp! only []
def SpWithin (f : Fd) : Prop := ∀ i a b st, f [.int i, .int a, .int b] st = .ok (.bl (decide (a ≤ i ∧ i ≤ b))) st
theorem sp_within (Γ : Ctx) {f : Fd} (h : SpInt f) : SpWithin (runF 3 3 (m_is_within Γ f)) := by
  intro i a b st
  apply OP_eq
  refine OP_run rfl ?_
  delta m_is_within
  simp! only [h i]
  by_cases h1 : a ≤ i
  · simp! only [h1, decide_true]
  · simp! only [h1, decide_false]
def SpName (f : Fd) : Prop := ∀ s st, f [.str s] st = .ok (.bl (isNameS s)) st
theorem atI_getD {α : Type} {l : List α} {d : α} {k : Nat} (h : k < l.length) : atI l (k : Int) = some (l.getD k d) := by
  rw [atI_nat, List.getD_eq_getElem?_getD, List.getElem?_eq_getElem h]; rfl
theorem sp_name (Γ : Ctx) : SpName (runF 1 2 (m_is_name Γ)) := by
  intro s st
  apply OP_eq
  refine OP_run rfl ?_
  delta m_is_name
  simp! only []
  have e1 : ((1 : Int) ≤ s.length) = (1 ≤ s.length) := by apply propext; omega
  have e2 : ((s.length : Int) ≤ 8) = (s.length ≤ 8) := by apply propext; omega
  simp only [e1, e2]
  have no : ¬ (1 ≤ s.length ∧ s.length ≤ 8) → isNameS s = false := fun h => by unfold isNameS; rw [decide_eq_false h]; rfl
  refine ⟨fun h1 => ⟨fun h2 => by rw [no (by omega)], fun h2 => ?_⟩, fun h1 => by rw [no (by omega)]⟩
  have h2 : s.length ≤ 8 := by simpa using h2
  have e0 : atI s 0 = some (s.getD 0 0) := atI_getD (k := 0) (by omega)
  have e3 : isNameS s = (letS.contains (s.getD 0 0) && s.all isSign) := by
    unfold isNameS
    rw [decide_eq_true ⟨h1, h2⟩]; rfl
  simp! only [e0, e3]
  refine ⟨fun hc => ?_, fun hc => ?_⟩
  · have hc : letS.contains (s.getD 0 0) = true := hc
    rw [comp_mapL (g := fun c => .bl (isSign c)) s (lim_ge (by omega)) fun a ha => ?_]
    · simp! only [bi, lv_lst, bls_map, List.all_map, hc, Bool.true_and]
      rw [e3, hc, Bool.true_and]; rfl
    · apply OP_eq
      simp! only [turnV_eq]
      refine ⟨fun h => ?_, fun h => ?_⟩
      · have h : letS.contains a = false := h
        unfold isSign
        rw [h]
        exact rfl
      · have h : ¬ letS.contains a = false := h
        unfold isSign
        have h : letS.contains a = true := eq_true_of_ne_false h
        rw [h]
        exact congrArg (fun b => some (D.bl b)) h
  · have hc : ¬ letS.contains (s.getD 0 0) = true := hc
    have hc : letS.contains (s.getD 0 0) = false := eq_false_of_ne_true hc
    rw [hc]
    exact congrArg D.bl hc
end G
namespace G
theorem dch (k : Nat) (h : k < 10) : (Nat.digitChar k).toNat = 48 + k := by
  have : k = 0 ∨ k = 1 ∨ k = 2 ∨ k = 3 ∨ k = 4 ∨ k = 5 ∨ k = 6 ∨ k = 7 ∨ k = 8 ∨ k = 9 := by omega
  rcases this with rfl | rfl | rfl | rfl | rfl | rfl | rfl | rfl | rfl | rfl <;> rfl
theorem toDigits_rec (n : Nat) : Nat.toDigits 10 n = if n < 10 then [Nat.digitChar n] else Nat.toDigits 10 (n / 10) ++ [Nat.digitChar (n % 10)] := by
  rw [Nat.toDigits_eq_if (by decide)]
theorem natStr_rec (n : Nat) : natStr n = if n < 10 then [48 + n] else natStr (n / 10) ++ [48 + n % 10] := by
  unfold natStr
  rw [toDigits_rec]
  split
  · rename_i h
    simp [dch n h]
  · simp [dch (n % 10) (Nat.mod_lt _ (by decide))]
theorem natStr_dig : ∀ n : Nat, ∀ c ∈ natStr n, isDig c = true := by
  intro n
  induction n using Nat.strongRecOn with
  | _ n ih =>
    intro c hc
    rw [natStr_rec] at hc
    split at hc
    · simp at hc; subst hc; unfold isDig; simp; omega
    · rename_i h
      rcases List.mem_append.mp hc with hc | hc
      · exact ih (n / 10) (by omega) c hc
      · simp at hc; subst hc; unfold isDig; simp; omega
theorem digVal_app (a : List Nat) (c : Nat) : digVal (a ++ [c]) = 10 * digVal a + (c - 48) := by
  unfold digVal; rw [List.foldl_append]; rfl
theorem natStr_val : ∀ n : Nat, digVal (natStr n) = n := by
  intro n
  induction n using Nat.strongRecOn with
  | _ n ih =>
    rw [natStr_rec]
    split
    · show 10 * 0 + (48 + n - 48) = n; omega
    · rename_i h
      rw [digVal_app, ih (n / 10) (by omega)]
      omega
theorem natStr_len' : ∀ (k n : Nat), n < 10 ^ (k + 1) → (natStr n).length ≤ k + 1 := by
  intro k
  induction k with
  | zero => intro n h; rw [natStr_rec, if_pos (by simpa using h)]; simp
  | succ k ih =>
    intro n h
    rw [natStr_rec]
    split
    · simp
    · rw [List.length_append]
      have := ih (n / 10) (by rw [Nat.pow_succ] at h; omega)
      simpa using this
theorem intStr_nat (n : Nat) : intStr (n : Int) = natStr n := rfl
theorem small_str {i : Int} (h : -(10 ^ 50) ≤ i) (h2 : i ≤ 10 ^ 50) : i.natAbs < 2 ^ 1900 := by
  have : (10 : Int) ^ 50 < 2 ^ 1900 := by decide +kernel
  omega
structure Row where
  nm : List Nat
  num : Int
  sc : Int
def encR (r : Row) : D := .tup [.str r.nm, .int r.num, .int r.sc]
structure RowOk (r : Row) : Prop where
  nm : isNameS r.nm = true
  n1 : 1 ≤ r.num
  n2 : r.num ≤ 10 ^ 30
  s1 : 0 ≤ r.sc
  s2 : r.sc ≤ 10 ^ 33
structure RowsOk (rs : List Row) : Prop where
  l1 : 1 ≤ rs.length
  l6 : rs.length ≤ 6
  ok : ∀ r ∈ rs, RowOk r
  nd : (rs.map (·.nm)).Nodup
def rowText (r : Row) : List Nat := r.nm ++ 32 :: (intStr r.num ++ 32 :: intStr r.sc)
def headText (p : Int) : List Nat := [112, 111, 105, 110, 116, 115, 32] ++ intStr p
def listText (p : Int) (rs : List Row) : List Nat := joinS [10] (headText p :: rs.map rowText)
section
variable {st : Store}
theorem okEqs_strs {α : Type} {n : Nat} (g : α → List Nat) : ∀ l : List α, okEqs n (l.map fun a => .str (g a)) = true
  | [] => by cases n <;> rfl
  | a :: l => by
    have ih := okEqs_strs (n := n) g l
    cases n <;> simp [okEqs, okEq, ih]
theorem mem_strs {α : Type} {g : α → List Nat} {l : List α} {u : List Nat} : op2 .mem st (.str u) (.lst (l.map fun a => .str (g a))) = some (.bl (l.any fun a => g a == u)) := by
  show (if (okEq 64 (.str u) && okEqs 64 (l.map fun a => D.str (g a))) = true then some (D.bl ((l.map fun a => D.str (g a)).any fun z => pyEq z (.str u))) else none) = _
  rw [okEqs_strs g l]
  simp [okEq, List.any_map, Function.comp_def, pyEq]
theorem nmem_strs {α : Type} {g : α → List Nat} {l : List α} {u : List Nat} : op2 .nmem st (.str u) (.lst (l.map fun a => .str (g a))) = some (.bl (!l.any fun a => g a == u)) := by
  show (if (okEq 64 (.str u) && okEqs 64 (l.map fun a => D.str (g a))) = true then some (D.bl (!(l.map fun a => D.str (g a)).any fun z => pyEq z (.str u))) else none) = _
  rw [okEqs_strs g l]
  simp [okEq, List.any_map, Function.comp_def, pyEq]
end
theorem forL_invL {α : Type} {nx : Env → Store → Prop} {rt : D → Store → Prop} {bk ct : Env → Store → Prop} {body : StS} {p : Pt} {enc : α → D} {l : List α} {env : Env} {st : Store} (I : List α → Env → Store → Prop) (h0 : I [] env st)
    (hs : ∀ (pre : List α) (x : α) (post : List α) (env : Env) (st : Store), l = pre ++ x :: post → I pre env st → ∃ env1, setPt p (enc x) env = some env1 ∧ @RP ⟨I (pre ++ [x]), rt, nx, I (pre ++ [x])⟩ (body env1 st))
    (he : ∀ env st, I l env st → nx env st) : @RP ⟨nx, rt, bk, ct⟩ (forL body p (l.map enc) env st) := by
  refine forL_inv (fun pre env st => ∃ pr, pre = pr.map enc ∧ (∃ po, l = pr ++ po) ∧ I pr env st) ⟨[], rfl, ⟨l, rfl⟩, h0⟩ ?_ ?_
  · intro pre x post env st e ⟨pr, e1, ⟨po, e2⟩, hI⟩
    subst e1
    rw [e2, List.map_append] at e
    have e3 := List.append_cancel_left e
    cases po with
    | nil => simp at e3
    | cons a po =>
      simp only [List.map_cons, List.cons.injEq] at e3
      obtain ⟨rfl, e4⟩ := e3
      obtain ⟨env1, h1, h2⟩ := hs pr a po env st e2 hI
      have up : ∀ e s, I (pr ++ [a]) e s → ∃ p2, pr.map enc ++ [enc a] = p2.map enc ∧ (∃ po, l = p2 ++ po) ∧ I p2 e s := fun e s h => ⟨pr ++ [a], by simp, ⟨po, by rw [e2]; simp⟩, h⟩
      exact ⟨env1, h1, h2.mono up (fun _ _ h => h) (fun _ _ h => h) up⟩
  · intro env st ⟨pr, e1, ⟨po, e2⟩, hI⟩
    have : po = [] := by
      have hl := congrArg List.length e1
      rw [e2] at hl
      simp at hl
      exact List.length_eq_zero_iff.mp (by simpa using hl)
    subst this
    rw [List.append_nil] at e2
    subst e2
    exact he env st hI
theorem enum_map {α : Type} (enc : α → D) (l : List α) : enumD (l.map enc) = (l.zipIdx).map fun p => .exc 0 [.int p.2, enc p.1] := by
  unfold enumD
  rw [List.zipIdx_map, List.map_map]
  rfl
theorem forL_enum {α : Type} {nx : Env → Store → Prop} {rt : D → Store → Prop} {bk ct : Env → Store → Prop} {body : StS} {p : Pt} {enc : α → D} {l : List α} {env : Env} {st : Store} (I : List α → Env → Store → Prop) (h0 : I [] env st)
    (hs : ∀ (pre : List α) (x : α) (post : List α) (env : Env) (st : Store), l = pre ++ x :: post → I pre env st → ∃ env1, setPt p (.exc 0 [.int (pre.length : Int), enc x]) env = some env1 ∧ @RP ⟨I (pre ++ [x]), rt, nx, I (pre ++ [x])⟩ (body env1 st))
    (he : ∀ env st, I l env st → nx env st) : @RP ⟨nx, rt, bk, ct⟩ (forL body p (enumD (l.map enc)) env st) := by
  rw [enum_map]
  refine forL_invL (fun pre env st => pre = (pre.map (·.1)).zipIdx ∧ I (pre.map (·.1)) env st) ⟨rfl, h0⟩ ?_ ?_
  · intro pre x post env st e ⟨e1, hI⟩
    have hl : l = pre.map (·.1) ++ x.1 :: post.map (·.1) := by
      have := congrArg (List.map (·.1)) e
      rw [List.map_append, List.map_cons] at this
      rw [← this]
      simp
    have hx : x.2 = pre.length := by
      have h2 : (l.zipIdx)[pre.length]? = some x := by rw [e]; simp
      rw [List.getElem?_zipIdx] at h2
      cases hq : l[pre.length]? with
      | none => rw [hq] at h2; cases h2
      | some q => rw [hq] at h2; simp at h2; rw [← h2]
    obtain ⟨env1, h1, h2⟩ := hs (pre.map (·.1)) x.1 (post.map (·.1)) env st hl hI
    rw [List.length_map] at h1
    have up : ∀ e s, I (pre.map (·.1) ++ [x.1]) e s → (pre ++ [x] = ((pre ++ [x]).map (·.1)).zipIdx ∧ I ((pre ++ [x]).map (·.1)) e s) := fun e s h => by
      refine ⟨?_, by simpa using h⟩
      rw [List.map_append, List.zipIdx_append, ← e1]
      simp [← hx]
    refine ⟨env1, by rw [hx]; exact h1, h2.mono up (fun _ _ h => h) (fun _ _ h => h) up⟩
  · intro env st ⟨e1, hI⟩
    refine he env st ?_
    have : (l.zipIdx).map (·.1) = l := by simp
    rw [this] at hI
    exact hI
end G
namespace G
def SpChkPts (f : Fd) : Prop := ∀ p st, 1 ≤ p → p ≤ 9 → f [.int p] st = .ok .non st
theorem sp_chkpts (Γ : Ctx) {x : Nat} {f : Fd} (hf : SpWithin f) : SpChkPts (runF 1 1 (m_check_points Γ f x)) := by
  intro p st h1 h2
  apply OP_eq
  refine OP_run rfl ?_
  delta m_check_points
  have e1 : decide ((1 : Int) ≤ p ∧ p ≤ 9) = true := decide_eq_true ⟨h1, h2⟩
  simp! only [hf p, e1]
structure LC (Γ : Ctx) (c : Nat) (K : Cl) : Prop where
  at_ : Γ.cls c = some K
  flds : K.fields = [6, 7]
  frz : K.frozen = true
def encL (rs : List Row) : D := .tup (rs.map encR)
def objL (c : Nat) (p : Int) (rs : List Row) : D := .obj c [.int p, encL rs]
section
variable {Γ : Ctx} {c : Nat} {K : Cl}
theorem LC.prop (L : LC Γ c K) {f : Nm} {g : Nat} {p : Int} {rs : List Row} {st : Store} {d : D} (hf : f ≠ 6 ∧ f ≠ 7) (hp : K.props.lookup f = some g) (hg : Γ.call g [objL c p rs] st = .ok d st) : atV Γ f (objL c p rs) st = .ok d st := by
  unfold atV
  have e : fldv Γ st f (objL c p rs) = none := by
    show (Γ.cls c).bind (fun k => (k.fields.zip [.int p, encL rs]).lookup f) = _
    rw [L.at_]
    show (K.fields.zip _).lookup f = _
    rw [L.flds]
    have e1 : (f == 6) = false := by simpa using hf.1
    have e2 : (f == 7) = false := by simpa using hf.2
    simp [List.lookup, e1, e2]
  rw [e]
  show (match (some (c, [D.int p, encL rs])).bind fun q => (Γ.cls q.1).bind fun k => k.props.lookup f with
    | some g => (Γ.call g [objL c p rs] st).hush
    | none => .bad) = _
  have e2 : ((some (c, [D.int p, encL rs])).bind fun q => (Γ.cls q.1).bind fun k => k.props.lookup f) = some g := by
    show (Γ.cls c).bind _ = _
    rw [L.at_]; exact hp
  rw [e2]
  show (Γ.call g [objL c p rs] st).hush = _
  rw [hg]; rfl
end
end G
namespace G
section
variable {Γ : Ctx} {c : Nat} {K : Cl} {p : Int} {rs : List Row} {st : Store}
theorem idx_row1 {r : Row} : op2 .idx st (encR r) (.int 1) = some (.int r.num) := rfl
theorem idx_row2 {r : Row} : op2 .idx st (encR r) (.int 2) = some (.int r.sc) := rfl
end
end G
namespace G
section
variable [FrC] {Γ : Ctx} {f : Fd}
def SpRange (f : Fd) (cost : Nat) (lo hi : Int) : Prop := ∀ (l n : Nat) (st : Store), Wl l n st → n + cost ≤ 1000000000 → OP (fun r st' => ∃ k : Int, r = .int k ∧ lo ≤ k ∧ k ≤ hi ∧ Wl l (n + cost) st') (f [.loc l] st)
theorem sp_number (hd : SpDip f) : SpRange (runF 1 2 (m_number Γ f)) 3 1 (10 ^ 30) := by
  intro l n st hw hn
  refine OP_run rfl ?_
  delta m_number
  simp! only []
  refine (hd l n 4 st hw (by omega) (by omega) (by omega)).mono ?_
  rintro _ st1 ⟨k, rfl, hk0, hk1, hw1⟩
  simp! only []
  refine ⟨fun h0 => ?_, fun h0 => ⟨fun h1 => ?_, fun h1 => ⟨fun h2 => ?_, fun h2 => ?_⟩⟩⟩
  · refine (hd l _ 4 st1 hw1 (by omega) (by omega) (by omega)).mono ?_
    rintro _ st2 ⟨k2, rfl, h2, h3, hw2⟩
    simp! only []
    exact ⟨_, rfl, by omega, by omega, hw2.up (by omega)⟩
  · refine (hd l _ 1000000 st1 hw1 (by omega) (by omega) (by omega)).mono ?_
    rintro _ st2 ⟨k2, rfl, h2, h3, hw2⟩
    simp! only []
    exact ⟨_, rfl, by omega, by omega, hw2.up (by omega)⟩
  · refine (hd l _ 3 st1 hw1 (by omega) (by omega) (by omega)).mono ?_
    rintro _ st2 ⟨k2, rfl, h2, h3, hw2⟩
    simp! only []
    exact ⟨_, rfl, by omega, by omega, hw2.up (by omega)⟩
  · refine (hd l _ 1000000000000000 st1 hw1 (by omega) (by omega) (by omega)).mono ?_
    rintro _ st2 ⟨k2, rfl, h2, h3, hw2⟩
    simp! only []
    refine ⟨okMul_of (by omega) (by omega) (by omega) (by omega), ?_⟩
    refine (hd l _ 1000000000000000 st2 hw2 (by omega) (by omega) (by omega)).mono ?_
    rintro _ st3 ⟨k3, rfl, h4, h5, hw3⟩
    simp! only []
    exact ⟨_, rfl, by omega, by omega, hw3.up (by omega)⟩
/-- so many different names -/
def SpNames (f : Fd) : Prop := ∀ (l n : Nat) (m : Int) (st : Store), Wl l n st → n + 200 ≤ 1000000000 → 1 ≤ m → m ≤ 8 → OP (fun r st' => ∃ ns : List (List Nat), r = .lst (ns.map .str) ∧ (ns.length : Int) = m ∧ (∀ s ∈ ns, isNameS s = true) ∧ ns.Nodup ∧ Wl l (n + 200) st') (f [.loc l, .int m] st)
def sg36 : List Nat := [97, 98, 99, 100, 101, 102, 103, 104, 105, 106, 107, 108, 109, 110, 111, 112, 113, 114, 115, 116, 117, 118, 119, 120, 121, 122, 48, 49, 50, 51, 52, 53, 54, 55, 56, 57]
def wordsS : List (List Nat) := [[112, 111, 105, 110, 116, 115], [116, 97, 107, 101, 115], [110, 101, 118, 101, 114], [97, 98, 111, 118, 101], [97, 108, 108], [97], [98], [110, 111, 110, 101]]
theorem sg_let : ∀ k, k < 26 → letS.contains (sg36.getD k 0) = true := by decide
theorem sg_sign : ∀ k, k < 36 → isSign (sg36.getD k 0) = true := by decide
theorem words_ok : ∀ w ∈ wordsS, isNameS w = true := by decide
theorem sg_at {k : Int} (h : 0 ≤ k) (h2 : k < 36) : atI sg36 k = some (sg36.getD k.toNat 0) := by
  obtain ⟨n, rfl⟩ := Int.eq_ofNat_of_zero_le h
  exact atI_getD (by show n < 36; omega)
theorem let_sign {c : Nat} (h : letS.contains c = true) : isSign c = true := by unfold isSign; rw [h]; rfl
theorem mk_name {c : Nat} {r : List Nat} (h : letS.contains c = true) (h2 : r.all isSign = true) (h3 : r.length ≤ 7) : isNameS (c :: r) = true := by
  unfold isNameS
  have : decide (1 ≤ (c :: r).length ∧ (c :: r).length ≤ 8) = true := decide_eq_true ⟨by simp, by simp; omega⟩
  rw [this]
  simp [List.all_cons, h2, let_sign h]
  simpa using h
theorem z_name {k : Nat} (h : k < 10) : isNameS (122 :: natStr k) = true := by
  rw [natStr_rec, if_pos h]
  have : k = 0 ∨ k = 1 ∨ k = 2 ∨ k = 3 ∨ k = 4 ∨ k = 5 ∨ k = 6 ∨ k = 7 ∨ k = 8 ∨ k = 9 := by omega
  rcases this with rfl | rfl | rfl | rfl | rfl | rfl | rfl | rfl | rfl | rfl <;> decide
theorem joins_nil : ∀ cs : List Nat, joinS [] (cs.map fun c => [c]) = cs
  | [] => rfl
  | [c] => rfl
  | c :: d :: r => by
    show (([c] ++ []) ++ joinS [] ((d :: r).map fun c => [c])) = _
    rw [joins_nil (d :: r)]; rfl
theorem lenSum_one : ∀ cs : List Nat, lenSum (cs.map fun c => [c]) = cs.length
  | [] => rfl
  | c :: r => by show 1 + lenSum (r.map fun c => [c]) = _; rw [lenSum_one r, List.length_cons]; omega
theorem join_signs {st : Store} {cs : List Nat} (h : cs.length ≤ 1000) : mt .join st (.str []) [.lst (cs.map fun c => .str [c])] = some (.str cs) := by
  show ((dStrs (cs.map fun c => D.str [c])).bind fun ss => if lenSum ss + 0 * ss.length ≤ LIM then some (D.str (joinS [] ss)) else none) = _
  rw [strs_map (fun c => [c]) cs]
  show (if lenSum (cs.map fun c => [c]) + 0 * _ ≤ LIM then some (D.str (joinS [] (cs.map fun c => [c]))) else none) = _
  rw [lenSum_one, joins_nil, if_pos (lim_ge (by omega))]
def zsL (m : Nat) : List (List Nat) := (List.range m).map fun k => 122 :: natStr k
theorem zcomp {st : Store} {m : Nat} {a0 a1 a2 a3 a4 a5 a6 a7 a8 a9 a10 : Sl} (h : m ≤ 8) : compL (turnV [9] (opE .add (kE (.str [122])) (biE .str [vE 9])) (.nm 9) [] [a0, a1, a2, a3, a4, a5, a6, a7, a8, a9, a10]) ((List.range m).map fun (k : Nat) => D.int (k : Int)) [] st = .ok ((zsL m).map D.str) st := by
  rw [comp_mapL (g := fun k => D.str (122 :: natStr k)) (List.range m) (lim_ge (by rw [List.length_range]; omega)) fun k hk => ?_]
  · unfold zsL; rw [List.map_map]; rfl
  · have hk : k < m := by simpa using hk
    have e1 : (k : Int).natAbs < 2 ^ 1900 := small_str (by omega) (by omega)
    apply OP_eq
    simp! only [turnV_eq, e1, intStr_nat]
    have := natStr_len' 39 k (by omega)
    exact lim_ge (by omega)
theorem fcomp {st : Store} {ns l : List (List Nat)} {a0 a1 a2 a3 a4 a6 a7 a8 a9 a10 : Sl} (h : l.length ≤ 1000) : compL (turnV [10] (vE 10) (.nm 10) [opE .nmem (vE 10) (pkE 5)] [a0, a1, a2, a3, a4, .own (ns.map D.str), a6, a7, a8, a9, a10]) (l.map D.str) [] st = .ok ((l.filter fun w => !ns.contains w).map D.str) st := by
  refine comp_filterL l (lim_ge (by omega)) fun w hw => ?_
  have e : op2 .nmem st (.str w) (.lst (ns.map D.str)) = some (.bl (!ns.contains w)) := by
    have := nmem_strs (st := st) (g := fun x => x) (l := ns) (u := w)
    rw [this, List.any_beq']
  apply OP_eq
  simp! only [turnV_eq, e]
  by_cases hc : ns.contains w = true
  · simp! only [hc]
  · have hc : ns.contains w = false := by simpa using hc
    simp! only [hc]
theorem natStr_inj {a b : Nat} (h : natStr a = natStr b) : a = b := by
  have := congrArg digVal h
  rwa [natStr_val, natStr_val] at this
theorem zs_nodup (m : Nat) : (zsL m).Nodup := by
  unfold zsL
  refine List.Pairwise.map _ (fun a b hab => ?_) List.nodup_range
  intro e
  exact hab (natStr_inj (by simpa using e))
theorem fresh_pick {ns : List (List Nat)} {w : List Nat} {m : Nat} (hw : isNameS w = true) (hl : ns.length < m) (hm : m ≤ 8) :
    ∃ x, atI (((w :: zsL m).filter fun v => !ns.contains v).map D.str) 0 = some (.str x) ∧ isNameS x = true ∧ x ∉ ns := by
  have hex : ∃ z ∈ zsL m, z ∉ ns := by
    apply Classical.byContradiction
    intro hn
    have := nodup_le (zs_nodup m) (m := ns) fun x hx => by
      apply Classical.byContradiction
      intro hx2
      exact hn ⟨x, hx, hx2⟩
    unfold zsL at this
    simp at this
    omega
  obtain ⟨z, hz, hz2⟩ := hex
  have hin : z ∈ (w :: zsL m).filter fun v => !ns.contains v := by
    rw [List.mem_filter]
    exact ⟨by simp [hz], by simpa using hz2⟩
  cases e : (w :: zsL m).filter fun v => !ns.contains v with
  | nil => rw [e] at hin; cases hin
  | cons x r =>
    have hx : x ∈ (w :: zsL m).filter fun v => !ns.contains v := by rw [e]; simp
    rw [List.mem_filter] at hx
    refine ⟨x, by rw [List.map_cons, atI_zero], ?_, by simpa using hx.2⟩
    rcases List.mem_cons.mp hx.1 with rfl | hx1
    · exact hw
    · unfold zsL at hx1
      obtain ⟨k, hk, rfl⟩ := List.mem_map.mp hx1
      have : k < m := by simpa using hk
      exact z_name (by omega)
theorem sp_names (hd : SpDip f) : SpNames (runF 2 11 (m_names Γ f)) := by
  intro l n m st hw hn h1 h2
  refine OP_run rfl ?_
  delta m_names
  simp! only []
  refine ⟨⟨by unfold LIM; omega, by unfold LIM; omega⟩, ?_⟩
  rw [range0]
  refine forL_invL (fun (pre : List Nat) env st' => ∃ (ns : List (List Nat)) (s3 s6 s7 s8 s9 s10 : Sl), env = [.v (.loc l), .v (.int m), .v (.lst (wordsS.map .str)), s3, .v (.str sg36), .own (ns.map .str), s6, s7, s8, s9, s10] ∧ ns.length = pre.length ∧ (∀ s ∈ ns, isNameS s = true) ∧ ns.Nodup ∧ Wl l (n + 20 * pre.length) st') ⟨[], _, _, _, _, _, _, rfl, rfl, by simp, List.nodup_nil, hw⟩ ?_ ?_
  · rintro pre x post env st1 e ⟨ns, s3, s6, s7, s8, s9, s10, rfl, hl, hok, hnd, hw1⟩
    obtain ⟨rfl, hx⟩ := range_at e
    have hp : pre.length < 8 := by omega
    refine ⟨_, by simp! only []; rfl, ?_⟩
    simp! only []
    refine (hd l _ 4 st1 hw1 (by omega) (by omega) (by omega)).mono ?_
    rintro _ st2 ⟨k, rfl, hk0, hk1, hw2⟩
    simp! only []
    -- the size
    have size : ∀ (Q : D → Store → Prop), (∀ (z : Int) (st3 : Store), 0 ≤ z → z < 8 → Wl l (n + 20 * pre.length + 2) st3 → Q (.int z) st3) → (k = 0 → OP Q (f [.loc l, .int 8] st2)) ∧ (¬ k = 0 → OP Q (f [.loc l, .int 2] st2)) := by
      intro Q h
      refine ⟨fun _ => ?_, fun _ => ?_⟩
      · refine (hd l _ 8 st2 hw2 (by omega) (by omega) (by omega)).mono ?_
        rintro _ st3 ⟨z, rfl, hz0, hz1, hw3⟩
        exact h z st3 hz0 (by omega) (hw3.up (by omega))
      · refine (hd l _ 2 st2 hw2 (by omega) (by omega) (by omega)).mono ?_
        rintro _ st3 ⟨z, rfl, hz0, hz1, hw3⟩
        exact h z st3 hz0 (by omega) (hw3.up (by omega))
    refine size _ fun z st3 hz0 hz1 hw3 => ?_
    simp! only []
    refine (hd l _ 26 st3 hw3 (by omega) (by omega) (by omega)).mono ?_
    rintro _ st4 ⟨c, rfl, hc0, hc1, hw4⟩
    have hsg := sg_at hc0 (by omega : c < 36)
    have hlet := sg_let c.toNat (by omega)
    simp! only [hsg, range0]
    refine ⟨⟨by unfold LIM; omega, by unfold LIM; omega⟩, ?_⟩
    refine comp_invL (fun (pr : List Nat) acc st' => ∃ cs : List Nat, acc = cs.map (fun c => D.str [c]) ∧ cs.length = pr.length ∧ cs.all isSign = true ∧ Wl l (n + 20 * pre.length + 3 + pr.length) st') (lim_ge (by rw [List.length_range]; omega)) ⟨[], rfl, rfl, rfl, hw4⟩ ?_ ?_
    · rintro pr y po acc st5 e5 ⟨cs, rfl, hcl, hcs, hw5⟩
      obtain ⟨rfl, hy⟩ := range_at e5
      simp! only [turnV_eq]
      refine (hd l _ 36 st5 hw5 (by omega) (by omega) (by omega)).mono ?_
      rintro _ st6 ⟨c2, rfl, hc20, hc21, hw6⟩
      simp! only [sg_at hc20 hc21]
      have hsn := sg_sign c2.toNat (by omega)
      exact ⟨cs ++ [sg36.getD c2.toNat 0], by simp, by simp [hcl], by rw [List.all_append, hcs, List.all_cons, hsn]; rfl, hw6.up (by simp; omega)⟩
    rintro acc st5 ⟨cs, rfl, hcl, hcs, hw5⟩
    rw [List.length_range] at hcl hw5
    have hname : isNameS (sg36.getD c.toNat 0 :: cs) = true := mk_name hlet hcs (by omega)
    simp! only [join_signs (show cs.length ≤ 1000 by omega)]
    refine ⟨lim_ge (by omega), ?_⟩
    refine (hd l _ 5 st5 hw5 (by omega) (by omega) (by omega)).mono ?_
    rintro _ st6 ⟨k5, rfl, hk50, hk51, hw6⟩
    have hm8 : m.toNat ≤ 8 := by omega
    have hz : (zsL m.toNat).length = m.toNat := by unfold zsL; simp
    have hnl : ns.length < LIM := Nat.lt_of_lt_of_le (show ns.length < 9 by omega) (lim_ge (by omega))
    have rng : -(LIM : Int) ≤ m ∧ m ≤ LIM := ⟨by unfold LIM; omega, by unfold LIM; omega⟩
    have join : ∀ w : List Nat, D.str w :: (zsL m.toNat).map D.str = (w :: zsL m.toNat).map D.str := fun w => rfl
    simp! only []
    refine ⟨fun _ => ?_, fun _ => ?_⟩
    · refine (hd l _ 8 st6 hw6 (by omega) (by omega) (by omega)).mono ?_
      rintro _ st7 ⟨k8, rfl, hk80, hk81, hw7⟩
      have hww : atI (wordsS.map D.str) k8 = some (.str (wordsS.getD k8.toNat [])) := by
        obtain ⟨q, rfl⟩ := Int.eq_ofNat_of_zero_le hk80
        rw [atI_nat, List.getElem?_map]
        have : q < wordsS.length := by show q < 8; omega
        simp [List.getElem?_eq_getElem this]
      have hwn : isNameS (wordsS.getD k8.toNat []) = true := by
        refine words_ok _ ?_
        have : k8.toNat < wordsS.length := by show k8.toNat < 8; omega
        rw [List.getD_eq_getElem?_getD, List.getElem?_eq_getElem this]
        simp
      obtain ⟨x, hx1, hx2, hx3⟩ := fresh_pick (ns := ns) hwn (show ns.length < m.toNat by omega) hm8
      simp! only [idx_lst, hww, rng, range0, zcomp hm8, List.length_map, hz]
      refine ⟨lim_ge (by omega), ?_⟩
      rw [join, fcomp (by simp [hz]; omega)]
      simp! only [hx1, hnl]
      exact ⟨ns ++ [x], _, _, _, _, _, _, by simp; exact ⟨rfl, rfl, rfl, rfl, rfl, rfl⟩, by simp [hl], fun s hs => by
        rcases List.mem_append.mp hs with hs | hs
        · exact hok s hs
        · simp at hs; rw [hs]; exact hx2, List.nodup_append.mpr ⟨hnd, by simp, fun a ha b hb => by simp at hb; rw [hb]; exact fun e => hx3 (by rw [← e]; exact ha)⟩, hw7.up (by simp; omega)⟩
    · obtain ⟨x, hx1, hx2, hx3⟩ := fresh_pick (ns := ns) hname (show ns.length < m.toNat by omega) hm8
      simp! only [rng, range0, zcomp hm8, List.length_map, hz]
      refine ⟨lim_ge (by omega), ?_⟩
      rw [join, fcomp (by simp [hz]; omega)]
      simp! only [hx1, hnl]
      exact ⟨ns ++ [x], _, _, _, _, _, _, by simp; exact ⟨rfl, rfl, rfl, rfl, rfl, rfl⟩, by simp [hl], fun s hs => by
        rcases List.mem_append.mp hs with hs | hs
        · exact hok s hs
        · simp at hs; rw [hs]; exact hx2, List.nodup_append.mpr ⟨hnd, by simp, fun a ha b hb => by simp at hb; rw [hb]; exact fun e => hx3 (by rw [← e]; exact ha)⟩, hw6.up (by simp; omega)⟩
  · rintro env st1 ⟨ns, s3, s6, s7, s8, s9, s10, rfl, hl, hok, hnd, hw1⟩
    simp! only []
    exact ⟨ns, rfl, by rw [hl, List.length_range]; omega, hok, hnd, hw1.up (by rw [List.length_range]; omega)⟩
end
end G
namespace G
structure RG (b : Nat) (s : PySem.Str) : Prop where
  len : s.cps.toList.length ≤ b
  ok : s.cps.toList.all okCode = true
theorem RG.mono {a b : Nat} {s : PySem.Str} (h : RG a s) (hab : a ≤ b) : RG b s := ⟨Nat.le_trans h.len hab, h.ok⟩
theorem RG.app {a b : Nat} {s t : PySem.Str} (h : RG a s) (k : RG b t) : RG (a + b) (s ++ t) := by
  have e : (s ++ t).cps.toList = s.cps.toList ++ t.cps.toList := by
    show (s.cps ++ t.cps).toList = _
    simp
  refine ⟨by rw [e, List.length_append]; have := h.len; have := k.len; omega, by rw [e, List.all_append, h.ok, k.ok]; rfl⟩
def rgB (b : Nat) (s : PySem.Str) : Bool := decide (s.cps.toList.length ≤ b) && s.cps.toList.all okCode
theorem RG.of {b : Nat} {s : PySem.Str} (h : rgB b s = true) : RG b s := by
  unfold rgB at h
  simp only [Bool.and_eq_true, decide_eq_true_eq] at h
  exact ⟨h.1, h.2⟩
theorem char_ok (c : Char) : okCode c.toNat = true := by
  unfold okCode
  simp only [decide_eq_true_eq]
  rcases c.valid with h | h
  · show c.val.toNat < _
    omega
  · exact h.2
theorem reprChar_ok {q c : Nat} (hc : okCode c = true) : (PySem.Builtin.Str.reprChar q c).all okCode = true := by
  have hx : ∀ (w : Nat), ((List.replicate (w - ((Nat.toDigits 16 c).map Char.toNat).length) 48 ++ (Nat.toDigits 16 c).map Char.toNat)).all okCode = true := fun w => by
    rw [List.all_append, List.all_eq_true.mpr (fun x hx => by rw [List.eq_of_mem_replicate hx]; rfl), List.all_map]
    rw [Bool.true_and, List.all_eq_true]
    exact fun x _ => char_ok x
  unfold PySem.Builtin.Str.reprChar
  simp only
  split
  · simp [hc, okCode]
    simpa [okCode] using hc
  split
  · rfl
  split
  · rfl
  split
  · rfl
  split
  · simp [hc]
  split
  · rw [List.all_append, hx]; rfl
  split
  · rw [List.all_append, hx]; rfl
  · rw [List.all_append, hx]; rfl
theorem okCode_lt {c : Nat} (h : okCode c = true) : c < 16 ^ 8 := by
  unfold okCode at h
  have : c < 1114112 := by simpa using h
  omega
theorem rg_text {x : List Nat} (hx : x.all okCode = true) : RG (10 * x.length + 2) (PySem.reprText ⟨x.toArray⟩) := by
  have hq : ∀ q : Nat, okCode q = true → ∀ (l : List Nat) (acc : Array Nat), l.all okCode = true → acc.toList.all okCode = true →
      (l.foldl (fun out c => out ++ (PySem.Builtin.Str.reprChar q c).toArray) acc).toList.length ≤ acc.size + 10 * l.length ∧ (l.foldl (fun out c => out ++ (PySem.Builtin.Str.reprChar q c).toArray) acc).toList.all okCode = true := by
    intro q hqo l
    induction l with
    | nil => intro acc _ h; exact ⟨by simp, h⟩
    | cons c r ih =>
      intro acc hl ha
      rw [List.all_cons, Bool.and_eq_true] at hl
      have h1 := PySem.StrLaws.reprChar_len q c (okCode_lt hl.1)
      obtain ⟨i1, i2⟩ := ih (acc ++ (PySem.Builtin.Str.reprChar q c).toArray) hl.2 (by
        rw [Array.toList_append, List.all_append, ha]
        simpa using reprChar_ok hl.1)
      rw [List.foldl_cons]
      refine ⟨?_, i2⟩
      simp only [Array.size_append, List.size_toArray] at i1
      rw [List.length_cons]
      omega
  have hqq : okCode (PySem.reprQuote ⟨x.toArray⟩) = true := by
    unfold PySem.reprQuote
    split <;> rfl
  obtain ⟨h1, h2⟩ := hq _ hqq x #[PySem.reprQuote ⟨x.toArray⟩] hx (by simp [hqq])
  unfold PySem.reprText
  rw [← Array.foldl_toList] at *
  refine ⟨?_, ?_⟩
  · show (Array.push _ _).toList.length ≤ _
    rw [Array.toList_push, List.length_append]
    simp only [List.size_toArray, List.length_cons, List.length_nil] at h1 ⊢
    omega
  · show (Array.push _ _).toList.all okCode = true
    rw [Array.toList_push, List.all_append, h2]
    simp [hqq]
theorem rg_from {b : Nat} : ∀ (ts : List PySem.Str) (k : Nat) (acc : PySem.Str) (a : Nat), RG a acc → (∀ t ∈ ts, RG b t) → RG (a + ts.length * (b + 2)) (PySem.textFrom k acc ts)
  | [], k, acc, a, h, _ => by
    show RG (a + 0 * (b + 2)) acc
    exact h.mono (by omega)
  | t :: r, k, acc, a, h, ht => by
    have h2 : RG 2 (if k > 0 then ", " else "" : String) := by
      split
      · exact RG.of (by decide +kernel)
      · exact RG.of (by decide +kernel)
    have := rg_from r (k + 1) _ _ ((h.app h2).app (ht t (by simp))) fun t ht' => ht t (by simp [ht'])
    refine this.mono ?_
    rw [List.length_cons, Nat.add_mul]
    omega
theorem rg_list {b : Nat} {ts : List PySem.Str} (h : ∀ t ∈ ts, RG b t) : RG (2 + ts.length * (b + 2)) (PySem.listText ts) := by
  have h1 : RG 1 ("[" : PySem.Str) := RG.of (by decide +kernel)
  have h2 : RG 1 ("]" : PySem.Str) := RG.of (by decide +kernel)
  exact ((rg_from ts 0 _ 1 h1 h).app h2).mono (by omega)
theorem rg_join {b : Nat} : ∀ {ts : List PySem.Str}, (∀ t ∈ ts, RG b t) → RG (ts.length * (b + 2)) (PySem.Str.join ", " ts)
  | [], _ => ⟨by show 0 ≤ _; omega, rfl⟩
  | [x], h => (h x (by simp)).mono (by simp)
  | x :: y :: r, h => by
    have ih := rg_join (ts := y :: r) fun t ht => h t (by simp [ht])
    have h2 : RG 2 (", " : PySem.Str) := RG.of (by decide +kernel)
    refine (((h x (by simp)).app h2).app ih).mono ?_
    simp only [List.length_cons]
    rw [Nat.add_mul (r.length + 1) 1]
    omega
theorem rg_tup {b : Nat} {ts : List PySem.Str} (h : ∀ t ∈ ts, RG b t) : RG (3 + ts.length * (b + 2)) (PySem.tupleText ts) := by
  have h1 : RG 1 ("(" : PySem.Str) := RG.of (by decide +kernel)
  have h2 : RG 2 (if ts.length == 1 then ",)" else ")" : String) := by
    split
    · exact RG.of (by decide +kernel)
    · exact RG.of (by decide +kernel)
  exact ((h1.app (rg_join h)).app h2).mono (by omega)
theorem intStr_eq2 (i : Int) : (PySem.Str.ofString (toString i)) = ⟨(intStr i).toArray⟩ := by
  rw [PySem.Str.ofString_eq_toList]
  congr 2
  cases i with
  | ofNat n => show (Nat.repr n).toList.map Char.toNat = _; simp [Nat.repr, intStr, natStr]
  | negSucc n => show ("-" ++ Nat.repr (n + 1)).toList.map Char.toNat = _; simp [Nat.repr, intStr, natStr]
theorem dig_ok {c : Nat} (h : isDig c = true) : okCode c = true := by
  unfold isDig at h
  unfold okCode
  simp only [Bool.and_eq_true, decide_eq_true_eq] at h ⊢
  omega
theorem rg_int {i : Int} (h : -(10 ^ 50) ≤ i) (h2 : i ≤ 10 ^ 50) : RG 60 (PySem.Str.ofString (toString i)) := by
  rw [intStr_eq2]
  have hn : ∀ n : Nat, n ≤ 10 ^ 50 → (natStr n).length ≤ 55 ∧ (natStr n).all okCode = true := fun n hn => by
    refine ⟨?_, List.all_eq_true.mpr fun c hc => dig_ok (natStr_dig n c hc)⟩
    have := natStr_len' 54 n (Nat.lt_of_le_of_lt hn (by decide))
    omega
  cases i with
  | ofNat n =>
    obtain ⟨h3, h4⟩ := hn n (by simp at h2; omega)
    exact ⟨by show (natStr n).length ≤ 60; omega, h4⟩
  | negSucc n =>
    obtain ⟨h3, h4⟩ := hn (n + 1) (by omega)
    refine ⟨by show (45 :: natStr (n + 1)).length ≤ 60; rw [List.length_cons]; omega, ?_⟩
    show (okCode 45 && (natStr (n + 1)).all okCode) = true
    rw [h4]; rfl
theorem rg_big {i : Int} (h : i.natAbs ≤ 10 ^ 120) : RG 200 (PySem.Str.ofString (toString i)) := by
  rw [intStr_eq2]
  have hn : ∀ n : Nat, n ≤ 10 ^ 120 → (natStr n).length ≤ 125 ∧ (natStr n).all okCode = true := fun n hn => by
    refine ⟨?_, List.all_eq_true.mpr fun c hc => dig_ok (natStr_dig n c hc)⟩
    have := natStr_len' 124 n (Nat.lt_of_le_of_lt hn (by decide +kernel))
    omega
  cases i with
  | ofNat n =>
    obtain ⟨h3, h4⟩ := hn n (by simpa using h)
    exact ⟨by show (natStr n).length ≤ 200; omega, h4⟩
  | negSucc n =>
    obtain ⟨h3, h4⟩ := hn (n + 1) (by simpa using h)
    refine ⟨by show (45 :: natStr (n + 1)).length ≤ 200; rw [List.length_cons]; omega, ?_⟩
    show (okCode 45 && (natStr (n + 1)).all okCode) = true
    rw [h4]; rfl
theorem big_log {i : Int} (h : i.natAbs ≤ 10 ^ 120) : i.natAbs.log2 < 1920 := by
  by_cases h0 : i.natAbs = 0
  · rw [h0]; decide
  · rw [Nat.log2_lt h0]
    exact Nat.lt_of_le_of_lt h (by decide +kernel)
mutual
/-- data that is shown in at most so many signs -/
inductive Sh : Nat → D → Prop
  | non : Sh 60 .non
  | bl (b : Bool) : Sh 60 (.bl b)
  | int {i : Int} (h : -(10 ^ 50) ≤ i) (h2 : i ≤ 10 ^ 50) : Sh 60 (.int i)
  | big {i : Int} (h : i.natAbs ≤ 10 ^ 120) : Sh 200 (.int i)
  | str {s : List Nat} {b : Nat} (h : s.all okCode = true) (h2 : 10 * s.length + 2 ≤ b) : Sh b (.str s)
  | tup {xs : List D} {b c : Nat} (h : Shs b xs) (hc : 3 + xs.length * (b + 2) ≤ c) : Sh c (.tup xs)
  | lst {xs : List D} {b c : Nat} (h : Shs b xs) (hc : 3 + xs.length * (b + 2) ≤ c) : Sh c (.lst xs)
inductive Shs : Nat → List D → Prop
  | nil {b : Nat} : Shs b []
  | cons {b : Nat} {x : D} {xs : List D} {a : Nat} (h : Sh a x) (hab : a ≤ b) (hs : Shs b xs) : Shs b (x :: xs)
end
theorem small_log {i : Int} (h : -(10 ^ 50) ≤ i) (h2 : i ≤ 10 ^ 50) : i.natAbs.log2 < 1920 := by
  by_cases h0 : i.natAbs = 0
  · rw [h0]; decide
  · rw [Nat.log2_lt h0]
    have : (10 : Int) ^ 50 < 2 ^ 1920 := by decide +kernel
    omega
mutual
theorem Sh.rg : ∀ {d : D} {b : Nat}, Sh b d → RG b (toPy d).shown ∧ (toPy d).showable = true
  | _, _, .non => ⟨RG.of (by decide +kernel), rfl⟩
  | _, _, .bl b => ⟨RG.of (by cases b <;> decide +kernel), rfl⟩
  | _, _, .int h h2 => ⟨rg_int h h2, by simp only [toPy, PySem.PyData.showable, decide_eq_true_eq]; exact small_log h h2⟩
  | _, _, .big h => ⟨rg_big h, by simp only [toPy, PySem.PyData.showable, decide_eq_true_eq]; exact big_log h⟩
  | _, _, .str h h2 => ⟨(rg_text h).mono h2, rfl⟩
  | _, _, .tup (xs := xs) h hc => by
    obtain ⟨h1, h2, h3⟩ := Shs.rg h
    refine ⟨(rg_tup h1).mono (by rw [h3]; exact hc), h2⟩
  | _, _, .lst (xs := xs) h hc => by
    obtain ⟨h1, h2, h3⟩ := Shs.rg h
    refine ⟨(rg_list h1).mono (by rw [h3]; omega), h2⟩
theorem Shs.rg : ∀ {ds : List D} {b : Nat}, Shs b ds → (∀ t ∈ PySem.PyData.shownAll (toPys ds), RG b t) ∧ PySem.PyData.showableAll (toPys ds) = true ∧ (PySem.PyData.shownAll (toPys ds)).length = ds.length
  | _, _, .nil => ⟨fun t h => by simp [toPys, PySem.PyData.shownAll] at h, rfl, rfl⟩
  | _, _, .cons h hab hs => by
    obtain ⟨h1, h2⟩ := h.rg
    obtain ⟨h3, h4, h5⟩ := hs.rg
    refine ⟨fun t ht => ?_, ?_, ?_⟩
    · simp only [toPys, PySem.PyData.shownAll, List.mem_cons] at ht
      rcases ht with rfl | ht
      · exact h1.mono hab
      · exact h3 t ht
    · simp [toPys, PySem.PyData.showableAll, h2, h4]
    · simp [toPys, PySem.PyData.shownAll, h5]
end
theorem okRep_of {d : D} {b n : Nat} (h : Sh b d) (hb : b ≤ 10000000) (he : okEq n d = true) : okRep n d = true := by
  obtain ⟨h1, h2⟩ := h.rg
  unfold okRep reprD
  rw [he, h2, h1.ok]
  simp only [Bool.true_and, Bool.and_true, decide_eq_true_eq]
  exact Nat.le_trans h1.len (lim_ge hb)
theorem repr_eq {d : D} {b : Nat} {st : Store} (hv : view st d = d) (h : Sh b d) (hb : b ≤ 10000000) (he : okEq 32 d = true) : bi .repr st [d] = some (.str (reprD d)) := by
  show (if okRep 32 (view st d) = true then some (D.str (reprD (view st d))) else match view st d with
    | .dct [] [] => some (D.str [123, 125])
    | _ => none) = _
  rw [hv, if_pos (okRep_of h hb he)]
end G
namespace G
section
variable {Γ : Ctx} {fn fd fm fe : Fd}
def SpWell (f : Fd) : Prop := ∀ (ns : List Int) (k : Nat) (st : Store), ns.length ≤ 63 → k ≤ 10 → OP (fun r st' => ∃ l, r = .loc l ∧ Wl l 0 st') (f [.fl (ns.map .int), .int k] st)
theorem cut_map {α β : Type} (g : α → β) (l : List α) (lo hi : Option Int) : cut (l.map g) lo hi = (cut l lo hi).map g := by
  unfold cut
  simp [List.map_take, List.map_drop]
theorem new_eq {ds : List D} {st : Store} {Q : D → Store → Prop} : @OPi _ ⟨Q⟩ (newV ds st) = ((ltLocs st.length ds = true ∧ ds.length ≤ LIM) ∧ Q (.loc st.length) (st ++ [.lst ds])) := by
  unfold newV
  rw [OP_ite_bad]; rfl
theorem sp_well : SpWell (runF 2 5 (m_well Γ)) := by
  intro ns k st hl hk
  refine OP_run rfl ?_
  delta m_well
  obtain ⟨z, hz⟩ : ∃ z, (Sem.ife (opE .lt (vE 1) (biE .len [vE 0])) (opE .idx (vE 0) (vE 1)) (kE (.int 0))).val [.v (.fl (ns.map .int)), .v (.int k), .em, .em, .em] st = .ok (.int z) st := by
    by_cases h : k < ns.length
    · refine ⟨ns.getD k 0, OP_eq ?_⟩
      have e1 : ((k : Int) < (ns.map D.int).length) = True := by simp; exact h
      have e2 : atI (ns.map D.int) (k : Int) = some (.int (ns.getD k 0)) := by
        rw [atI_nat, List.getElem?_map, List.getD_eq_getElem?_getD, List.getElem?_eq_getElem h]; rfl
      simp! only [e1, e2]
    · refine ⟨0, OP_eq ?_⟩
      have e1 : ((k : Int) < (ns.map D.int).length) = False := by simp; omega
      simp! only [e1]
  simp only [List.map_cons, List.map_nil, List.length_cons, List.length_nil, Nat.reduceAdd, Nat.reduceSub, List.replicate, List.cons_append, List.nil_append, RP_seq, RP_nm, hz]
  simp! only []
  refine ⟨okMul_of (by omega) (by omega) (by omega) (by omega), ?_⟩
  rw [cut_map]
  refine forL_invL (enc := D.int) (fun pre env st' => ∃ (a : Int) (s4 : Sl), env = [.v (.fl (ns.map .int)), .v (.int k), .v (.int z), .v (.int a), s4] ∧ (0 ≤ a ∧ a < 2147483629 * 10) ∧ st' = st) ⟨_, _, rfl, by omega, rfl⟩ ?_ ?_
  · rintro pre x post env st' e ⟨a, s4, rfl, ha, rfl⟩
    have h1 := Int.emod_nonneg x (show (2147483587 : Int) ≠ 0 by decide)
    have h2 := Int.emod_lt_of_pos x (show (0 : Int) < 2147483587 by decide)
    refine ⟨_, by simp! only []; rfl, ?_⟩
    simp! only []
    refine ⟨okMul_of (by omega) (by omega) (by omega) (by omega), okDiv_of (by omega) (by omega), okDiv_of (by omega) (by omega), ?_⟩
    refine ⟨_, _, rfl, Int.emod_nonneg _ (by decide), Int.lt_of_lt_of_le (Int.emod_lt_of_pos _ (by decide)) (by decide)⟩
  · rintro env st' ⟨a, s4, rfl, ha, rfl⟩
    have h1 := Int.emod_nonneg z (show (2147483579 : Int) ≠ 0 by decide)
    have h2 := Int.emod_lt_of_pos z (show (0 : Int) < 2147483579 by decide)
    simp! only [new_eq]
    refine ⟨okMul_of (by omega) (by omega) (by omega) (by omega), okDiv_of (by omega) (by omega), okDiv_of (by omega) (by omega), ?_⟩
    have w0 : ∀ b : Int, 0 ≤ b → Wl st'.length 0 (st' ++ [Obj.lst [D.int ((a * 69621 + z % 2147483579 + 5) % 2147483629), D.int b, D.int 0]]) := fun b hb =>
      ⟨(a * 69621 + z % 2147483579 + 5) % 2147483629, b, 0, by simp, ⟨Int.emod_nonneg _ (by decide), Int.lt_of_lt_of_le (Int.emod_lt_of_pos _ (by decide)) (by decide)⟩, hb, ⟨by omega, by omega⟩, fun q hq => absurd (show q ∈ ([] : List (Nat × Obj)) from hq) List.not_mem_nil⟩
    exact ⟨fun _ => ⟨⟨rfl, lim_ge (by omega)⟩, _, rfl, w0 _ (by omega)⟩, fun _ => ⟨⟨rfl, lim_ge (by omega)⟩, _, rfl, w0 _ (by omega)⟩⟩
variable {c : Nat} {K : Cl} {ft fr fmade fshow fwell fright frows : Fd}
end
end G
namespace G
/-- what may be asked: texts, dicts, plain data -/
def VOk (v : D) : Prop := (∃ s, v = .str s) ∨ (∃ ks vs, v = .dct ks vs) ∨ (okEq 64 v = true ∧ isStr v = false)
end G
namespace G
class QX (α : Type) where
  q : α → Store → Prop
  x : Nat → List D → Store → Prop
def OXi {α : Type} [k : QX α] : O α → Prop
  | .ok a st => k.q a st
  | .ex c fs st => k.x c fs st
  | .bad => False
class KTx where
  nx : Env → Store → Prop
  rt : D → Store → Prop
  bk : Env → Store → Prop
  ct : Env → Store → Prop
  ex : Env → Nat → List D → Store → Prop
def RQX [K : KTx] : R → Prop
  | .nx env st => K.nx env st
  | .rt d st => K.rt d st
  | .bk env st => K.bk env st
  | .ct env st => K.ct env st
  | .ex env c fs st => K.ex env c fs st
  | .bad => False
section
variable {α β : Type} {Q : α → Store → Prop} {ex : Nat → List D → Store → Prop} {nx : Env → Store → Prop} {rt : D → Store → Prop} {bk ct : Env → Store → Prop} {er : Env → Nat → List D → Store → Prop} {env : Env} {st : Store}
theorem /-ev-/ OX_ok {a : α} : @OXi _ ⟨Q, ex⟩ (.ok a st) = Q a st := propext Iff.rfl
theorem /-ev-/ OX_ex {c : Nat} {fs : List D} : @OXi α ⟨Q, ex⟩ (.ex c fs st) = ex c fs st := propext Iff.rfl
theorem /-ev-/ OX_bad : @OXi α ⟨Q, ex⟩ .bad = False := propext Iff.rfl
theorem /-ev-/ OX_bind {f : α → Store → O β} {Q : β → Store → Prop} {x : O α} : @OXi _ ⟨Q, ex⟩ (x.bind f) = @OXi _ ⟨fun a st => @OXi _ ⟨Q, ex⟩ (f a st), ex⟩ x := by
  cases x <;> rfl
theorem /-ev-/ OX_of_ite {c : Prop} [Decidable c] {a : α} : @OXi _ ⟨Q, ex⟩ (O.of (if c then some a else none) st) = (c ∧ Q a st) := by
  by_cases h : c
  · rw [if_pos h]; simp [h, OXi, O.of]
  · rw [if_neg h]; simp [h, OXi, O.of]
theorem /-ev-/ OX_ite {c : Prop} [Decidable c] {a b : O α} : @OXi _ ⟨Q, ex⟩ (if c then a else b) = ((c → @OXi _ ⟨Q, ex⟩ a) ∧ (¬ c → @OXi _ ⟨Q, ex⟩ b)) := by
  by_cases h : c <;> simp [h]
theorem /-ev-/ RX_ite {c : Prop} [Decidable c] {a b : R} : @RQX ⟨nx, rt, bk, ct, er⟩ (if c then a else b) = ((c → @RQX ⟨nx, rt, bk, ct, er⟩ a) ∧ (¬ c → @RQX ⟨nx, rt, bk, ct, er⟩ b)) := by
  by_cases h : c <;> simp [h]
theorem /-ev-/ RX_nx : @RQX ⟨nx, rt, bk, ct, er⟩ (.nx env st) = nx env st := propext Iff.rfl
theorem /-ev-/ RX_rt {d : D} : @RQX ⟨nx, rt, bk, ct, er⟩ (.rt d st) = rt d st := propext Iff.rfl
theorem /-ev-/ RX_bk : @RQX ⟨nx, rt, bk, ct, er⟩ (.bk env st) = bk env st := propext Iff.rfl
theorem /-ev-/ RX_ct : @RQX ⟨nx, rt, bk, ct, er⟩ (.ct env st) = ct env st := propext Iff.rfl
theorem /-ev-/ RX_xx {c : Nat} {fs : List D} : @RQX ⟨nx, rt, bk, ct, er⟩ (.ex env c fs st) = er env c fs st := propext Iff.rfl
theorem /-ev-/ RX_bad : @RQX ⟨nx, rt, bk, ct, er⟩ .bad = False := propext Iff.rfl
theorem /-ev-/ RX_run {o : O α} {f : α → Store → R} : @RQX ⟨nx, rt, bk, ct, er⟩ (o.run env f) = @OXi _ ⟨fun a st => @RQX ⟨nx, rt, bk, ct, er⟩ (f a st), er env⟩ o := by
  cases o <;> rfl
variable {i : Nat} {s s1 s2 : Sem} {a b : StS}
theorem /-ev-/ RX_seqR {r : R} {f : StS} : @RQX ⟨nx, rt, bk, ct, er⟩ (seqR r f) = @RQX ⟨fun env st => @RQX ⟨nx, rt, bk, ct, er⟩ (f env st), rt, bk, ct, er⟩ r := by
  cases r <;> rfl
theorem /-ev-/ RX_seq : @RQX ⟨nx, rt, bk, ct, er⟩ (seqS a b env st) = @RQX ⟨fun env st => @RQX ⟨nx, rt, bk, ct, er⟩ (b env st), rt, bk, ct, er⟩ (a env st) := RX_seqR
theorem /-ev-/ RX_pass : @RQX ⟨nx, rt, bk, ct, er⟩ (passS env st) = nx env st := propext Iff.rfl
theorem /-ev-/ RX_brk : @RQX ⟨nx, rt, bk, ct, er⟩ (brkS env st) = bk env st := propext Iff.rfl
theorem /-ev-/ RX_cont : @RQX ⟨nx, rt, bk, ct, er⟩ (contS env st) = ct env st := propext Iff.rfl
theorem /-ev-/ RX_ret0 : @RQX ⟨nx, rt, bk, ct, er⟩ (ret0S env st) = rt .non st := propext Iff.rfl
theorem /-ev-/ RX_badS : @RQX ⟨nx, rt, bk, ct, er⟩ (badS env st) = False := rfl
theorem /-ev-/ RX_ret : @RQX ⟨nx, rt, bk, ct, er⟩ (retS s env st) = @OXi _ ⟨rt, er env⟩ (s.val env st) := RX_run
theorem /-ev-/ RX_ex : @RQX ⟨nx, rt, bk, ct, er⟩ (exS s env st) = @OXi _ ⟨fun _ st => nx env st, er env⟩ (s.val env st) := RX_run
theorem /-ev-/ RX_nm : @RQX ⟨nx, rt, bk, ct, er⟩ (nmS i s env st) = @OXi _ ⟨fun d st => nx (env.set i (.v d)) st, er env⟩ (s.val env st) := RX_run
theorem /-ev-/ RX_own : @RQX ⟨nx, rt, bk, ct, er⟩ (ownS i s env st) = @OXi _ ⟨fun d st => @RQX ⟨nx, rt, bk, ct, er⟩ (ownR i d env st), er env⟩ (s.val env st) := RX_run
theorem /-ev-/ RX_if : @RQX ⟨nx, rt, bk, ct, er⟩ (ifS s a b env st) = @OXi _ ⟨fun t st => @RQX ⟨nx, rt, bk, ct, er⟩ (if t = true then a env st else b env st), er env⟩ (s.test env st) := RX_run
theorem /-ev-/ RX_tg {f : D → StS} : @RQX ⟨nx, rt, bk, ct, er⟩ (tgS f s env st) = @OXi _ ⟨fun d st => @RQX ⟨nx, rt, bk, ct, er⟩ (f d env st), er env⟩ (s.val env st) := RX_run
theorem /-ev-/ RX_par {ts : List (Bool × Nat)} {ss : List Sem} : @RQX ⟨nx, rt, bk, ct, er⟩ (parS ts ss env st) = @OXi _ ⟨fun ds st => @RQX ⟨nx, rt, bk, ct, er⟩ (ofPut (putO ts ds env) st), er env⟩ (args ss env st) := RX_run
theorem /-ev-/ RX_asgn {fs : List (D → StS)} {ss : List Sem} : @RQX ⟨nx, rt, bk, ct, er⟩ (asgnS fs ss env st) = @OXi _ ⟨fun ds st => @RQX ⟨nx, rt, bk, ct, er⟩ (setAll fs ds env st), er env⟩ (args ss env st) := RX_run
theorem /-ev-/ RX_unp {fs : List (D → StS)} : @RQX ⟨nx, rt, bk, ct, er⟩ (unpS fs s env st) = @OXi _ ⟨fun d st => @RQX ⟨nx, rt, bk, ct, er⟩ (match d with
  | .tup ds => if ds.length = fs.length then setAll fs ds env st else .bad
  | .lst ds => if ds.length = fs.length then setAll fs ds env st else .bad
  | _ => .bad), er env⟩ (s.val env st) := RX_run
theorem /-ev-/ RX_for {p : Pt} : @RQX ⟨nx, rt, bk, ct, er⟩ (forS p s a env st) = @OXi _ ⟨fun xs st => @RQX ⟨nx, rt, bk, ct, er⟩ (forL a p xs env st), er env⟩ (s.items env st) := RX_run
theorem /-ev-/ RX_app : @RQX ⟨nx, rt, bk, ct, er⟩ (appS i s env st) = @RQX ⟨nx, rt, bk, ct, er⟩ (match env[i]? with
  | some (.own xs) => (s.val env st).run env fun d st => if xs.length < LIM then .nx (env.set i (.own (xs ++ [d]))) st else .bad
  | _ => .bad) := rfl
theorem /-ev-/ RX_frz : @RQX ⟨nx, rt, bk, ct, er⟩ (frzS i a env st) = @RQX ⟨nx, rt, bk, ct, er⟩ (match env[i]? with
  | some (.own xs) => a (env.set i (.v (.lst xs))) st
  | _ => .bad) := rfl
theorem /-ev-/ RX_aug {o : Op2} : @RQX ⟨nx, rt, bk, ct, er⟩ (augS i o s env st) = @RQX ⟨nx, rt, bk, ct, er⟩ (match env.get i with
  | some (.int x) => (s.val env st).run env fun y st => aug1 o i x y env st
  | _ => .bad) := rfl
theorem /-ev-/ RX_fld {Γ : Ctx} {f : Nm} : @RQX ⟨nx, rt, bk, ct, er⟩ (fldS Γ f s1 s2 env st) = @OXi _ ⟨fun d st => @RQX ⟨nx, rt, bk, ct, er⟩ (fldR Γ f s1 d env st), er env⟩ (s2.val env st) := RX_run
def raiseV (Γ : Ctx) (c : Nat) (ds : List D) (env : Env) (st : Store) : R := match Γ.exs c with
  | some k => if k.field.length = ds.length then .ex env c ds st else .bad
  | none => .bad
theorem /-ev-/ RX_raise {Γ : Ctx} {c : Nat} {ss : List Sem} : @RQX ⟨nx, rt, bk, ct, er⟩ (raiseS Γ c ss env st) = @OXi _ ⟨fun ds st => @RQX ⟨nx, rt, bk, ct, er⟩ (raiseV Γ c ds env st), er env⟩ (args ss env st) := RX_run
theorem OX.mono {Q' : α → Store → Prop} {ex' : Nat → List D → Store → Prop} {o : O α} (h : @OXi _ ⟨Q, ex⟩ o) (i : ∀ a st, Q a st → Q' a st) (j : ∀ c fs st, ex c fs st → ex' c fs st) : @OXi _ ⟨Q', ex'⟩ o := by
  cases o with
  | ok a s => exact i _ _ h
  | ex c fs s => exact j _ _ _ h
  | bad => exact h
theorem /-ev-/ RX_fldV {Γ : Ctx} {f : Nm} {d : D} : @RQX ⟨nx, rt, bk, ct, er⟩ (fldR Γ f s1 d env st) = @OXi _ ⟨fun x st => @RQX ⟨nx, rt, bk, ct, er⟩ (fldV Γ f d x env st), er env⟩ (s1.val env st) := by
  show @RQX ⟨nx, rt, bk, ct, er⟩ ((s1.val env st).run env fun x st => fldV Γ f d x env st) = _
  exact RX_run
def tryX (i : Nat) (hs : List (Nat × StS)) (env1 : Env) (c : Nat) (fs : List D) (st1 : Store) : R := match hs.lookup c with
    | some g => if i < env1.length then (g (env1.set i (.xc c fs)) st1).cool i else .bad
    | none => .bad
theorem /-ev-/ RP_try {hs : List (Nat × StS)} : @RP ⟨nx, rt, bk, ct⟩ (tryS a i hs env st) = @RQX ⟨nx, rt, bk, ct, fun env c fs st => @RP ⟨nx, rt, bk, ct⟩ (tryX i hs env c fs st)⟩ (a env st) := by
  unfold tryS
  cases a env st <;> rfl
theorem RP_cool {r : R} : @RP ⟨nx, rt, bk, ct⟩ (r.cool i) = @RP ⟨fun env st => nx (coolE i env) st, rt, fun env st => bk (coolE i env) st, fun env st => ct (coolE i env) st⟩ r := by
  cases r <;> rfl
theorem tryX_one {c : Nat} {g : StS} {hs : List (Nat × StS)} {fs : List D} : tryX i ((c, g) :: hs) env c fs st = if i < env.length then (g (env.set i (.xc c fs)) st).cool i else .bad := by
  unfold tryX
  simp [List.lookup]
theorem /-ev-/ RP_tryX {c : Nat} {g : StS} {hs : List (Nat × StS)} {fs : List D} : @RP ⟨nx, rt, bk, ct⟩ (tryX i ((c, g) :: hs) env c fs st) = (i < env.length ∧ @RP ⟨fun env st => nx (coolE i env) st, rt, fun env st => bk (coolE i env) st, fun env st => ct (coolE i env) st⟩ (g (env.set i (.xc c fs)) st)) := by
  rw [tryX_one]
  by_cases h : i < env.length
  · rw [if_pos h, RP_cool]; simp [h]
  · rw [if_neg h]; simp only [h, false_and]; exact propext Iff.rfl
theorem /-ev-/ cool_nil : coolE i [] = [] := by unfold coolE; cases i <;> rfl
theorem /-ev-/ cool_z {s : Sl} : coolE 0 (s :: env) = .em :: env.map Sl.cool := rfl
theorem /-ev-/ cool_s {s : Sl} : coolE (i + 1) (s :: env) = s.cool :: coolE i env := rfl
theorem /-ev-/ slc_v {d : D} : Sl.cool (.v d) = .v d := rfl
theorem /-ev-/ slc_e : Sl.cool .em = .em := rfl
theorem /-ev-/ slc_o {xs : List D} : Sl.cool (.own xs) = .own xs := rfl
theorem /-ev-/ slc_x {c : Nat} {fs : List D} : Sl.cool (.xc c fs) = .em := rfl
theorem /-ev-/ val_xat {Γ : Ctx} {f : Nm} : (xatE Γ f i).val env st = (match env[i]? with
  | some (.xc c [d]) => (match Γ.exs c with
    | some k => if k.field = [f] then O.ok d st else .bad
    | none => .bad)
  | _ => .bad) := rfl
theorem /-ev-/ val_xis {Γ : Ctx} {τ : Ty} : (xisE Γ i τ).val env st = (match env[i]? with
  | some (.xc c _) => O.of ((xisV Γ c τ).map .bl) st
  | _ => .bad) := rfl
theorem /-ev-/ val_xcall {c : Fd} {es : List Sem} : (xcallE c i es).val env st = (match env[i]? with
  | some (.xc k fs) => (args es env st).bind fun ds st => c (.exc (k + 1) fs :: ds) st
  | _ => .bad) := rfl
theorem /-ev-/ tst_xis {Γ : Ctx} {τ : Ty} : (xisE Γ i τ).test env st = ((xisE Γ i τ).val env st).bind fun x st => .of (truth st x) st := rfl
theorem /-ev-/ tst_xcall {c : Fd} {es : List Sem} : (xcallE c i es).test env st = ((xcallE c i es).val env st).bind fun x st => .of (truth st x) st := rfl
end
end G
set_option hygiene false in
local macro_rules | `(tactic| simp! only [$ls,*]) => `(tactic| simp only [seval, G.OP_ok, G.OP_bad, G.OP_bind, G.O_of_some, G.O_of_none, G.OP_of_ite, G.OP_ite, G.RP_ite, ↓G.OP_ite_bad, ↓G.RP_ite_bad, G.RP_nx, G.RP_rt, G.RP_bk, G.RP_ct, G.RP_bad, G.RP_run, G.RP_seqR, G.RP_seq, G.RP_pass, G.RP_brk, G.RP_cont, G.RP_ret0, G.RP_badS, G.RP_ret, G.RP_ex, G.RP_nm, G.RP_own, G.ownR_lst, G.RP_if, G.RP_tg, G.RP_par, G.RP_asgn, G.RP_unp, G.RP_for, G.RP_app, G.RP_frz, G.RP_aug, G.aug_add, G.aug_sub, G.ofPut_some, G.putO_nil, G.putO_v, G.putO_o, G.setAll_nil, G.setAll_cons, G.nmT_eq, G.osubR_eq, G.RP_fld, G.val_k, G.val_v, G.val_pk, G.val_op, G.val_neg, G.val_no, G.val_ife, G.val_tup, G.val_lst, G.val_new, G.val_bi, G.val_call, G.val_callK, G.val_mk, G.val_mkK, G.val_mkc, G.get_c, G.val_cm, G.val_isi, G.val_at, G.val_has, G.val_lenO, G.val_strO, G.val_boolO, G.val_ls, G.lsV_lst, G.val_up, G.upD_str, G.val_d0, G.val_d1, G.d1_str, G.val_ch, G.val_split, G.val_join, G.val_fmt, G.val_joined, G.val_cons, G.val_bop, G.val_sl, G.val_lc, G.tst_k, G.tst_v, G.tst_op, G.tst_bi, G.tst_call, G.tst_isi, G.tst_ch, G.tst_has, G.tst_boolO, G.tst_at, G.tst_me, G.tst_no, G.tst_bop, G.tst_ife, G.bopV_one, G.bopV_cons, G.bopT_one, G.bopT_cons, G.args_nil, G.args_cons, G.joinedV_nil, G.joinedV_cons, G.optV_none, G.optV_one, G.optI_int, G.itm_v, G.itm_pk, G.itm_op, G.itm_call, G.itm_at, G.itm_sl, G.itm_lst, G.itm_tup, G.itm_lc, G.itm_rng, G.itm_enum, G.itm_zip, G.rng1, G.vw_int, G.vw_str, G.vw_tup, G.vw_lst, G.vw_bl, G.vw_non, G.add_int, G.add_str, G.add_tup, G.add_lst, G.sub_int, G.mul_int, G.fdiv_int, G.mod_int, G.lt_int, G.le_int, G.gt_int, G.ge_int, G.eq_int, G.ne_int, G.eq_str, G.ne_str, G.is_non, G.isnot_non, G.is_tup, G.isnot_tup, G.is_int, G.isnot_int, G.mem_chr, G.nmem_chr, G.idx_str, G.idx_tup, G.idx_lst, G.idx_fl, G.tr_bl, G.tr_int, G.tr_non, G.tr_str, G.tr_tup, G.tr_lst, G.neg_int, G.sf_tup, G.sf_lst, G.si_tup, G.si_lst, G.si_str, G.sv_tup, G.sv_lst, G.sv_fl, G.len_str, G.len_tup, G.len_lst, G.len_fl, G.int_int, G.int_bl, G.int_str, G.str_int, G.str_str, G.abs_int, G.bool_bl, G.min_int, G.max_int, G.divmod_int, G.tuple_lst, G.tuple_tup, G.list_lst, G.list_tup, G.sl_str, G.sl_tup, G.sl_lst, G.sl_fl, G.fmt_str, G.fmt_int, G.cons_lst, G.lv_lst, G.atI_zero, G.atI_one, G.atI_two, G.atI_three, G.not_f, G.not_t, G.testsV_nil, G.testsV_one, G.get_v, G.get_s, G.pk_v, G.pk_o, G.pk_s, G.ix_z, G.ix_s, G.set_z, G.set_s, G.wipe_nil, G.wipe_cons, G.setPt_nm, G.setPt_tp, G.setPt_tx, G.setPt_tl, G.setPts_nil, G.setPts_cons, G.ob_some, G.om_some, G.dt_eq, G.df_eq, G.bn_eq, G.bf_eq, G.ne0, G.len_nil, G.len_cons, G.map_nil', G.map_cons', G.rep_z, G.rep_s, G.app_nil, G.app_cons, G.ft_eq, G.tf_eq, G.t_imp, G.f_imp, G.n_t, G.n_f, G.a_t, G.t_a, G.a_f, G.f_a, G.i_t, G.e_s, G.it_t, G.it_f, G.nn, G.n_sub, G.RP_sub, G.ixN30, G.ixN31, G.ixN32, G.lt_int', G.setD_z, G.setD_s, G.isi_int_int, G.isi_int_bool, G.isi_str_str, G.isi_tup_tup, G.RP_fldV, G.pow6, G.pow9, G.pow15, G.pow16, G.pow17, G.pow18, G.pow30, G.pow33, G.lt_ints, G.lt_nil, G.val_sortK, G.itm_sortK, G.val_lrng, G.val_eqO, G.tst_eqO, G.val_index, G.val_count, G.val_tindex, G.isTp_tup, G.val_lc2, G.itm_lc2, G.isLs_lst, G.RP_ins, G.OX_ok, G.OX_ex, G.OX_bad, G.OX_bind, G.OX_of_ite, G.OX_ite, G.RX_ite, G.RX_nx, G.RX_rt, G.RX_bk, G.RX_ct, G.RX_xx, G.RX_bad, G.RX_run, G.RX_seqR, G.RX_seq, G.RX_pass, G.RX_brk, G.RX_cont, G.RX_ret0, G.RX_badS, G.RX_ret, G.RX_ex, G.RX_nm, G.RX_own, G.RX_if, G.RX_tg, G.RX_par, G.RX_asgn, G.RX_unp, G.RX_for, G.RX_app, G.RX_frz, G.RX_aug, G.RX_fld, G.RX_raise, G.RX_fldV, G.RP_try, G.RP_tryX, G.cool_nil, G.cool_z, G.cool_s, G.slc_v, G.slc_e, G.slc_o, G.slc_x, G.val_xat, G.val_xis, G.val_xcall, G.tst_xis, G.tst_xcall, $ls,*])
namespace G
def withinD (d : D) (a b : Int) : Bool := match d with
  | .int i => decide (a ≤ i ∧ i ≤ b)
  | _ => false
def isIntD : D → Bool
  | .int _ => true
  | _ => false
def isBlD : D → Bool
  | .bl _ => true
  | _ => false
def isTupD : D → Bool
  | .tup _ => true
  | _ => false
def isNameD : D → Bool
  | .str s => isNameS s
  | _ => false
def plainD : D → Bool
  | .non => true
  | .bl _ => true
  | .int _ => true
  | .str _ => true
  | .tup _ => true
  | .lst _ => true
  | .dct _ _ => true
  | _ => false
def plain2 (d : D) : Bool := plainD d && match d with
  | .tup xs => xs.all plainD
  | _ => true
def nameOf : D → List Nat
  | .tup (.str s :: _) => s
  | _ => []
section
variable {Γ : Ctx} {st : Store} {d : D} {f g : Fd}
theorem isi_intD (h : plainD d = true) : isiV Γ st d .int = some (isIntD d || isBlD d) := by cases d <;> first | rfl | cases h
theorem isi_boolD (h : plainD d = true) : isiV Γ st d .bool = some (isBlD d) := by cases d <;> first | rfl | cases h
theorem isi_strD (h : plainD d = true) : isiV Γ st d .str = some (isStr d) := by cases d <;> first | rfl | cases h
theorem isi_tupD (h : plainD d = true) : isiV Γ st d .tuple = some (isTupD d) := by cases d <;> first | rfl | cases h
def SpIntD (f : Fd) : Prop := ∀ d st, plainD d = true → f [d] st = .ok (.bl (isIntD d)) st
theorem sp_integerD : SpIntD (runF 1 1 (m_is_integer Γ)) := by
  intro d st h
  apply OP_eq
  refine OP_run rfl ?_
  delta m_is_integer
  simp! only [isi_intD h, isi_boolD h]
  cases d <;> first | (cases h; done) | simp! only [isIntD, isBlD, Bool.or_true, Bool.or_false, Bool.or_self]
def SpWithinD (f : Fd) : Prop := ∀ d a b st, plainD d = true → f [d, .int a, .int b] st = .ok (.bl (withinD d a b)) st
theorem sp_withinD (hf : SpIntD f) : SpWithinD (runF 3 3 (m_is_within Γ f)) := by
  intro d a b st h
  apply OP_eq
  refine OP_run rfl ?_
  delta m_is_within
  simp! only [hf d _ h]
  cases d with
  | int i =>
    simp! only [isIntD, withinD]
    by_cases h1 : a ≤ i
    · simp! only [h1, decide_true]
    · simp! only [h1, decide_false]
  | _ => first | (cases h; done) | simp! only [isIntD, withinD]
def SpNameD (f : Fd) : Prop := ∀ d st, plainD d = true → f [d] st = .ok (.bl (isNameD d)) st
theorem sp_nameD : SpNameD (runF 1 2 (m_is_name Γ)) := by
  intro d st h
  cases d with
  | str s => exact sp_name Γ s st
  | _ =>
    first
    | (cases h; done)
    | (apply OP_eq
       refine OP_run rfl ?_
       delta m_is_name
       simp! only [isi_strD h, isStr, isNameD])
def optN : Option Nat → D
  | none => .non
  | some k => .int (k : Int)
variable {c cN cR : Nat} {K : Cl}
end
end G
namespace G
end G
namespace G
end G
namespace G
section
variable {Γ : Ctx} {c : Nat} {ft fr fmade fshow fwell fright frows fdip : Fd}
def SpRight (f : Fd) : Prop := ∀ (l : Nat) (st : Store), Wl l 0 st → OP (fun r _ => r = .bl true) (f [.loc l] st)
def SpLaw (f : Fd) : Prop := ∀ (ns : List Int) (st : Store), ns.length ≤ 63 → OP (fun r _ => r = .bl true) (f [.fl (ns.map .int)] st)
end
end G
namespace G
structure RowW (r : Row) : Prop where
  nm : isNameS r.nm = true
  n1 : -(10 ^ 36) ≤ r.num
  n2 : r.num ≤ 10 ^ 36
  s1 : -(10 ^ 36) ≤ r.sc
  s2 : r.sc ≤ 10 ^ 36
theorem RowOk.w {r : Row} (h : RowOk r) : RowW r := ⟨h.nm, by have := h.n1; omega, by have := h.n2; omega, by have := h.s1; omega, by have := h.s2; omega⟩
end G
set_option exponentiation.threshold 3000
namespace G
theorem Wl.app {l n : Nat} {st ys : Store} (h : Wl l n st) : Wl l n (st ++ ys) := by
  obtain ⟨a, b, c, e, h1, h2, h3, hf⟩ := h
  refine ⟨a, b, c, by rw [List.getElem?_append_left (List.getElem?_eq_some_iff.mp e).1]; exact e, h1, h2, h3, fun q hq => ?_⟩
  obtain ⟨g1, g2⟩ := hf q hq
  exact ⟨g1, by rw [List.getElem?_append_left (List.getElem?_eq_some_iff.mp g2).1]; exact g2⟩
end G
namespace G
end G
namespace G
/-- the points of all matches within n players -/
def ownI (p n : Int) : Int := p * n * (n - 1) / 2
theorem par2 (n : Int) : (n * (n - 1)) % 2 = 0 := by
  have h : n % 2 = 0 ∨ n % 2 = 1 := by omega
  rcases h with h | h
  · obtain ⟨k, hk⟩ : ∃ k, n = 2 * k := ⟨n / 2, by omega⟩
    rw [hk, Int.mul_assoc]; omega
  · obtain ⟨k, hk⟩ : ∃ k, n - 1 = 2 * k := ⟨(n - 1) / 2, by omega⟩
    rw [hk, ← Int.mul_assoc, Int.mul_comm n 2, Int.mul_assoc]; omega
theorem own2 (p n : Int) : 2 * ownI p n = p * n * (n - 1) := by
  unfold ownI
  have h : (p * n * (n - 1)) % 2 = 0 := by
    obtain ⟨k, hk⟩ : ∃ k, n * (n - 1) = 2 * k := ⟨n * (n - 1) / 2, by have := par2 n; omega⟩
    rw [Int.mul_assoc, hk, ← Int.mul_assoc, Int.mul_comm p 2, Int.mul_assoc]; omega
  omega
theorem own_zero (p : Int) : ownI p 0 = 0 := by have := own2 p 0; simp at this; omega
theorem own_convex {p M m N s : Int} (hp : 0 ≤ p) (h1 : N ≤ m) (h2 : m ≤ M) : ownI p m - m * s ≤ ownI p M - M * s ∨ ownI p m - m * s ≤ ownI p N - N * s := by
  have o1 := own2 p m
  have o2 := own2 p M
  have o3 := own2 p N
  have e1 : p * M * (M-1) - 2 * (M * s) - (p * m * (m-1) - 2 * (m * s)) = (M - m) * (p * (M + m - 1) - 2 * s) := by grind
  have e2 : p * N * (N-1) - 2 * (N * s) - (p * m * (m-1) - 2 * (m * s)) = (m - N) * (2 * s - p * (m + N - 1)) := by grind
  by_cases h : 0 ≤ p * (M + m - 1) - 2 * s
  · left
    have := Int.mul_nonneg (show 0 ≤ M - m by omega) h
    omega
  · right
    have h3 : p * (m + N - 1) ≤ p * (M + m - 1) := Int.mul_le_mul_of_nonneg_left (by omega) hp
    have := Int.mul_nonneg (show 0 ≤ m - N by omega) (show 0 ≤ 2 * s - p * (m + N - 1) by omega)
    omega
/-- the rows' numbers, scores -/
def nmI (rs : List Row) (i : Nat) : Int := (rs[i]?.map (·.num)).getD 0
def scI (rs : List Row) (i : Nat) : Int := (rs[i]?.map (·.sc)).getD 0
def sumL (f : Nat → Int) (l : List Nat) : Int := (l.map f).sum
theorem sumL_nil (f : Nat → Int) : sumL f [] = 0 := rfl
theorem sumL_cons (f : Nat → Int) (i : Nat) (l : List Nat) : sumL f (i :: l) = f i + sumL f l := by simp [sumL]
theorem sumL_app (f : Nat → Int) (l m : List Nat) : sumL f (l ++ m) = sumL f l + sumL f m := by simp [sumL, List.sum_append]
theorem sumL_perm (f : Nat → Int) {l m : List Nat} (h : l.Perm m) : sumL f l = sumL f m := by
  induction h with
  | nil => rfl
  | cons x _ ih => rw [sumL_cons, sumL_cons, ih]
  | swap x y l => simp only [sumL_cons]; omega
  | trans _ _ ih1 ih2 => rw [ih1, ih2]
theorem sumL_congr {f g : Nat → Int} {l : List Nat} (h : ∀ i ∈ l, f i = g i) : sumL f l = sumL g l := by
  unfold sumL
  rw [List.map_congr_left h]
theorem sumL_le {f g : Nat → Int} : ∀ {l : List Nat}, (∀ i ∈ l, f i ≤ g i) → sumL f l ≤ sumL g l
  | [], _ => Int.le_refl _
  | i :: l, h => by
    rw [sumL_cons, sumL_cons]
    have h1 := h i (by simp)
    have h2 := sumL_le (l := l) fun j hj => h j (by simp [hj])
    omega
theorem sumL_zero (l : List Nat) : sumL (fun _ => 0) l = 0 := by
  induction l with
  | nil => rfl
  | cons i l ih => rw [sumL_cons, ih]; rfl
/-- the order of the scores -/
def ordL (rs : List Row) : List Nat := (List.range rs.length).mergeSort fun a b => decide (scI rs a ≤ scI rs b)
theorem ordL_perm (rs : List Row) : (ordL rs).Perm (List.range rs.length) := List.mergeSort_perm _ _
theorem ordL_sorted (rs : List Row) : (ordL rs).Pairwise fun a b => scI rs a ≤ scI rs b := by
  have := List.pairwise_mergeSort (le := fun a b => decide (scI rs a ≤ scI rs b)) (fun a b c h1 h2 => by simp at *; omega) (fun a b => by simp; omega) (List.range rs.length)
  exact this.imp fun h => by simpa using h
theorem ordL_mem {rs : List Row} {i : Nat} : i ∈ ordL rs ↔ i < rs.length := by rw [(ordL_perm rs).mem_iff]; simp
theorem ordL_nodup (rs : List Row) : (ordL rs).Nodup := (ordL_perm rs).nodup_iff.mpr List.nodup_range
theorem ordL_len (rs : List Row) : (ordL rs).length = rs.length := by rw [(ordL_perm rs).length_eq, List.length_range]
/-- a ladder: players, scores in all, indexes -/
abbrev Lad := Int × Int × List Nat
def ladGo (rs : List Row) : Int → Int → List Nat → List Nat → List Lad
  | _, _, _, [] => []
  | N, T, ch, i :: r => (N + nmI rs i, T + nmI rs i * scI rs i, ch ++ [i]) :: ladGo rs (N + nmI rs i) (T + nmI rs i * scI rs i) (ch ++ [i]) r
def ladL (rs : List Row) : List Lad := ladGo rs 0 0 [] (ordL rs)
def lackStep (p : Int) (b : Int × List Nat) (l : Lad) : Int × List Nat := if b.1 < ownI p l.1 - l.2.1 then (ownI p l.1 - l.2.1, l.2.2) else b
def lackP (p : Int) (rs : List Row) : Int × List Nat := (ladL rs).foldl (lackStep p) (0, [])
def lackI (p : Int) (rs : List Row) : Int := (lackP p rs).1
def lackR (p : Int) (rs : List Row) : List Nat := (lackP p rs).2
def numS (rs : List Row) (l : List Nat) : Int := sumL (nmI rs) l
def scS (rs : List Row) (l : List Nat) : Int := sumL (fun i => nmI rs i * scI rs i) l
def spareI (p : Int) (rs : List Row) : Int := scS rs (List.range rs.length) - ownI p (numS rs (List.range rs.length))
theorem fold_ge (p : Int) : ∀ (ls : List Lad) (b : Int × List Nat), b.1 ≤ (ls.foldl (lackStep p) b).1 ∧ ∀ l ∈ ls, ownI p l.1 - l.2.1 ≤ (ls.foldl (lackStep p) b).1
  | [], b => ⟨Int.le_refl _, fun l h => by cases h⟩
  | l :: ls, b => by
    obtain ⟨h1, h2⟩ := fold_ge p ls (lackStep p b l)
    have h3 : b.1 ≤ (lackStep p b l).1 ∧ ownI p l.1 - l.2.1 ≤ (lackStep p b l).1 := by
      unfold lackStep
      split <;> simp <;> omega
    rw [List.foldl_cons]
    refine ⟨by omega, fun l' hl => ?_⟩
    rcases List.mem_cons.mp hl with rfl | hl
    · omega
    · exact h2 l' hl
theorem fold_at (p : Int) : ∀ (ls : List Lad) (b : Int × List Nat), ls.foldl (lackStep p) b = b ∨ ∃ l ∈ ls, ls.foldl (lackStep p) b = (ownI p l.1 - l.2.1, l.2.2) ∧ b.1 < ownI p l.1 - l.2.1
  | [], b => .inl rfl
  | l :: ls, b => by
    rw [List.foldl_cons]
    rcases fold_at p ls (lackStep p b l) with h | ⟨l', h1, h2, h3⟩
    · rw [h]
      unfold lackStep
      split
      · exact .inr ⟨l, by simp, rfl, by assumption⟩
      · exact .inl rfl
    · refine .inr ⟨l', by simp [h1], h2, ?_⟩
      have : b.1 ≤ (lackStep p b l).1 := by unfold lackStep; split <;> simp <;> omega
      omega
/-- what a ladder's steps are -/
theorem ladGo_mem (rs : List Row) : ∀ (r : List Nat) (N T : Int) (ch : List Nat) (l : Lad), N = numS rs ch → T = scS rs ch → l ∈ ladGo rs N T ch r → l.1 = numS rs l.2.2 ∧ l.2.1 = scS rs l.2.2 ∧ ∃ q, q <+: r ∧ l.2.2 = ch ++ q
  | [], _, _, _, _, _, _, h => by cases h
  | i :: r, N, T, ch, l, hN, hT, h => by
    have e1 : N + nmI rs i = numS rs (ch ++ [i]) := by unfold numS; rw [sumL_app, sumL_cons, sumL_nil, hN]; simp [numS]
    have e2 : T + nmI rs i * scI rs i = scS rs (ch ++ [i]) := by unfold scS; rw [sumL_app, sumL_cons, sumL_nil, hT]; simp [scS]
    unfold ladGo at h
    rcases List.mem_cons.mp h with rfl | h
    · exact ⟨e1, e2, [i], ⟨r, rfl⟩, rfl⟩
    · obtain ⟨h1, h2, q, ⟨t, ht⟩, h4⟩ := ladGo_mem rs r _ _ _ l e1 e2 h
      exact ⟨h1, h2, i :: q, ⟨t, by rw [List.cons_append, ht]⟩, by rw [h4, List.append_assoc]; rfl⟩
theorem ladL_mem {rs : List Row} {l : Lad} (h : l ∈ ladL rs) : l.1 = numS rs l.2.2 ∧ l.2.1 = scS rs l.2.2 ∧ l.2.2 <+: ordL rs := by
  obtain ⟨h1, h2, q, h3, h4⟩ := ladGo_mem rs _ 0 0 [] l rfl rfl h
  exact ⟨h1, h2, by rw [h4]; exact h3⟩
theorem lackI_nonneg (p : Int) (rs : List Row) : 0 ≤ lackI p rs := (fold_ge p (ladL rs) (0, [])).1
/-- the lot that is told -/
theorem lackR_is (p : Int) (rs : List Row) : (lackI p rs = 0 ∧ lackR p rs = []) ∨ (0 < lackI p rs ∧ lackI p rs = ownI p (numS rs (lackR p rs)) - scS rs (lackR p rs) ∧ lackR p rs <+: ordL rs) := by
  unfold lackI lackR lackP
  rcases fold_at p (ladL rs) (0, []) with h | ⟨l, h1, h2, h3⟩
  · rw [h]; exact .inl ⟨rfl, rfl⟩
  · rw [h2]
    obtain ⟨g1, g2, g3⟩ := ladL_mem h1
    refine .inr ⟨h3, ?_, g3⟩
    show ownI p l.1 - l.2.1 = _
    rw [g1, g2]
/-- no lot lacks more: along the order -/
theorem lot_key {rs : List Row} {p m B L : Int} (hp : 0 ≤ p) {c : Nat → Int} : ∀ (r : List Nat) (N T a b s0 : Int) (ch : List Nat), r.Pairwise (fun i j => scI rs i ≤ scI rs j) → (∀ i ∈ r, s0 ≤ scI rs i) → (∀ i ∈ r, 0 ≤ c i ∧ c i ≤ nmI rs i) →
    a + sumL c r = m → b + sumL (fun i => c i * scI rs i) r = B → a ≤ N → (∀ s, s0 ≤ s → T - N * s ≤ b - a * s) → ownI p N - T ≤ L → (∀ l ∈ ladGo rs N T ch r, ownI p l.1 - l.2.1 ≤ L) → N ≤ m → ownI p m - B ≤ L
  | [], N, T, a, b, s0, ch, _, _, _, ha, hb, haN, ht, hL, _, hm => by
    rw [sumL_nil] at ha hb
    have : a = N := by omega
    subst this
    have := ht s0 (Int.le_refl _)
    have e : m = a := by omega
    subst e
    omega
  | i :: r, N, T, a, b, s0, ch, hs, h0, hc, ha, hb, haN, ht, hL, hl, hm => by
    have hs1 := (List.pairwise_cons.mp hs).1
    have hs2 := (List.pairwise_cons.mp hs).2
    have hn := hc i (by simp)
    have e0 := h0 i (by simp)
    have hl1 := hl (N + nmI rs i, T + nmI rs i * scI rs i, ch ++ [i]) (by unfold ladGo; simp)
    by_cases hmi : m ≤ N + nmI rs i
    · -- here
      have hrest : sumL (fun j => c j * scI rs i) (i :: r) ≤ sumL (fun j => c j * scI rs j) (i :: r) := sumL_le fun j hj => by
        rcases List.mem_cons.mp hj with rfl | hj
        · exact Int.le_refl _
        · exact Int.mul_le_mul_of_nonneg_left (hs1 j hj) (hc j (by simp [hj])).1
      have hmul : sumL (fun j => c j * scI rs i) (i :: r) = sumL c (i :: r) * scI rs i := by
        generalize i :: r = q
        induction q with
        | nil => simp [sumL]
        | cons x q ih => rw [sumL_cons, sumL_cons, ih]; grind
      have h2 := ht (scI rs i) e0
      have h3 : m * scI rs i = a * scI rs i + sumL c (i :: r) * scI rs i := by rw [← ha]; grind
      simp only at hl1
      rcases own_convex (s := scI rs i) hp hm hmi with h | h
      · have h4 : (N + nmI rs i) * scI rs i = N * scI rs i + nmI rs i * scI rs i := by grind
        omega
      · omega
    · have e1 : a + c i + sumL c r = m := by rw [sumL_cons] at ha; omega
      have e2 : b + c i * scI rs i + sumL (fun i => c i * scI rs i) r = B := by rw [sumL_cons] at hb; omega
      refine lot_key hp r (N + nmI rs i) (T + nmI rs i * scI rs i) (a + c i) (b + c i * scI rs i) (scI rs i) (ch ++ [i]) hs2 hs1 (fun j hj => hc j (by simp [hj])) e1 e2 (by omega) (fun s hs => ?_) hl1 (fun l hl2 => hl l (by unfold ladGo; simp [hl2])) (by omega)
      have h1 := ht s (by omega)
      have h2 : (nmI rs i - c i) * (scI rs i - s) ≤ 0 := by
        have := Int.mul_nonneg (show 0 ≤ nmI rs i - c i by omega) (show 0 ≤ s - scI rs i by omega)
        grind
      grind
/-- no lot lacks more -/
theorem lack_most {p : Int} {rs : List Row} (hp : 0 ≤ p) {c : Nat → Int} (hc : ∀ i < rs.length, 0 ≤ c i ∧ c i ≤ nmI rs i) :
    ownI p (sumL c (List.range rs.length)) - sumL (fun i => c i * scI rs i) (List.range rs.length) ≤ lackI p rs := by
  rw [← sumL_perm c (ordL_perm rs), ← sumL_perm (fun i => c i * scI rs i) (ordL_perm rs)]
  have hge := fold_ge p (ladL rs) (0, [])
  have hnn : 0 ≤ sumL c (ordL rs) := by
    rw [← sumL_zero (ordL rs)]
    exact sumL_le fun i hi => (hc i (ordL_mem.mp hi)).1
  -- a lower bound of the scores
  have hlow : ∃ s0, ∀ i ∈ ordL rs, s0 ≤ scI rs i := by
    generalize ordL rs = l
    induction l with
    | nil => exact ⟨0, fun i h => by cases h⟩
    | cons i l ih =>
      obtain ⟨s0, h⟩ := ih
      refine ⟨min s0 (scI rs i), fun j hj => ?_⟩
      rcases List.mem_cons.mp hj with rfl | hj
      · omega
      · have := h j hj; omega
  obtain ⟨s0, h0⟩ := hlow
  exact lot_key hp (ordL rs) 0 0 0 0 s0 [] (ordL_sorted rs) h0 (fun i hi => hc i (ordL_mem.mp hi)) (by omega) (by omega) (Int.le_refl _) (fun s _ => by simp) (by rw [own_zero]; exact hge.1) hge.2 hnn
/-- a lot of all or none of each kind -/
theorem lack_kinds {p : Int} {rs : List Row} (hp : 0 ≤ p) (hn : ∀ i < rs.length, 0 ≤ nmI rs i) {l : List Nat} (hl : l.Nodup) (hm : ∀ i ∈ l, i < rs.length) : ownI p (numS rs l) - scS rs l ≤ lackI p rs := by
  have key : ∀ f : Nat → Int, sumL (fun i => if i ∈ l then f i else 0) (List.range rs.length) = sumL f l := fun f => by
    have hperm : ((List.range rs.length).filter fun i => decide (i ∈ l)).Perm l := by
      refine (List.perm_ext_iff_of_nodup (List.nodup_range.sublist List.filter_sublist) hl).mpr fun i => ?_
      simp only [List.mem_filter, List.mem_range, decide_eq_true_eq]
      exact ⟨fun h => h.2, fun h => ⟨hm i h, h⟩⟩
    rw [← sumL_perm f hperm]
    generalize List.range rs.length = q
    induction q with
    | nil => rfl
    | cons x q ih =>
      rw [sumL_cons, ih, List.filter_cons]
      by_cases h : x ∈ l
      · simp [h, sumL_cons]
      · simp [h]
  have := lack_most (c := fun i => if i ∈ l then nmI rs i else 0) hp fun i hi => by
    have := hn i hi
    split <;> omega
  rw [key] at this
  have e : (fun i => (if i ∈ l then nmI rs i else 0) * scI rs i) = fun i => if i ∈ l then nmI rs i * scI rs i else 0 := by
    funext i
    split <;> simp
  rw [e, key] at this
  exact this
end G
namespace G
section
variable {Γ : Ctx} {f g h : Fd} {c : Nat}
theorem okMul_abs {i j : Int} (h1 : i.natAbs ≤ 10 ^ 300) (h2 : j.natAbs ≤ 10 ^ 300) : okMul i j = true := by
  unfold okMul BIG
  have : (10 : Nat) ^ 300 < 2 ^ 4000 := by decide +kernel
  simp only [Bool.and_eq_true, decide_eq_true_eq]
  omega
theorem abs_mul {i j : Int} {A B : Nat} (h1 : i.natAbs ≤ A) (h2 : j.natAbs ≤ B) : (i * j).natAbs ≤ A * B := by
  rw [Int.natAbs_mul]; exact Nat.mul_le_mul h1 h2
def SpOwn (f : Fd) : Prop := ∀ (p n : Int) (st : Store), p.natAbs ≤ 10 ^ 50 → n.natAbs ≤ 10 ^ 50 → f [.int p, .int n] st = .ok (.int (ownI p n)) st
theorem sp_own : SpOwn (runF 2 2 (m_own_points Γ)) := by
  intro p n st hp hn
  apply OP_eq
  refine OP_run rfl ?_
  delta m_own_points
  have e1 : okMul p n = true := okMul_abs (Nat.le_trans hp (by decide +kernel)) (Nat.le_trans hn (by decide +kernel))
  have e2 : okMul (p * n) (n - 1) = true := okMul_abs (Nat.le_trans (abs_mul hp hn) (by decide +kernel)) (by
    have : (n - 1).natAbs ≤ n.natAbs + 1 := by omega
    have h3 : (10 : Nat) ^ 50 + 1 ≤ 10 ^ 300 := by decide +kernel
    omega)
  have e3 : okDiv 2 = true := okDiv_of (by omega) (by omega)
  simp! only [e1, e2, e3]
  rfl
/-- rows whose numbers are not too great -/
def RowsB (rs : List Row) : Prop := rs.length ≤ 1000 ∧ ∀ r ∈ rs, 0 ≤ r.num ∧ r.num ≤ 10 ^ 40 ∧ r.sc.natAbs ≤ 10 ^ 40
theorem RowsOk.b {rs : List Row} (h : RowsOk rs) : RowsB rs := ⟨by have := h.l6; omega, fun r hr => by
  have k := h.ok r hr
  have := k.n1; have := k.n2; have := k.s1; have := k.s2
  omega⟩
theorem nmI_at {rs : List Row} {i : Nat} {r : Row} (h : rs[i]? = some r) : nmI rs i = r.num := by unfold nmI; rw [h]; rfl
theorem scI_at {rs : List Row} {i : Nat} {r : Row} (h : rs[i]? = some r) : scI rs i = r.sc := by unfold scI; rw [h]; rfl
theorem row_get {rs : List Row} {i : Nat} (h : i < rs.length) : ∃ r, rs[i]? = some r ∧ r ∈ rs := ⟨rs[i], List.getElem?_eq_getElem h, List.getElem_mem h⟩
theorem numS_bd {rs : List Row} (hb : RowsB rs) : ∀ {l : List Nat}, (∀ i ∈ l, i < rs.length) → 0 ≤ numS rs l ∧ (numS rs l).natAbs ≤ l.length * 10 ^ 40 ∧ (scS rs l).natAbs ≤ l.length * 10 ^ 80
  | [], _ => by simp [numS, scS, sumL]
  | i :: l, h => by
    obtain ⟨h1, h2, h3⟩ := numS_bd hb (l := l) fun j hj => h j (by simp [hj])
    obtain ⟨r, hr, hm⟩ := row_get (h i (by simp))
    obtain ⟨b1, b2, b3⟩ := hb.2 r hm
    have e1 : numS rs (i :: l) = r.num + numS rs l := by unfold numS; rw [sumL_cons, nmI_at hr]
    have e2 : scS rs (i :: l) = r.num * r.sc + scS rs l := by unfold scS; rw [sumL_cons, nmI_at hr, scI_at hr]
    have e3 : (r.num * r.sc).natAbs ≤ 10 ^ 80 := Nat.le_trans (abs_mul (show r.num.natAbs ≤ 10 ^ 40 by omega) b3) (by decide +kernel)
    rw [e1, e2, List.length_cons, Nat.add_mul, Nat.add_mul]
    refine ⟨by omega, by omega, by omega⟩
def ladD (l : Lad) : D := .tup [.int l.1, .int l.2.1, .tup (l.2.2.map fun (i : Nat) => .int (i : Int))]
theorem ladGo_snoc (rs : List Row) (x : Nat) : ∀ (r : List Nat) (N T : Int) (ch : List Nat), ladGo rs N T ch (r ++ [x]) = ladGo rs N T ch r ++ [(N + numS rs (r ++ [x]), T + scS rs (r ++ [x]), ch ++ (r ++ [x]))]
  | [], N, T, ch => by simp [ladGo, numS, scS, sumL]
  | i :: r, N, T, ch => by
    rw [List.cons_append]
    unfold ladGo
    rw [ladGo_snoc rs x r]
    have e1 : N + nmI rs i + numS rs (r ++ [x]) = N + numS rs (i :: (r ++ [x])) := by unfold numS; rw [sumL_cons]; omega
    have e2 : T + nmI rs i * scI rs i + scS rs (r ++ [x]) = T + scS rs (i :: (r ++ [x])) := by unfold scS; rw [sumL_cons]; omega
    rw [e1, e2]
    simp
theorem ladGo_len (rs : List Row) : ∀ (r : List Nat) (N T : Int) (ch : List Nat), (ladGo rs N T ch r).length = r.length
  | [], _, _, _ => rfl
  | i :: r, _, _, _ => by unfold ladGo; rw [List.length_cons, List.length_cons, ladGo_len rs r]
/-- what is rows -/
def IsRs (d : D) (rs : List Row) : Prop := d = .tup (rs.map encR) ∨ d = .lst (rs.map encR)
theorem IsRs.len {d : D} {rs : List Row} (h : IsRs d rs) (st : Store) : bi .len st [d] = some (.int rs.length) := by
  rcases h with rfl | rfl
  · show some (D.int ((rs.map encR).length : Int)) = _; rw [List.length_map]
  · show some (D.int ((rs.map encR).length : Int)) = _; rw [List.length_map]
theorem IsRs.seq {d : D} {rs : List Row} (h : IsRs d rs) : seqF d = some (rs.map encR) := by rcases h with rfl | rfl <;> rfl
theorem IsRs.idx {d : D} {rs : List Row} (h : IsRs d rs) {i : Nat} {r : Row} (hr : rs[i]? = some r) (st : Store) : op2 .idx st d (.int i) = some (encR r) := by
  have : atI (rs.map encR) (i : Int) = some (encR r) := by rw [atI_nat, List.getElem?_map, hr]; rfl
  rcases h with rfl | rfl <;> exact this
def SpLadders (f : Fd) : Prop := ∀ (d : D) (rs : List Row) (st : Store), IsRs d rs → RowsB rs → f [d] st = .ok (.lst ((ladL rs).map ladD)) st
theorem sort_ord {rs : List Row} {key : D → Option D} (hk : ∀ i < rs.length, key (.int (i : Nat)) = some (.int (scI rs i))) : sortK key ((List.range rs.length).map fun (k : Nat) => D.int (k : Int)) = some ((ordL rs).map fun (k : Nat) => D.int (k : Int)) := by
  unfold sortK
  have hall : (((List.range rs.length).map fun (k : Nat) => D.int (k : Int)).all fun x => (dInt (key x)).isSome) = true := by
    rw [List.all_eq_true]
    intro x hx
    obtain ⟨i, hi, rfl⟩ := List.mem_map.mp hx
    rw [hk i (by simpa using hi)]; rfl
  rw [if_pos hall]
  unfold ordL
  rw [List.map_mergeSort]
  intro a ha b hb
  rw [hk a (by simpa using ha), hk b (by simpa using hb)]
  rfl
theorem sp_ladders : SpLadders (runF 1 7 (m_ladders Γ)) := by
  intro d rs st hd hb
  have hL : ((rs.length : Nat) : Int) ≤ 1000 := by have := hb.1; omega
  apply OP_eq
  refine OP_run rfl ?_
  delta m_ladders
  have ek : ∀ i < rs.length, KX.val [.v d, .em, .em, .em, .em, .em, .em] (.int (i : Nat)) (.ix (.ix (.c 0) .p) (.k 2)) = some (.int (scI rs i)) := fun i hi => by
    obtain ⟨r, hr, _⟩ := row_get hi
    have e1 : atI (rs.map encR) (i : Int) = some (encR r) := by rw [atI_nat, List.getElem?_map, hr]; rfl
    show ((((some d).bind fun u => (seqF u).bind fun xs => atI xs (i : Int))).bind fun u => (seqF u).bind fun xs => atI xs 2) = _
    rw [show ((some d).bind fun u => (seqF u).bind fun xs => atI xs (i : Int)) = (seqF d).bind fun xs => atI xs (i : Int) from rfl, hd.seq]
    show ((atI (rs.map encR) (i : Int)).bind fun u => (seqF u).bind fun xs => atI xs 2) = _
    rw [e1, scI_at hr]
    rfl
  have es := sort_ord (key := fun x => KX.val [.v d, .em, .em, .em, .em, .em, .em] x (.ix (.ix (.c 0) .p) (.k 2))) ek
  simp! only [hd.len, range0, Int.toNat_natCast, es]
  refine ⟨⟨by unfold LIM; omega, by unfold LIM; omega⟩, ?_⟩
  refine forL_invL (enc := fun (k : Nat) => D.int (k : Int)) (fun (pre : List Nat) env st' => ∃ (s2 : Sl), env = [.v d, .v (.lst ((ordL rs).map fun (k : Nat) => D.int (k : Int))), s2, .own ((ladGo rs 0 0 [] pre).map ladD), .v (.int (numS rs pre)), .v (.int (scS rs pre)), .v (.tup (pre.map fun (k : Nat) => D.int (k : Int)))] ∧ st' = st) ⟨_, rfl, rfl⟩ ?_ ?_
  · rintro pre x post env st' e ⟨s2, rfl, rfl⟩
    have hmem : ∀ i ∈ pre ++ [x], i < rs.length := fun i hi => ordL_mem.mp (by rw [e]; simp only [List.mem_append, List.mem_cons, List.mem_singleton, List.not_mem_nil, or_false] at hi ⊢; exact hi.imp id .inl)
    have hx : x < rs.length := hmem x (by simp)
    have hlen : pre.length < 1000 := by
      have := congrArg List.length e
      rw [ordL_len] at this
      simp at this
      have := hb.1
      omega
    obtain ⟨r, hr, hm⟩ := row_get hx
    obtain ⟨b1, b2, b3⟩ := hb.2 r hm
    have i1 : ∀ st, op2 .idx st d (.int (x : Int)) = some (encR r) := fun st => hd.idx hr st
    have e1 : okMul r.num r.sc = true := okMul_abs (by omega) (by omega)
    have n1 : numS rs pre + r.num = numS rs (pre ++ [x]) := by unfold numS; rw [sumL_app, sumL_cons, sumL_nil, nmI_at hr]; omega
    have n2 : scS rs pre + r.num * r.sc = scS rs (pre ++ [x]) := by unfold scS; rw [sumL_app, sumL_cons, sumL_nil, nmI_at hr, scI_at hr]; omega
    refine ⟨_, by simp! only []; rfl, ?_⟩
    simp! only [i1, idx_row1, idx_row2, e1, n1, n2]
    simp only [List.length_map, ladGo_len, List.length_cons, List.length_nil]
    refine ⟨lim_ge (by omega), Nat.lt_of_lt_of_le (show pre.length < 1000 from hlen) (lim_ge (by omega)), ?_⟩
    rw [ladGo_snoc]
    simp [ladD]
  · rintro env st' ⟨s2, rfl, rfl⟩
    simp! only []
    rfl
def SpLackOf (f : Fd) : Prop := ∀ (p : Int) (d : D) (rs : List Row) (st : Store), p.natAbs ≤ 1000 → IsRs d rs → RowsB rs → f [.int p, d] st = .ok (.tup [.int (lackI p rs), .tup ((lackR p rs).map fun (i : Nat) => .int (i : Int))]) st
theorem sp_lackof (hl : SpLadders f) (ho : SpOwn g) : SpLackOf (runF 2 7 (m_lack_of Γ f g)) := by
  intro p d rs st hp hd hb
  apply OP_eq
  refine OP_run rfl ?_
  delta m_lack_of
  simp! only [hl d rs _ hd hb]
  refine forL_invL (enc := ladD) (fun (pre : List Lad) env st' => ∃ (s4 s5 s6 : Sl), env = [.v (.int p), .v d, .v (.int (pre.foldl (lackStep p) (0, [])).1), .v (.tup ((pre.foldl (lackStep p) (0, [])).2.map fun (i : Nat) => .int (i : Int))), s4, s5, s6] ∧ st' = st) ⟨_, _, _, rfl, rfl⟩ ?_ ?_
  · rintro pre l post env st' e ⟨s4, s5, s6, rfl, rfl⟩
    have hm : l ∈ ladL rs := by rw [e]; simp
    obtain ⟨g1, g2, g3⟩ := ladL_mem hm
    have hin : ∀ i ∈ l.2.2, i < rs.length := fun i hi => ordL_mem.mp (g3.subset hi)
    have hlen : l.2.2.length ≤ 1000 := by have := g3.length_le; rw [ordL_len] at this; have := hb.1; omega
    obtain ⟨n1, n2, n3⟩ := numS_bd hb hin
    have hN : l.1.natAbs ≤ 10 ^ 50 := by
      rw [g1]
      refine Nat.le_trans n2 (Nat.le_trans (Nat.mul_le_mul_right _ hlen) (by decide +kernel))
    have eo : ∀ st, g [.int p, .int l.1] st = .ok (.int (ownI p l.1)) st := fun st => ho p l.1 st (Nat.le_trans hp (by decide +kernel)) hN
    refine ⟨_, by simp! only [ladD]; rfl, ?_⟩
    simp! only [eo]
    rw [List.foldl_append, List.foldl_cons, List.foldl_nil]
    unfold lackStep
    refine ⟨fun h => ?_, fun h => ?_⟩
    · rw [if_pos h]
      exact ⟨_, _, _, rfl⟩
    · rw [if_neg h]
      exact ⟨_, _, _, rfl⟩
  · rintro env st' ⟨s4, s5, s6, rfl, rfl⟩
    simp! only []
    rfl
end
end G
namespace G
section
variable {Γ : Ctx} {c : Nat} {fd fr fv fright fwell : Fd}
theorem at_val {α : Type} {P : α → Prop} {xs : List α} {k : Int} (h0 : 0 ≤ k) (h1 : k < xs.length) (h : ∀ v ∈ xs, P v) : ∃ v, atI xs k = some v ∧ P v := by
  obtain ⟨q, rfl⟩ := Int.eq_ofNat_of_zero_le h0
  have hq : q < xs.length := by omega
  refine ⟨xs[q], ?_, h _ (List.getElem_mem hq)⟩
  rw [atI_nat, List.getElem?_eq_getElem hq]
theorem str_ok (s : List Nat) : VOk (.str s) := .inl ⟨s, rfl⟩
theorem LC.has {K : Cl} (L : LC Γ c K) {g : Nat} {v : D} {p : Int} {rs : List Row} {neg b : Bool} {st : Store} (hm : K.meths.lookup n_contains = some g) (hg : Γ.call g [objL c p rs, v] st = .ok (.bl b) st) : hasV Γ c neg v (objL c p rs) st = .ok (.bl (b != neg)) st := by
  unfold hasV
  show (if c = c then (match (Γ.cls c).bind fun k => k.meths.lookup n_contains with
    | some f => (Γ.call f [objL c p rs, v] st).hush.bind fun r st => _
    | none => .bad) else .bad) = _
  rw [if_pos rfl]
  have e2 : ((Γ.cls c).bind fun k => k.meths.lookup n_contains) = some g := by rw [L.at_]; exact hm
  rw [e2]
  show (Γ.call g [objL c p rs, v] st).hush.bind _ = _
  rw [hg]
  rfl
end
end G
namespace G
section
variable {Γ : Ctx} {f g h f1 f2 f3 f4 f5 f6 : Fd} {c : Nat}
theorem ladL_last {rs : List Row} (h1 : 1 ≤ rs.length) : ∃ l : List Lad, ladL rs = l ++ [(numS rs (ordL rs), scS rs (ordL rs), ordL rs)] := by
  rcases List.eq_nil_or_concat (ordL rs) with e | ⟨r, x, e⟩
  · have := ordL_len rs
    rw [e] at this
    simp at this
    omega
  · rw [List.concat_eq_append] at e
    unfold ladL
    rw [e, ladGo_snoc]
    exact ⟨ladGo rs 0 0 [] r, by simp⟩
theorem atI_last {α : Type} {xs : List α} {x : α} : atI (xs ++ [x]) (-1) = some x := by
  unfold atI ixN
  have h1 : ¬ (0 : Int) ≤ -1 := by omega
  have h2 : -(((xs ++ [x]).length : Nat) : Int) ≤ -1 := by simp; omega
  rw [if_neg h1, if_pos h2]
  have h3 : ((-1 : Int) + ((xs ++ [x]).length : Nat)).toNat = xs.length := by simp; omega
  show (xs ++ [x])[_]? = _
  rw [h3]
  simp
def SpSpareOf (f : Fd) : Prop := ∀ (p : Int) (d : D) (rs : List Row) (st : Store), p.natAbs ≤ 1000 → IsRs d rs → RowsB rs → 1 ≤ rs.length → f [.int p, d] st = .ok (.int (spareI p rs)) st
theorem sp_spareof (hl : SpLadders f) (ho : SpOwn g) : SpSpareOf (runF 2 5 (m_spare_of Γ f g)) := by
  intro p d rs st hp hd hb h1
  apply OP_eq
  refine OP_run rfl ?_
  delta m_spare_of
  obtain ⟨l, hl2⟩ := ladL_last h1
  have hN : (numS rs (ordL rs)).natAbs ≤ 10 ^ 50 := by
    refine Nat.le_trans (numS_bd hb fun i hi => ordL_mem.mp hi).2.1 ?_
    rw [ordL_len]
    exact Nat.le_trans (Nat.mul_le_mul_right _ hb.1) (by decide +kernel)
  have eo : ∀ st, g [.int p, .int (numS rs (ordL rs))] st = .ok (.int (ownI p (numS rs (ordL rs)))) st := fun st => ho p _ st (Nat.le_trans hp (by decide +kernel)) hN
  have e1 : ∀ st, op2 .idx st (.lst ((ladL rs).map ladD)) (.int (-1)) = some (ladD (numS rs (ordL rs), scS rs (ordL rs), ordL rs)) := fun st => by
    rw [hl2, List.map_append]
    exact atI_last
  simp! only [hl d rs _ hd hb, e1, ladD, eo]
  unfold spareI numS scS
  rw [sumL_perm _ (ordL_perm rs), sumL_perm _ (ordL_perm rs)]
def SpIsPoss (f : Fd) : Prop := ∀ (p : Int) (d : D) (rs : List Row) (st : Store), p.natAbs ≤ 1000 → IsRs d rs → RowsB rs → 1 ≤ rs.length → f [.int p, d] st = .ok (.bl (decide (spareI p rs = 0) && decide (lackI p rs = 0))) st
theorem sp_isposs (hs : SpSpareOf f) (hl : SpLackOf g) : SpIsPoss (runF 2 2 (m_is_possible Γ f g)) := by
  intro p d rs st hp hd hb h1
  apply OP_eq
  refine OP_run rfl ?_
  delta m_is_possible
  simp! only [hs p d rs _ hp hd hb h1, hl p d rs _ hp hd hb]
  by_cases h : spareI p rs = 0
  · simp! only [h, decide_true]
    simp
  · simp! only [h, decide_false]
    simp
def SpWithinI (f : Fd) : Prop := ∀ (x a b : Int) (st : Store), f [.int x, .int a, .int b] st = .ok (.bl (decide (a ≤ x ∧ x ≤ b))) st
theorem sp_withinI : SpWithinI (runF 3 3 (m_within Γ)) := by
  intro x a b st
  apply OP_eq
  refine OP_run rfl ?_
  delta m_within
  simp! only []
  by_cases h : a ≤ x
  · simp! only [h, decide_true]
  · simp! only [h, decide_false]
end
end G
namespace G
section
variable {nx : Env → Store → Prop} {rt : D → Store → Prop} {bk ct : Env → Store → Prop} {s : Sem} {f : StS} {env : Env} {st : Store}
theorem RP_whl : @RP ⟨nx, rt, bk, ct⟩ (whlS s f env st) = @RP ⟨nx, rt, bk, ct⟩ (whileL s.test f 2000 env st) := propext Iff.rfl
theorem whl_inv {t : Env → Store → O Bool} {body : StS} (I : Nat → Env → Store → Prop)
    (hs : ∀ m env st, I m env st → @OPi _ ⟨fun b st' => if b = true then @RP ⟨fun env st => ∃ m', m' < m ∧ I m' env st, rt, nx, fun env st => ∃ m', m' < m ∧ I m' env st⟩ (body env st') else nx env st'⟩ (t env st)) :
    ∀ n m env st, I m env st → m < n → @RP ⟨nx, rt, bk, ct⟩ (whileL t body n env st)
  | 0, m, _, _, _, h => absurd h (by omega)
  | n + 1, m, env, st, hI, h => by
    have q := hs m env st hI
    show @RP ⟨nx, rt, bk, ct⟩ ((t env st).run env fun b st => if b then (match body env st with
      | .nx env st => whileL t body n env st
      | .ct env st => whileL t body n env st
      | .bk env st => .nx env st
      | o => o) else .nx env st)
    cases ht : t env st with
    | ok b st' =>
      rw [ht] at q
      have q : if b = true then @RP ⟨fun env st => ∃ m', m' < m ∧ I m' env st, rt, nx, fun env st => ∃ m', m' < m ∧ I m' env st⟩ (body env st') else nx env st' := q
      show @RP ⟨nx, rt, bk, ct⟩ (if b then (match body env st' with
        | .nx env st => whileL t body n env st
        | .ct env st => whileL t body n env st
        | .bk env st => .nx env st
        | o => o) else .nx env st')
      cases b with
      | false => exact q
      | true =>
        rw [if_pos rfl] at q
        rw [if_pos rfl]
        cases hb : body env st' with
        | nx env2 st2 =>
          rw [hb] at q
          obtain ⟨m', h1, h2⟩ := q
          exact whl_inv I hs n m' env2 st2 h2 (by omega)
        | ct env2 st2 =>
          rw [hb] at q
          obtain ⟨m', h1, h2⟩ := q
          exact whl_inv I hs n m' env2 st2 h2 (by omega)
        | bk env2 st2 => rw [hb] at q; exact q
        | rt d st2 => rw [hb] at q; exact q
        | ex _ _ _ _ => rw [hb] at q; exact q.elim
        | bad => rw [hb] at q; exact q.elim
    | ex _ _ _ => rw [ht] at q; exact q.elim
    | bad => rw [ht] at q; exact q.elim
end
structure LRow where
  nm : List Nat
  num : Int
  lo : Int
  hi : Int
def encW (r : LRow) : D := .tup [.str r.nm, .int r.num, .int r.lo, .int r.hi]
structure LRowB (r : LRow) : Prop where
  n1 : 1 ≤ r.num
  n2 : r.num ≤ 10 ^ 30
  l1 : 0 ≤ r.lo
  l2 : r.lo ≤ 10 ^ 33
  h1 : 0 ≤ r.hi
  h2 : r.hi ≤ 10 ^ 33
def levI (r : LRow) (s : Int) : Int := if (if s < r.hi then s else r.hi) > r.lo then (if s < r.hi then s else r.hi) else r.lo
def totI (rs : List LRow) (s : Int) : Int := (rs.map fun r => r.num * levI r s).sum
section
variable {Γ : Ctx} {f g h fo fp : Fd}
theorem levI_lo {r : LRow} (h : LRowB r) {s : Int} (h0 : 0 ≤ s) : 0 ≤ levI r s ∧ levI r s ≤ 10 ^ 33 := by
  have := h.l1; have := h.l2; have := h.h1; have := h.h2
  unfold levI
  split <;> split <;> constructor <;> omega
theorem levI_mono {r : LRow} {s t : Int} (h : s ≤ t) : levI r s ≤ levI r t := by
  unfold levI
  (repeat' split) <;> omega
theorem levI_step {r : LRow} {s : Int} : levI r (s + 1) ≤ levI r s + 1 := by
  unfold levI
  (repeat' split) <;> omega
def SpLevel (f : Fd) : Prop := ∀ r (s : Int) st, f [encW r, .int s] st = .ok (.int (levI r s)) st
theorem sp_level : SpLevel (runF 2 2 (m_level Γ)) := by
  intro r s st
  have e2 : ∀ st, op2 .idx st (encW r) (.int 2) = some (.int r.lo) := fun _ => rfl
  have e3 : ∀ st, op2 .idx st (encW r) (.int 3) = some (.int r.hi) := fun _ => rfl
  apply OP_eq
  refine OP_run rfl ?_
  delta m_level
  simp! only [e2, e3]
  rfl
def IsWs (d : D) (rs : List LRow) : Prop := d = .tup (rs.map encW) ∨ d = .lst (rs.map encW)
structure LRowsB (rs : List LRow) : Prop where
  l6 : rs.length ≤ 1000
  ok : ∀ r ∈ rs, LRowB r
theorem dInts_mapI {α : Type} (g : α → Int) : ∀ l : List α, dInts (l.map fun x => D.int (g x)) = some (l.map g)
  | [] => rfl
  | x :: l => by
    show (dInts (l.map fun x => D.int (g x))).map (g x :: ·) = _
    rw [dInts_mapI g l]; rfl
theorem sum_mapI {α : Type} {st : Store} (g : α → Int) (l : List α) : bi .sum st [.lst (l.map fun x => D.int (g x))] = some (.int (l.map g).sum) := by
  show ((some (l.map fun x => D.int (g x))).bind fun xs => (dInts xs).map fun is => D.int is.sum) = _
  rw [Option.bind_some, dInts_mapI]; rfl
def SpTotal (f : Fd) : Prop := ∀ d rs (s : Int) st, IsWs d rs → LRowsB rs → 0 ≤ s → f [d, .int s] st = .ok (.int (totI rs s)) st
theorem sp_total (hl : SpLevel g) : SpTotal (runF 2 3 (m_total_at Γ g)) := by
  intro d rs s st hd hb hs
  have hsi : seqI d = some (rs.map encW) := by rcases hd with rfl | rfl <;> rfl
  apply OP_eq
  refine OP_run rfl ?_
  delta m_total_at
  simp! only [hsi]
  rw [comp_mapL (enc := encW) (g := fun r => .int (r.num * levI r s)) rs (lim_ge (by have := hb.l6; omega)) fun r hr => by
    have e1 : ∀ st, op2 .idx st (encW r) (.int 1) = some (.int r.num) := fun _ => rfl
    have h1 := hb.ok r hr
    have h2 := levI_lo h1 hs
    have := h1.n1; have := h1.n2
    apply OP_eq
    simp! only [turnV_eq, e1, hl r s]
    exact okMul_of (by omega) (by omega) (by omega) (by omega)]
  simp! only [sum_mapI]
  rfl
theorem totI_mono {rs : List LRow} (hb : ∀ r ∈ rs, LRowB r) {s t : Int} (h : s ≤ t) : totI rs s ≤ totI rs t := by
  induction rs with
  | nil => exact Int.le_refl _
  | cons r rs ih =>
    have h1 := hb r (by simp)
    have h2 := ih fun x hx => hb x (by simp [hx])
    have h3 := levI_mono (r := r) h
    have h4 : r.num * levI r s ≤ r.num * levI r t := Int.mul_le_mul_of_nonneg_left h3 (by have := h1.n1; omega)
    show r.num * levI r s + totI rs s ≤ r.num * levI r t + totI rs t
    omega
/-- the greatest score at which the total is at most w -/
structure LastP (rs : List LRow) (w s : Int) : Prop where
  s0 : 0 ≤ s
  s1 : s ≤ 10 ^ 33
  le : totI rs s ≤ w
  gt : s < 10 ^ 33 → w < totI rs (s + 1)
def SpLast (f : Fd) : Prop := ∀ d rs (w : Int) st, IsWs d rs → LRowsB rs → totI rs 0 ≤ w → OP (fun r st' => st' = st ∧ ∃ s, r = .int s ∧ LastP rs w s) (f [d, .int w] st)
theorem sp_last (ht : SpTotal g) : SpLast (runF 2 5 (m_last_level Γ g)) := by
  intro d rs w st hd hb h0
  refine OP_run rfl ?_
  delta m_last_level
  simp! only []
  rw [RP_whl]
  refine whl_inv (fun m env st' => st' = st ∧ ∃ lo hi s4, env = [.v d, .v (.int w), .v (.int lo), .v (.int hi), s4] ∧ 0 ≤ lo ∧ lo ≤ hi ∧ hi ≤ 10 ^ 33 ∧ hi - lo < 2 ^ m ∧ totI rs lo ≤ w ∧ (hi < 10 ^ 33 → w < totI rs (hi + 1))) ?_ 2000 110 _ _ ⟨rfl, _, _, _, rfl, by omega, by omega, by omega, by decide, h0, fun h => by omega⟩ (by omega)
  rintro m env st' ⟨rfl, lo, hi, s4, rfl, h1, h2, h3, h4, h5, h6⟩
  simp! only []
  by_cases hlt : lo < hi
  · simp! only [hlt, decide_true]
    refine ⟨okDiv_of (by omega) (by omega), ?_⟩
    have hm1 : lo < (lo + hi + 1) / 2 := by omega
    have hm2 : (lo + hi + 1) / 2 ≤ hi := by omega
    have hm3 : lo + hi ≤ 2 * ((lo + hi + 1) / 2) ∧ 2 * ((lo + hi + 1) / 2) ≤ lo + hi + 1 := by omega
    generalize (lo + hi + 1) / 2 = mid at hm1 hm2 hm3 ⊢
    simp! only [ht d rs mid _ hd hb (by omega)]
    cases m with
    | zero => simp at h4; omega
    | succ m =>
      have e2 : (2 : Int) ^ (m + 1) = 2 * 2 ^ m := by rw [Int.pow_succ]; omega
      rw [e2] at h4
      by_cases hc : totI rs mid ≤ w
      · simp! only [hc, decide_true]
        exact ⟨m, by omega, _, _, _, rfl, by omega, by omega, h3, by omega, hc, h6⟩
      · simp! only [hc, decide_false]
        exact ⟨m, by omega, _, _, _, rfl, h1, by omega, by omega, by omega, h5, fun _ => by rw [show mid - 1 + 1 = mid by omega]; omega⟩
  · simp! only [hlt, decide_false]
    refine ⟨_, rfl, h1, by omega, h5, fun h => ?_⟩
    have e : lo = hi := by omega
    rw [e] at h ⊢
    exact h6 h
def moreI (r : LRow) (s left : Int) : Int := if levI r (s + 1) > levI r s then (if r.num < left then r.num else left) else 0
def pieces (r : LRow) (s more : Int) : List Row := ([(r.num - more, levI r s), (more, levI r s + 1)].filter fun q => decide (q.1 > 0)).map fun q => ⟨r.nm, q.1, q.2⟩
def levR (s : Int) : Int → List LRow → List Row
  | _, [] => []
  | left, r :: rs => pieces r s (moreI r s left) ++ levR s (left - moreI r s left) rs
theorem moreI_bd {r : LRow} (h : LRowB r) {s left : Int} (h0 : 0 ≤ left) : 0 ≤ moreI r s left ∧ moreI r s left ≤ left ∧ moreI r s left ≤ r.num := by
  have := h.n1
  unfold moreI
  (repeat' split) <;> omega
theorem levR_b {rs : List LRow} (hb : ∀ r ∈ rs, LRowB r) {s : Int} (hs : 0 ≤ s) : ∀ {left : Int}, 0 ≤ left → (levR s left rs).length ≤ 2 * rs.length ∧ ∀ q ∈ levR s left rs, 0 ≤ q.num ∧ q.num ≤ 10 ^ 30 ∧ 0 ≤ q.sc ∧ q.sc ≤ 10 ^ 33 + 1 := by
  induction rs with
  | nil => intro left _; exact ⟨Nat.le_refl _, by simp [levR]⟩
  | cons r rs ih =>
    intro left h0
    have hr := hb r (by simp)
    have hm := moreI_bd hr (s := s) h0
    have hl := levI_lo hr hs
    have := hr.n1; have := hr.n2
    obtain ⟨h1, h2⟩ := ih (fun x hx => hb x (by simp [hx])) (left := left - moreI r s left) (by omega)
    have hp : (pieces r s (moreI r s left)).length ≤ 2 := by
      unfold pieces
      rw [List.length_map]
      exact Nat.le_trans (List.length_filter_le _ _) (by simp)
    refine ⟨by simp only [levR, List.length_append, List.length_cons]; omega, fun q hq => ?_⟩
    simp only [levR, List.mem_append] at hq
    rcases hq with hq | hq
    · unfold pieces at hq
      obtain ⟨x, hx, rfl⟩ := List.mem_map.mp hq
      have hx := (List.mem_filter.mp hx).1
      simp only [List.mem_cons, List.not_mem_nil, or_false] at hx
      rcases hx with rfl | rfl
      · exact ⟨by show 0 ≤ r.num - moreI r s left; omega, by show r.num - moreI r s left ≤ _; omega, hl.1, by show levI r s ≤ _; omega⟩
      · exact ⟨hm.1, by show moreI r s left ≤ _; omega, by show 0 ≤ levI r s + 1; omega, by show levI r s + 1 ≤ _; omega⟩
    · exact h2 q hq
def SpLevelled (f : Fd) : Prop := ∀ d rs (w : Int) st, IsWs d rs → LRowsB rs → totI rs 0 ≤ w → OP (fun r st' => st' = st ∧ ∃ s, LastP rs w s ∧ r = .lst ((levR s (w - totI rs s) rs).map encR)) (f [d, .int w] st)
theorem sp_levelled (hl : SpLast f) (ht : SpTotal g) (hv : SpLevel h) : SpLevelled (runF 2 10 (m_levelled Γ f g h)) := by
  intro d rs w st hd hb h0
  have hsi : seqI d = some (rs.map encW) := by rcases hd with rfl | rfl <;> rfl
  refine OP_run rfl ?_
  delta m_levelled
  simp! only []
  refine (hl d rs w st hd hb h0).mono ?_
  rintro _ st1 ⟨rfl, s, rfl, hs⟩
  have hs0 := hs.s0
  simp! only [ht d rs s _ hd hb hs0, hsi]
  refine forL_invL (enc := encW) (fun (pre : List LRow) env st' => ∃ left s3 s6 s7 s8 s9 acc, env = [.v d, .v (.int w), .v (.int left), s3, .v (.int s), .v (.lst (acc.map encR)), s6, s7, s8, s9] ∧ st' = st1 ∧ 0 ≤ left ∧ acc.length ≤ 2 * pre.length ∧ levR s (w - totI rs s) rs = acc ++ levR s left (rs.drop pre.length)) ⟨w - totI rs s, _, _, _, _, _, [], rfl, rfl, by have := hs.le; omega, by simp, by simp⟩ ?_ ?_
  · rintro pre r post env st' e ⟨left, s3, s6, s7, s8, s9, acc, rfl, rfl, hl0, hal, hrs⟩
    have hr := hb.ok r (by rw [e]; simp)
    have hm := moreI_bd hr (s := s) hl0
    have hpl : pre.length < 1000 := by
      have := congrArg List.length e
      have := hb.l6
      simp at *
      omega
    have ed : rs.drop pre.length = r :: post := by rw [e]; simp
    rw [ed] at hrs
    have e1 : ∀ st, op2 .idx st (encW r) (.int 1) = some (.int r.num) := fun _ => rfl
    have e0 : ∀ st, op2 .idx st (encW r) (.int 0) = some (.str r.nm) := fun _ => rfl
    refine ⟨_, by simp! only []; rfl, ?_⟩
    simp! only [hv r s, hv r (s + 1), e1, e0]
    have cp : ∀ (more : Int) (x2 x5 : Sl), compL (turnV [8, 9] (tupE [opE Op2.idx (vE 3) (kE (D.int 0)), vE 8, vE 9]) (Pt.tp [Pt.nm 8, Pt.nm 9]) [opE Op2.gt (vE 8) (kE (D.int 0))]
        [Sl.v d, Sl.v (D.int w), x2, Sl.v (encW r), Sl.v (D.int s), x5, Sl.v (D.int (levI r s)), Sl.v (D.int more), s8, s9])
        [D.tup [D.int (r.num - more), D.int (levI r s)], D.tup [D.int more, D.int (levI r s + 1)]] [] st' = .ok ((pieces r s more).map encR) st' := fun more x2 x5 => by
      have := comp_filterL (enc := fun q : Int × Int => D.tup [.int q.1, .int q.2]) (P := fun q => decide (q.1 > 0)) (g := fun q => encR ⟨r.nm, q.1, q.2⟩) (f := turnV [8, 9] (tupE [opE Op2.idx (vE 3) (kE (D.int 0)), vE 8, vE 9]) (Pt.tp [Pt.nm 8, Pt.nm 9]) [opE Op2.gt (vE 8) (kE (D.int 0))]
          [Sl.v d, Sl.v (D.int w), x2, Sl.v (encW r), Sl.v (D.int s), x5, Sl.v (D.int (levI r s)), Sl.v (D.int more), s8, s9]) [(r.num - more, levI r s), (more, levI r s + 1)] (st := st') (lim_ge (by simp)) fun q hq => by
          apply OP_eq
          by_cases hc : 0 < q.1
          · simp! only [turnV_eq, e0, hc, decide_true]
            rfl
          · simp! only [turnV_eq, e0, hc, decide_false]
            first | done | rfl
      unfold pieces
      rw [List.map_map]
      exact this
    have add : ∀ more : Int, op2 .add st' (.lst (acc.map encR)) (.lst ((pieces r s more).map encR)) = some (.lst ((acc ++ pieces r s more).map encR)) := fun more => by
      have hp : (pieces r s more).length ≤ 2 := by
        unfold pieces
        rw [List.length_map]
        exact Nat.le_trans (List.length_filter_le _ _) (by simp)
      show (if (acc.map encR).length + ((pieces r s more).map encR).length ≤ LIM then some (D.lst (acc.map encR ++ (pieces r s more).map encR)) else none) = _
      rw [if_pos (by rw [List.length_map, List.length_map]; exact lim_ge (by omega)), List.map_append]
    have fin : ∀ more : Int, more = moreI r s left → (acc ++ pieces r s more).length ≤ 2 * (pre ++ [r]).length ∧ levR s (w - totI rs s) rs = (acc ++ pieces r s more) ++ levR s (left - more) (rs.drop (pre ++ [r]).length) := fun more hmm => by
      have hp : (pieces r s more).length ≤ 2 := by
        unfold pieces
        rw [List.length_map]
        exact Nat.le_trans (List.length_filter_le _ _) (by simp)
      have ed2 : rs.drop (pre ++ [r]).length = post := by rw [e]; simp
      refine ⟨by simp only [List.length_append, List.length_singleton]; omega, ?_⟩
      rw [ed2, hrs, hmm, List.append_assoc]
      rfl
    refine ⟨fun hc => ?_, fun hc => ?_⟩
    · have hmo : (if r.num < left then r.num else left) = moreI r s left := by unfold moreI; rw [if_pos hc]
      rw [hmo, cp]
      simp! only [add]
      exact ⟨_, _, _, _, _, _, _, rfl, by omega, fin _ rfl⟩
    · have hmo : (0 : Int) = moreI r s left := by unfold moreI; rw [if_neg hc]
      rw [cp]
      simp! only [add]
      exact ⟨_, _, _, _, _, _, _, rfl, by omega, fin _ hmo⟩
  · rintro env st' ⟨left, s3, s6, s7, s8, s9, acc, rfl, rfl, hl0, hal, hrs⟩
    simp! only []
    rw [List.drop_length] at hrs
    refine ⟨s, hs, ?_⟩
    rw [hrs]
    simp [levR]
def wholeI (p : Int) (rs : List LRow) : Int := ownI p (rs.map (·.num)).sum
/-- what filled_rows returns -/
def FilledV (p : Int) (rs : List LRow) (r : D) : Prop :=
  if (rs.all fun x => decide (x.lo ≤ x.hi)) = false then r = .non
  else if ¬ (totI rs 0 ≤ wholeI p rs ∧ wholeI p rs ≤ totI rs (10 ^ 33)) then r = .non
  else ∃ s, LastP rs (wholeI p rs) s ∧ r = (if spareI p (levR s (wholeI p rs - totI rs s) rs) = 0 ∧ lackI p (levR s (wholeI p rs - totI rs s) rs) = 0 then .tup ((levR s (wholeI p rs - totI rs s) rs).map encR) else .non)
def SpFilledR (f : Fd) : Prop := ∀ (p : Int) d rs st, 1 ≤ p → p ≤ 9 → IsWs d rs → LRowsB rs → 1 ≤ rs.length → rs.length ≤ 100 → OP (fun r st' => st' = st ∧ FilledV p rs r) (f [.int p, d] st)
theorem nums_bd {rs : List LRow} (hb : LRowsB rs) : 0 ≤ (rs.map (·.num)).sum ∧ (rs.map (·.num)).sum ≤ 10 ^ 33 := by
  have key : ∀ l : List LRow, (∀ r ∈ l, LRowB r) → 0 ≤ (l.map (·.num)).sum ∧ (l.map (·.num)).sum ≤ l.length * 10 ^ 30 := by
    intro l
    induction l with
    | nil => intro _; simp
    | cons r l ih =>
      intro h
      obtain ⟨h1, h2⟩ := ih fun x hx => h x (by simp [hx])
      have := (h r (by simp)).n1; have := (h r (by simp)).n2
      simp only [List.map_cons, List.sum_cons, List.length_cons]
      constructor
      · omega
      · have : ((l.length + 1 : Nat) : Int) * 10 ^ 30 = l.length * 10 ^ 30 + 10 ^ 30 := by
          push_cast; rw [Int.add_mul, Int.one_mul]
        omega
  obtain ⟨h1, h2⟩ := key rs hb.ok
  have := hb.l6
  exact ⟨h1, by omega⟩
theorem levR_ne {r : LRow} {rs : List LRow} (h : LRowB r) {s left : Int} (h0 : 0 ≤ left) : 1 ≤ (levR s left (r :: rs)).length := by
  have hm := moreI_bd h (s := s) h0
  have := h.n1
  have : 1 ≤ (pieces r s (moreI r s left)).length := by
    unfold pieces
    rw [List.length_map]
    by_cases hc : 0 < moreI r s left
    · have : (moreI r s left, levI r s + 1) ∈ [(r.num - moreI r s left, levI r s), (moreI r s left, levI r s + 1)].filter fun q => decide (q.1 > 0) := List.mem_filter.mpr ⟨by simp, by simpa using hc⟩
      exact List.length_pos_iff.mpr (List.ne_nil_of_mem this)
    · have : (r.num - moreI r s left, levI r s) ∈ [(r.num - moreI r s left, levI r s), (moreI r s left, levI r s + 1)].filter fun q => decide (q.1 > 0) := List.mem_filter.mpr ⟨by simp, by simp; omega⟩
      exact List.length_pos_iff.mpr (List.ne_nil_of_mem this)
  simp only [levR, List.length_append]
  omega
theorem sp_filledR (ho : SpOwn fo) (ht : SpTotal g) (hl : SpLevelled h) (hp : SpIsPoss fp) : SpFilledR (runF 2 5 (m_filled_rows Γ fo g h fp)) := by
  intro p d rs st hp1 hp9 hd hb h1 h100
  have hsi : seqI d = some (rs.map encW) := by rcases hd with rfl | rfl <;> rfl
  have e1 : ∀ (r : LRow) st, op2 .idx st (encW r) (.int 1) = some (.int r.num) := fun _ _ => rfl
  have e2 : ∀ (r : LRow) st, op2 .idx st (encW r) (.int 2) = some (.int r.lo) := fun _ _ => rfl
  have e3 : ∀ (r : LRow) st, op2 .idx st (encW r) (.int 3) = some (.int r.hi) := fun _ _ => rfl
  have hn := nums_bd hb
  refine OP_run rfl ?_
  delta m_filled_rows
  simp! only [hsi]
  rw [comp_mapL (enc := encW) (g := fun r => .int r.num) rs (lim_ge (by omega)) fun r hr => by
    apply OP_eq
    simp! only [turnV_eq, e1]]
  have ho' : ∀ st, fo [.int p, .int (rs.map fun r => r.num).sum] st = .ok (.int (wholeI p rs)) st := fun st => ho p _ st (by omega) (by have := hn.1; have := hn.2; omega)
  simp! only [sum_mapI, ho', hsi]
  rw [comp_mapL (enc := encW) (g := fun r => .bl (decide (r.lo ≤ r.hi))) rs (lim_ge (by omega)) fun r hr => by
    apply OP_eq
    simp! only [turnV_eq, e2, e3]]
  have hall : ∀ st, bi .all st [.lst (rs.map fun r => D.bl (decide (r.lo ≤ r.hi)))] = some (.bl (rs.all fun r => decide (r.lo ≤ r.hi))) := fun st => by
    simp! only [bi, lv_lst, bls_map, List.all_map]
    first | done | rfl
  have kA : (rs.all fun r => decide (r.lo ≤ r.hi)) = false → FilledV p rs .non := fun h => by unfold FilledV; rw [if_pos h]
  have kB : (rs.all fun r => decide (r.lo ≤ r.hi)) = true → ¬ (totI rs 0 ≤ wholeI p rs ∧ wholeI p rs ≤ totI rs 1000000000000000000000000000000000) → FilledV p rs .non := fun h h2 => by
    unfold FilledV
    rw [if_neg (by rw [h]; simp)]
    split
    · rfl
    · rename_i z
      exact absurd h2 z
  have kC : ∀ r, (rs.all fun r => decide (r.lo ≤ r.hi)) = true → (totI rs 0 ≤ wholeI p rs ∧ wholeI p rs ≤ totI rs 1000000000000000000000000000000000) → (∃ s, LastP rs (wholeI p rs) s ∧ r = (if spareI p (levR s (wholeI p rs - totI rs s) rs) = 0 ∧ lackI p (levR s (wholeI p rs - totI rs s) rs) = 0 then .tup ((levR s (wholeI p rs - totI rs s) rs).map encR) else .non)) → FilledV p rs r := fun r h h2 h3 => by
    unfold FilledV
    rw [if_neg (by rw [h]; simp)]
    split
    · rename_i z
      exact absurd h2 z
    · exact h3
  have t0 : ∀ st, g [d, .int 0] st = .ok (.int (totI rs 0)) st := fun st => ht d rs 0 st hd hb (by omega)
  have t1 : ∀ st, g [d, .int 1000000000000000000000000000000000] st = .ok (.int (totI rs 1000000000000000000000000000000000)) st := fun st => ht d rs _ st hd hb (by omega)
  cases ha : rs.all fun r => decide (r.lo ≤ r.hi) with
  | false =>
    simp! only [hall, ha]
    exact kA ha
  | true =>
    by_cases c1 : totI rs 0 ≤ wholeI p rs
    · by_cases c2 : wholeI p rs ≤ totI rs 1000000000000000000000000000000000
      · simp! only [hall, ha, t0, t1, c1, c2, decide_true]
        refine (hl d rs _ st hd hb c1).mono ?_
        rintro _ st1 ⟨rfl, s, hs, rfl⟩
        have hlev := levR_b hb.ok hs.s0 (left := wholeI p rs - totI rs s) (by have := hs.le; omega)
        have hpos := hp p (.lst ((levR s (wholeI p rs - totI rs s) rs).map encR)) (levR s (wholeI p rs - totI rs s) rs) st1 (by omega) (.inr rfl) ⟨by omega, fun q hq => by have := hlev.2 q hq; omega⟩ (by
          cases rs with
          | nil => simp at h1
          | cons r rs => exact levR_ne (hb.ok r (by simp)) (by have := hs.le; omega))
        simp! only [hpos]
        refine ⟨fun z => kC _ ha ⟨c1, c2⟩ ⟨s, hs, ?_⟩, fun z => kC _ ha ⟨c1, c2⟩ ⟨s, hs, ?_⟩⟩
        · rw [if_pos (by simpa using z)]
        · rw [if_neg (by simpa using z)]
      · simp! only [hall, ha, t0, t1, c1, c2, decide_true, decide_false]
        exact kB ha fun z => c2 z.2
    · simp! only [hall, ha, t0, t1, c1, decide_false]
      exact kB ha fun z => c1 z.1
end
end G
namespace G
/-- the first element that cannot be a row, whatever a row is -/
def wrongG (isR : D → Bool) : Nat → List (List Nat) → List D → Option Nat
  | _, _, [] => none
  | k, ns, d :: ds => if isR d = true ∧ ¬ nameOf d ∈ ns ∧ k < 6 then wrongG isR (k + 1) (ns ++ [nameOf d]) ds else some k
structure RowLike (isR : D → Bool) : Prop where
  idx : ∀ d, isR d = true → ∃ s, nameOf d = s ∧ ∀ st, op2 .idx st d (.int 0) = some (.str s)
def SpRowG (isR : D → Bool) (f : Fd) : Prop := ∀ d st, plain2 d = true → f [d] st = .ok (.bl (isR d)) st
section
variable {Γ : Ctx} {c : Nat} {f g h fd fn fr fe fo fl ft fu fb fp fc : Fd}
def SpWrongG (isR : D → Bool) (f : Fd) : Prop := ∀ ds st, ds.all plain2 = true → f [.tup ds] st = .ok (optN (wrongG isR 0 [] ds)) st ∧ f [.lst ds] st = .ok (optN (wrongG isR 0 [] ds)) st
theorem sp_wrongG {isR : D → Bool} (hR : RowLike isR) (hf : SpRowG isR f) : SpWrongG isR (runF 1 4 (m_wrong_row Γ f)) := by
  intro ds st hp
  have main : ∀ d : D, seqF d = some ds → runF 1 4 (m_wrong_row Γ f) [d] st = .ok (optN (wrongG isR 0 [] ds)) st := by
    intro d hd
    apply OP_eq
    refine OP_run rfl ?_
    delta m_wrong_row
    have hd : seqF d = some (ds.map fun x => x) := by rw [hd, List.map_id']
    simp! only [hd]
    refine forL_enum (enc := fun x => x) (fun pre env st' => ∃ a b, env = [.v d, .own (pre.map fun x => .str (nameOf x)), a, b] ∧ st' = st ∧ wrongG isR 0 [] ds = wrongG isR pre.length (pre.map nameOf) (ds.drop pre.length) ∧ pre.length ≤ 6) ⟨_, _, rfl, rfl, rfl, by simp⟩ ?_ ?_
    · rintro pre x post env st' e ⟨a, b, rfl, rfl, hw, h6⟩
      have hx : plain2 x = true := List.all_eq_true.mp hp x (by rw [e]; simp)
      have ed : ds.drop pre.length = x :: post := by rw [e]; simp
      rw [ed] at hw
      refine ⟨_, by simp! only []; rfl, ?_⟩
      have stop : ¬ (isR x = true ∧ ¬ nameOf x ∈ pre.map nameOf ∧ pre.length < 6) → optN (wrongG isR 0 [] ds) = .int (pre.length : Int) := fun h => by
        rw [hw]
        unfold wrongG
        rw [if_neg h]
        rfl
      cases hr : isR x with
      | false =>
        rw [stop (fun h => by rw [hr] at h; cases h.1)]
        simp! only [hf x _ hx, hr]
      | true =>
        obtain ⟨s, rfl, ei⟩ := hR.idx x hr
        have en : nameOf x = nameOf x := rfl
        have em : ∀ st, op2 .mem st (.str (nameOf x)) (.lst (pre.map fun x => D.str (nameOf x))) = some (.bl (pre.any fun z => nameOf z == nameOf x)) := fun st => mem_strs
        have mem_iff : (pre.any fun z => nameOf z == nameOf x) = true ↔ nameOf x ∈ pre.map nameOf := by
          rw [List.any_eq_true, List.mem_map]
          exact ⟨fun ⟨y, h1, h2⟩ => ⟨y, h1, by simpa using h2⟩, fun ⟨y, h1, h2⟩ => ⟨y, h1, by simpa using h2⟩⟩
        cases hm : (pre.any fun z => nameOf z == nameOf x) with
        | true =>
          rw [stop (fun h => h.2.1 (by rw [en]; exact mem_iff.mp hm))]
          simp! only [hf _ _ hx, hr, ei, em, hm]
        | false =>
          by_cases h8 : pre.length < 6
          · have h7 : ¬ (6 : Int) ≤ pre.length := by omega
            have hl : (pre.map fun x => D.str (nameOf x)).length < LIM := by
              rw [List.length_map]; exact Nat.lt_of_lt_of_le h8 (lim_ge (by omega))
            simp! only [hf _ _ hx, hr, ei, em, hm, h7, decide_false, hl, List.map_append]
            refine ⟨_, _, rfl, ?_, by simp; omega⟩
            rw [hw]
            conv => lhs; unfold wrongG
            have nm : ¬ nameOf x ∈ pre.map nameOf := fun h => by
              rw [en, ← mem_iff, hm] at h
              cases h
            rw [if_pos (And.intro hr (And.intro nm h8))]
            have e9 : ds.drop (pre ++ [x]).length = post := by rw [e]; simp
            rw [e9]
            simp
          · have h7 : (6 : Int) ≤ pre.length := by omega
            rw [stop (fun h => h8 h.2.2)]
            simp! only [hf _ _ hx, hr, ei, em, hm, h7, decide_true]
    · rintro env st' ⟨a, b, rfl, rfl, hw, h6⟩
      have : wrongG isR 0 [] ds = none := by rw [hw, List.drop_length]; rfl
      rw [this]
      simp! only []
      first | rfl | exact ⟨rfl, trivial⟩
  exact ⟨main _ rfl, main _ rfl⟩
def isLRowD : D → Bool
  | .tup [x, y, z, u] => isNameD x && (withinD y 1 (10 ^ 30) && (withinD z 0 (10 ^ 33) && withinD u 0 (10 ^ 33)))
  | _ => false
theorem lrow_of {d : D} (h : isLRowD d = true) : ∃ r, d = encW r ∧ isNameS r.nm = true ∧ LRowB r := by
  unfold isLRowD at h
  split at h
  · rename_i x y z u
    simp only [Bool.and_eq_true] at h
    obtain ⟨h1, h2, h3, h4⟩ := h
    cases x with
    | str s =>
      cases y with
      | int a =>
        cases z with
        | int b =>
          cases u with
          | int e =>
            have h2 := of_decide_eq_true h2
            have h3 := of_decide_eq_true h3
            have h4 := of_decide_eq_true h4
            exact ⟨⟨s, a, b, e⟩, rfl, h1, ⟨h2.1, h2.2, h3.1, h3.2, h4.1, h4.2⟩⟩
          | _ => cases h4
        | _ => cases h3
      | _ => cases h2
    | _ => cases h1
  · cases h
theorem likeL : RowLike isLRowD := ⟨fun d h => by
  obtain ⟨r, rfl, _⟩ := lrow_of h
  exact ⟨r.nm, rfl, fun _ => rfl⟩⟩
theorem lrow_len {xs : List D} (h3 : ¬ xs.length = 4) : isLRowD (.tup xs) = false := by
  match xs, h3 with
  | [], _ => rfl
  | [_], _ => rfl
  | [_, _], _ => rfl
  | [_, _, _], _ => rfl
  | [_, _, _, _], h3 => exact absurd rfl h3
  | _ :: _ :: _ :: _ :: _ :: _, _ => rfl
theorem sp_lrow (hf : SpNameD f) (hg : SpWithinD g) : SpRowG isLRowD (runF 1 2 (m_is_loose_row Γ f g)) := by
  intro d st h
  obtain ⟨h1, h2⟩ := Bool.and_eq_true_iff.mp h
  apply OP_eq
  refine OP_run rfl ?_
  delta m_is_loose_row
  cases d with
  | tup xs =>
    have h2 : xs.all plainD = true := h2
    simp! only []
    by_cases h3 : xs.length = 4
    · match xs, h3, h2 with
      | [x, y, z, u], _, h2 =>
        simp only [List.all_cons, List.all_nil, Bool.and_true, Bool.and_eq_true] at h2
        obtain ⟨p1, p2, p3, p4⟩ := h2
        have ecut : cut [x, y, z, u] (some 2) none = [z, u] := rfl
        simp! only [hf x _ p1, hg y _ _ _ p2, hg z _ _ _ p3, hg u _ _ _ p4, isLRowD, ecut]
        cases e1 : isNameD x with
        | false => simp! only [Bool.false_and]
        | true =>
          simp! only [Bool.true_and]
          cases e2 : withinD y 1 (10 ^ 30) with
          | false => simp! only [show withinD y 1 1000000000000000000000000000000 = false from e2, Bool.false_and]
          | true =>
            simp! only [show withinD y 1 1000000000000000000000000000000 = true from e2, Bool.true_and]
            have cp := comp_mapL (enc := fun d : D => d) (g := fun d => .bl (withinD d 0 (10 ^ 33))) (f := turnV [1] (callE g [vE 1, kE (D.int 0), kE (D.int 1000000000000000000000000000000000)]) (Pt.nm 1) [] [Sl.v (D.tup [x, y, z, u]), Sl.em]) (st := st) [z, u] (lim_ge (by simp)) fun d hd => by
              have hpd : plainD d = true := by
                simp only [List.mem_cons, List.not_mem_nil, or_false] at hd
                rcases hd with rfl | rfl
                · exact p3
                · exact p4
              apply OP_eq
              simp! only [turnV_eq, hg d _ _ _ hpd]
            have cp : compL (turnV [1] (callE g [vE 1, kE (D.int 0), kE (D.int 1000000000000000000000000000000000)]) (Pt.nm 1) [] [Sl.v (D.tup [x, y, z, u]), Sl.em]) [z, u] [] st = .ok [.bl (withinD z 0 (10 ^ 33)), .bl (withinD u 0 (10 ^ 33))] st := cp
            rw [cp]
            have ea : bi .all st [.lst [.bl (withinD z 0 1000000000000000000000000000000000), .bl (withinD u 0 1000000000000000000000000000000000)]] = some (.bl (withinD z 0 1000000000000000000000000000000000 && withinD u 0 1000000000000000000000000000000000)) := by
              cases withinD z 0 1000000000000000000000000000000000 <;> cases withinD u 0 1000000000000000000000000000000000 <;> rfl
            simp! only [ea]
            show D.bl _ = D.bl (isNameD x && (withinD y 1 (10 ^ 30) && (withinD z 0 (10 ^ 33) && withinD u 0 (10 ^ 33))))
            rw [e1, e2]
            rfl
    · have h4 : ¬ (xs.length : Int) = 4 := by omega
      simp! only [h4, decide_false, lrow_len h3]
  | _ => first | (cases h1; done) | simp! only [isi_tupD h1, isTupD, isLRowD]
theorem OP_elim {α : Type} {Q : α → Store → Prop} {o : O α} (h : OP Q o) : ∃ a st, o = .ok a st ∧ Q a st := by
  cases o with
  | ok a st => exact ⟨a, st, rfl, h⟩
  | _ => exact h.elim
end
end G
namespace G
theorem /-ev-/ pow64 {st : Store} : op2 .pow st (.int 10) (.int 64) = some (.int 10000000000000000000000000000000000000000000000000000000000000000) := pow_i (by decide) (by decide) (by decide)
theorem /-ev-/ pow32 {st : Store} : op2 .pow st (.int 10) (.int 32) = some (.int 100000000000000000000000000000000) := pow_i (by decide) (by decide) (by decide)
theorem own_nonneg {p n : Int} (hp : 0 ≤ p) (hn : 0 ≤ n) : 0 ≤ ownI p n := by
  have h := own2 p n
  have h2 : 0 ≤ p * n * (n - 1) := by
    by_cases h0 : n = 0
    · subst h0; simp
    · exact Int.mul_nonneg (Int.mul_nonneg hp hn) (by omega)
  omega
theorem map_range {β : Type} (f : Row → β) (g : Nat → β) {rs : List Row} (h : ∀ i r, rs[i]? = some r → g i = f r) : rs.map f = (List.range rs.length).map g := by
  apply List.ext_getElem
  · simp
  · intro i h1 h2
    simp only [List.getElem_map, List.getElem_range]
    exact (h i _ (List.getElem?_eq_getElem (by simpa using h1))).symm
theorem nums_sum (rs : List Row) : (rs.map (·.num)).sum = numS rs (List.range rs.length) := by
  rw [map_range (·.num) (nmI rs) fun i r h => nmI_at h]; rfl
theorem scs_sum (rs : List Row) : (rs.map fun r => r.num * r.sc).sum = scS rs (List.range rs.length) := by
  rw [map_range (fun r => r.num * r.sc) (fun i => nmI rs i * scI rs i) fun i r h => by rw [nmI_at h, scI_at h]]; rfl
end G
set_option hygiene false in
local macro_rules | `(tactic| simp! only [$ls,*]) => `(tactic| simp only [seval, G.OP_ok, G.OP_bad, G.OP_bind, G.O_of_some, G.O_of_none, G.OP_of_ite, G.OP_ite, G.RP_ite, ↓G.OP_ite_bad, ↓G.RP_ite_bad, G.RP_nx, G.RP_rt, G.RP_bk, G.RP_ct, G.RP_bad, G.RP_run, G.RP_seqR, G.RP_seq, G.RP_pass, G.RP_brk, G.RP_cont, G.RP_ret0, G.RP_badS, G.RP_ret, G.RP_ex, G.RP_nm, G.RP_own, G.ownR_lst, G.RP_if, G.RP_tg, G.RP_par, G.RP_asgn, G.RP_unp, G.RP_for, G.RP_app, G.RP_frz, G.RP_aug, G.aug_add, G.aug_sub, G.ofPut_some, G.putO_nil, G.putO_v, G.putO_o, G.setAll_nil, G.setAll_cons, G.nmT_eq, G.osubR_eq, G.RP_fld, G.val_k, G.val_v, G.val_pk, G.val_op, G.val_neg, G.val_no, G.val_ife, G.val_tup, G.val_lst, G.val_new, G.val_bi, G.val_call, G.val_callK, G.val_mk, G.val_mkK, G.val_mkc, G.get_c, G.val_cm, G.val_isi, G.val_at, G.val_has, G.val_lenO, G.val_strO, G.val_boolO, G.val_ls, G.lsV_lst, G.val_up, G.upD_str, G.val_d0, G.val_d1, G.d1_str, G.val_ch, G.val_split, G.val_join, G.val_fmt, G.val_joined, G.val_cons, G.val_bop, G.val_sl, G.val_lc, G.tst_k, G.tst_v, G.tst_op, G.tst_bi, G.tst_call, G.tst_isi, G.tst_ch, G.tst_has, G.tst_boolO, G.tst_at, G.tst_me, G.tst_no, G.tst_bop, G.tst_ife, G.bopV_one, G.bopV_cons, G.bopT_one, G.bopT_cons, G.args_nil, G.args_cons, G.joinedV_nil, G.joinedV_cons, G.optV_none, G.optV_one, G.optI_int, G.itm_v, G.itm_pk, G.itm_op, G.itm_call, G.itm_at, G.itm_sl, G.itm_lst, G.itm_tup, G.itm_lc, G.itm_rng, G.itm_enum, G.itm_zip, G.rng1, G.vw_int, G.vw_str, G.vw_tup, G.vw_lst, G.vw_bl, G.vw_non, G.add_int, G.add_str, G.add_tup, G.add_lst, G.sub_int, G.mul_int, G.fdiv_int, G.mod_int, G.lt_int, G.le_int, G.gt_int, G.ge_int, G.eq_int, G.ne_int, G.eq_str, G.ne_str, G.is_non, G.isnot_non, G.is_tup, G.isnot_tup, G.is_int, G.isnot_int, G.mem_chr, G.nmem_chr, G.idx_str, G.idx_tup, G.idx_lst, G.idx_fl, G.tr_bl, G.tr_int, G.tr_non, G.tr_str, G.tr_tup, G.tr_lst, G.neg_int, G.sf_tup, G.sf_lst, G.si_tup, G.si_lst, G.si_str, G.sv_tup, G.sv_lst, G.sv_fl, G.len_str, G.len_tup, G.len_lst, G.len_fl, G.int_int, G.int_bl, G.int_str, G.str_int, G.str_str, G.abs_int, G.bool_bl, G.min_int, G.max_int, G.divmod_int, G.tuple_lst, G.tuple_tup, G.list_lst, G.list_tup, G.sl_str, G.sl_tup, G.sl_lst, G.sl_fl, G.fmt_str, G.fmt_int, G.cons_lst, G.lv_lst, G.atI_zero, G.atI_one, G.atI_two, G.atI_three, G.not_f, G.not_t, G.testsV_nil, G.testsV_one, G.get_v, G.get_s, G.pk_v, G.pk_o, G.pk_s, G.ix_z, G.ix_s, G.set_z, G.set_s, G.wipe_nil, G.wipe_cons, G.setPt_nm, G.setPt_tp, G.setPt_tx, G.setPt_tl, G.setPts_nil, G.setPts_cons, G.ob_some, G.om_some, G.dt_eq, G.df_eq, G.bn_eq, G.bf_eq, G.ne0, G.len_nil, G.len_cons, G.map_nil', G.map_cons', G.rep_z, G.rep_s, G.app_nil, G.app_cons, G.ft_eq, G.tf_eq, G.t_imp, G.f_imp, G.n_t, G.n_f, G.a_t, G.t_a, G.a_f, G.f_a, G.i_t, G.e_s, G.it_t, G.it_f, G.nn, G.n_sub, G.RP_sub, G.ixN30, G.ixN31, G.ixN32, G.lt_int', G.setD_z, G.setD_s, G.isi_int_int, G.isi_int_bool, G.isi_str_str, G.isi_tup_tup, G.RP_fldV, G.pow6, G.pow9, G.pow15, G.pow16, G.pow17, G.pow18, G.pow30, G.pow33, G.lt_ints, G.lt_nil, G.val_sortK, G.itm_sortK, G.val_lrng, G.val_eqO, G.tst_eqO, G.val_index, G.val_count, G.val_tindex, G.isTp_tup, G.val_lc2, G.itm_lc2, G.isLs_lst, G.RP_ins, G.pow64, G.pow32, $ls,*])
namespace G
def natD (k : Nat) : D := .int (k : Int)
theorem atI_map {α : Type} {enc : α → D} {l : List α} {i : Nat} (d : α) (h : i < l.length) : atI (l.map enc) (i : Int) = some (enc (l.getD i d)) := by
  rw [atI_nat, List.getElem?_map, List.getElem?_eq_getElem h, List.getD_eq_getElem?_getD, List.getElem?_eq_getElem h]; rfl
theorem getD_mem {α : Type} {l : List α} {i : Nat} (d : α) (h : i < l.length) : l.getD i d ∈ l := by
  rw [List.getD_eq_getElem?_getD, List.getElem?_eq_getElem h]
  exact List.getElem_mem h
def rowOf (ns : List (List Nat)) (ps : List (Int × Int)) (i : Nat) : Row := ⟨ns.getD i [], (ps.getD i (0, 0)).1, (ps.getD i (0, 0)).2⟩
def PairOk (q : Int × Int) : Prop := 1 ≤ q.1 ∧ q.1 ≤ 10 ^ 30 ∧ 0 ≤ q.2 ∧ q.2 ≤ 10 ^ 32
/-- scores that are not too great -/
def ScS (rs : List Row) : Prop := ∀ r ∈ rs, r.sc ≤ 10 ^ 32
theorem rowsOf_ok {ns : List (List Nat)} {ps : List (Int × Int)} {perm : List Nat} {k : Nat} (hn : ns.Nodup) (ho : ∀ s ∈ ns, isNameS s = true) (hl : ns.length = k) (hp : ps.length = k) (hq : ∀ q ∈ ps, PairOk q) (h1 : 1 ≤ k) (h6 : k ≤ 6) (hperm : perm.Perm (List.range k)) : RowsOk (perm.map (rowOf ns ps)) := by
  have hlen : perm.length = k := by rw [hperm.length_eq, List.length_range]
  have hmem : ∀ i ∈ perm, i < k := fun i hi => by simpa using hperm.mem_iff.mp hi
  refine ⟨by simp; omega, by simp; omega, fun r hr => ?_, ?_⟩
  · obtain ⟨i, hi, rfl⟩ := List.mem_map.mp hr
    have := hmem i hi
    obtain ⟨a, b, c, d⟩ := hq _ (getD_mem (0, 0) (show i < ps.length by omega))
    exact ⟨ho _ (getD_mem [] (by omega)), a, b, c, Int.le_trans d (by decide)⟩
  · rw [List.map_map]
    have hnd : perm.Nodup := hperm.nodup_iff.mpr List.nodup_range
    refine List.pairwise_map.mpr (hnd.imp_of_mem fun {a b} ha hb hab e => hab ?_)
    have ha := hmem a ha
    have hb := hmem b hb
    have e : ns.getD a [] = ns.getD b [] := e
    rw [List.getD_eq_getElem?_getD, List.getD_eq_getElem?_getD, List.getElem?_eq_getElem (by omega : a < ns.length), List.getElem?_eq_getElem (by omega : b < ns.length)] at e
    have key := List.pairwise_iff_getElem.mp hn
    rcases Nat.lt_trichotomy a b with h | h | h
    · exact absurd (by simpa using e) (key a b _ _ h)
    · exact h
    · exact absurd (by simpa using e.symm) (key b a _ _ h)
theorem rowsOf_s {ns : List (List Nat)} {ps : List (Int × Int)} {perm : List Nat} (hq : ∀ q ∈ ps, PairOk q) (hm : ∀ i ∈ perm, i < ps.length) : ScS (perm.map (rowOf ns ps)) := fun r hr => by
  obtain ⟨i, hi, rfl⟩ := List.mem_map.mp hr
  exact (hq _ (getD_mem (0, 0) (hm i hi))).2.2.2
section
variable {Γ : Ctx} {f g h fd fm fn fs fx ft ff fb : Fd} {c : Nat}
section
variable [FrC]
def SpMixed (f : Fd) : Prop := ∀ (l n : Nat) (m : Int) (st : Store), Wl l n st → n + 20 ≤ 1000000000 → 0 ≤ m → m ≤ 12 → OP (fun r st' => ∃ perm : List Nat, r = .lst (perm.map natD) ∧ perm.Perm (List.range m.toNat) ∧ Wl l (n + 20) st') (f [.loc l, .int m] st)
theorem sp_mixed (hd : SpDip fd) : SpMixed (runF 2 4 (m_mixed Γ fd)) := by
  intro l n m st hw hn h0 h8
  refine OP_run rfl ?_
  delta m_mixed
  simp! only []
  refine ⟨⟨by unfold LIM; omega, by unfold LIM; omega⟩, ?_⟩
  rw [range0]
  refine forL_invL (fun (pre : List Nat) env st' => ∃ (xs : List Nat) (s3 : Sl), env = [.v (.loc l), .v (.int m), .own (xs.map natD), s3] ∧ xs.Perm (List.range pre.length) ∧ Wl l (n + pre.length) st') ⟨[], _, rfl, .refl _, hw⟩ ?_ ?_
  · rintro pre x post env st1 e ⟨xs, s3, rfl, hp, hw1⟩
    obtain ⟨rfl, hx⟩ := range_at e
    have hx : pre.length < 12 := by omega
    have hlen : xs.length = pre.length := by rw [hp.length_eq, List.length_range]
    refine ⟨_, by simp! only []; rfl, ?_⟩
    simp! only [List.length_map]
    refine (hd l _ (xs.length + 1) st1 hw1 (by omega) (by omega) (by omega)).mono ?_
    rintro _ st2 ⟨j, rfl, hj0, hj1, hw2⟩
    obtain ⟨q, rfl⟩ := Int.eq_ofNat_of_zero_le hj0
    have hq : q ≤ xs.length := by omega
    have hb : (0 : Int) ≤ q ∧ (q : Int) ≤ (xs.length : Int) ∧ xs.length < LIM := ⟨by omega, by omega, Nat.lt_of_lt_of_le (show xs.length < 13 by omega) (lim_ge (by omega))⟩
    simp! only [hb, List.length_map, Int.toNat_natCast]
    refine ⟨xs.take q ++ pre.length :: xs.drop q, _, by simp [natD]; rfl, ?_, hw2.up (by simp; omega)⟩
    refine List.perm_middle.trans ?_
    rw [List.take_append_drop, List.length_append, List.length_singleton, List.range_succ]
    exact (List.Perm.cons _ hp).trans (List.perm_append_singleton _ _).symm
  · rintro env st1 ⟨xs, s3, rfl, hp, hw1⟩
    rw [List.length_range] at hp hw1
    simp! only []
    exact ⟨xs, rfl, hp, hw1.up (by omega)⟩
def SpSome (f : Fd) : Prop := ∀ (l n : Nat) (w : Int) (st : Store), Wl l n st → n + 10 ≤ 1000000000 → 0 ≤ w → w ≤ 10 ^ 80 → OP (fun r st' => ∃ k : Int, r = .int k ∧ 0 ≤ k ∧ k ≤ w ∧ Wl l (n + 10) st') (f [.loc l, .int w] st)
theorem okd2 : okDiv 2 = true := okDiv_of (by omega) (by omega)
theorem okd3 : okDiv 3 = true := okDiv_of (by omega) (by omega)
theorem okd1000 : okDiv 1000 = true := okDiv_of (by omega) (by omega)
theorem thou {w k : Int} (h : 0 ≤ w) (h0 : 0 ≤ k) (h1 : k ≤ 1000) : 0 ≤ w * k / 1000 ∧ w * k / 1000 ≤ w := by
  have h2 : w * k ≤ w * 1000 := Int.mul_le_mul_of_nonneg_left h1 h
  have h3 : 0 ≤ w * k := Int.mul_nonneg h h0
  omega
theorem sp_some (hd : SpDip fd) : SpSome (runF 2 3 (m_some Γ fd)) := by
  intro l n w st hw hn h0 h8
  refine OP_run rfl ?_
  delta m_some
  simp! only []
  refine (hd l n 5 st hw (by omega) (by omega) (by omega)).mono ?_
  rintro _ st1 ⟨k, rfl, hk0, hk1, hw1⟩
  simp! only [okd2, okd3]
  refine ⟨fun h4 => ?_, fun h4 => ?_⟩
  · obtain ⟨_, hv, k2, rfl, a, b⟩ := at_val (P := fun v => ∃ k2 : Int, v = D.int k2 ∧ 0 ≤ k2 ∧ k2 ≤ w) (xs := [.int 0, .int w, .int (w / 2), .int (w / 3)]) hk0 (by simpa using h4) (fun v hv => by
      simp only [List.mem_cons, List.not_mem_nil, or_false] at hv
      rcases hv with rfl | rfl | rfl | rfl
      · exact ⟨_, rfl, by omega, by omega⟩
      · exact ⟨_, rfl, by omega, by omega⟩
      · exact ⟨_, rfl, by omega, by omega⟩
      · exact ⟨_, rfl, by omega, by omega⟩)
    simp! only [hv]
    exact ⟨_, rfl, a, b, hw1.up (by omega)⟩
  · refine (hd l _ 1001 st1 hw1 (by omega) (by omega) (by omega)).mono ?_
    rintro _ st2 ⟨k2, rfl, hk20, hk21, hw2⟩
    have e1 : okMul w k2 = true := okMul_abs (by omega) (by omega)
    simp! only [e1, okd1000]
    obtain ⟨a, b⟩ := thou (k := k2) h0 hk20 (by omega)
    exact ⟨_, rfl, a, b, hw2.up (by omega)⟩
/-- drawn numbers in a row -/
theorem numcomp (hm : SpRange fm 3 1 (10 ^ 30)) {l n j : Nat} {env : Env} {st : Store} (k : Nat) (hk : k ≤ 10) (hw : Wl l n st) (hn : n + 30 ≤ 1000000000) :
    OP (fun ds st' => ∃ ns : List Int, ds = ns.map .int ∧ ns.length = k ∧ (∀ x ∈ ns, 1 ≤ x ∧ x ≤ 10 ^ 30) ∧ Wl l (n + 30) st') (compL (turnV [j + 1] (callE fm [vE 0]) (.nm (j + 1)) [] (.v (.loc l) :: env)) ((List.range k).map fun (k : Nat) => D.int (k : Int)) [] st) := by
  refine comp_invL (fun (pr : List Nat) acc st' => ∃ ns : List Int, acc = ns.map .int ∧ ns.length = pr.length ∧ (∀ x ∈ ns, 1 ≤ x ∧ x ≤ 10 ^ 30) ∧ Wl l (n + 3 * pr.length) st') (lim_ge (by rw [List.length_range]; omega)) ⟨[], rfl, rfl, by simp, hw⟩ ?_ ?_
  · rintro pr y po acc st3 e ⟨ns, rfl, hl, hns, hw3⟩
    obtain ⟨rfl, hy⟩ := range_at e
    simp! only [turnV_eq]
    refine (hm l _ st3 hw3 (by omega)).mono ?_
    rintro _ st4 ⟨a, rfl, ha0, ha1, hw4⟩
    simp! only []
    exact ⟨ns ++ [a], by simp, by simp [hl], fun x hx => by
      rcases List.mem_append.mp hx with hx | hx
      · exact hns x hx
      · simp at hx; rw [hx]; exact ⟨ha0, ha1⟩, hw4.up (by simp; omega)⟩
  · rintro acc st3 ⟨ns, rfl, hl, hns, hw3⟩
    rw [List.length_range] at hl hw3
    exact ⟨ns, rfl, hl, hns, hw3.up (by omega)⟩
end
def encP (q : Int × Int) : D := .tup [.int q.1, .int q.2]
theorem idx_p0 {st : Store} {q : Int × Int} : op2 .idx st (encP q) (.int 0) = some (.int q.1) := rfl
theorem idx_p1 {st : Store} {q : Int × Int} : op2 .idx st (encP q) (.int 1) = some (.int q.2) := rfl
/-- rows are drawn -/
def SpDrawn (f : Fd) (extra : Int) (P : Int → List Row → Prop) : Prop := ∀ (l n : Nat) (p m : Int) (st : Store), Wl l n st → n + 2000 ≤ 1000000000 → 1 ≤ p → p ≤ 9 → 1 ≤ m → m + extra ≤ 6 → OP (fun r st' => ∃ rs : List Row, r = .lst (rs.map encR) ∧ RowsOk rs ∧ (rs.length : Int) ≤ m + extra ∧ P p rs ∧ Wl l (n + 2000) st') (f [.loc l, .int p, .int m] st)
theorem sp_tower (hd : SpDip fd) (hm : SpRange fm 3 1 (10 ^ 30)) (hn0 : SpNames fn) (hx : SpMixed fx) : SpDrawn (runF 3 9 (m_tower Γ fd fm fn fx)) 0 fun _ rs => ScS rs := by
  intro l n p m st hw hn h1 h9 hm1 hm6
  refine OP_run rfl ?_
  delta m_tower
  simp! only []
  refine (hd l n m st hw (by omega) (by omega) (by omega)).mono ?_
  rintro _ st1 ⟨k, rfl, hk0, hk1, hw1⟩
  simp! only []
  refine ⟨⟨by unfold LIM; omega, by unfold LIM; omega⟩, ?_⟩
  rw [range0]
  refine (numcomp hm (1 + k).toNat (by omega) hw1 (by omega)).mono ?_
  rintro _ st2 ⟨ns, rfl, hnl, hns, hw2⟩
  simp! only []
  refine forL_invL (enc := D.int) (fun (pre : List Int) env st' => ∃ (ps : List (Int × Int)) (b : Int) (s3 s4 s8 : Sl), env = [.v (.loc l), .v (.int p), .v (.int m), s3, s4, .v (.lst (ns.map .int)), .v (.int b), .own (ps.map encP), s8] ∧ ps.length = pre.length ∧ (∀ q ∈ ps, PairOk q) ∧ (0 ≤ b ∧ b ≤ pre.length * 10 ^ 30) ∧ st' = st2) ⟨[], 0, _, _, _, rfl, rfl, by simp, by simp, rfl⟩ ?_ ?_
  · rintro pre x post env st' e ⟨ps, b, s3, s4, s8, rfl, hl, hps, ⟨hb0, hb1⟩, rfl⟩
    have hxm := hns x (by rw [e]; simp)
    have hpl : pre.length < 6 := by
      have := congrArg List.length e
      simp at this
      omega
    have hb6 : b ≤ 6 * 10 ^ 30 := by
      have : (pre.length : Int) * 10 ^ 30 ≤ 6 * 10 ^ 30 := Int.mul_le_mul_of_nonneg_right (by omega) (by decide)
      omega
    refine ⟨_, by simp! only []; rfl, ?_⟩
    have e1 : okMul p b = true := okMul_of (by omega) (by omega) (by omega) (by omega)
    have e2 : okMul p (x - 1) = true := okMul_of (by omega) (by omega) (by omega) (by omega)
    have e3 : ps.length < LIM := Nat.lt_of_lt_of_le (show ps.length < 7 by omega) (lim_ge (by omega))
    simp! only [e1, e2, okd2, List.length_map, e3]
    have a1 : p * b ≤ 9 * (6 * 10 ^ 30) := Int.mul_le_mul h9 hb6 hb0 (by decide)
    have a2 : 0 ≤ p * b := Int.mul_nonneg (by omega) hb0
    have a3 : p * (x - 1) ≤ 9 * 10 ^ 30 := Int.mul_le_mul h9 (by omega) (by omega) (by decide)
    have a4 : 0 ≤ p * (x - 1) := Int.mul_nonneg (by omega) (by omega)
    refine ⟨ps ++ [(x, p * b + p * (x - 1) / 2)], _, _, _, _, by simp [encP]; exact ⟨rfl, rfl, rfl, rfl⟩, by simp [hl], fun q hq => ?_, ?_⟩
    · rcases List.mem_append.mp hq with hq | hq
      · exact hps q hq
      · simp at hq; rw [hq]; exact ⟨hxm.1, hxm.2, by show 0 ≤ p * b + p * (x - 1) / 2; omega, by show p * b + p * (x - 1) / 2 ≤ 10 ^ 32; omega⟩
    · rw [List.length_append, List.length_singleton, Int.natCast_add, Int.add_mul]
      omega
  · rintro env st' ⟨ps, b, s3, s4, s8, rfl, hl, hps, hb, rfl⟩
    have hl6 : ps.length ≤ 6 := by omega
    have hl1 : 1 ≤ ps.length := by omega
    simp! only [List.length_map]
    refine (hn0 l _ ps.length _ hw2 (by omega) (by omega) (by omega)).mono ?_
    rintro _ st3 ⟨nm, rfl, hnm, hok, hnd, hw3⟩
    simp! only [List.length_map]
    refine (hx l _ ps.length _ hw3 (by omega) (by omega) (by omega)).mono ?_
    rintro _ st4 ⟨perm, rfl, hperm, hw4⟩
    rw [Int.toNat_natCast] at hperm
    have hmem : ∀ i ∈ perm, i < ps.length := fun i hi => by simpa using hperm.mem_iff.mp hi
    have hplen : perm.length = ps.length := by rw [hperm.length_eq, List.length_range]
    simp! only []
    rw [comp_mapL (enc := natD) (g := fun i => encR (rowOf nm ps i)) perm (lim_ge (by omega)) fun i hi => by
      have i1 : atI (nm.map D.str) (i : Int) = some (.str (nm.getD i [])) := atI_map [] (by have := hmem i hi; omega)
      have i2 : atI (ps.map encP) (i : Int) = some (encP (ps.getD i (0, 0))) := atI_map (0, 0) (hmem i hi)
      apply OP_eq
      simp! only [turnV_eq, natD, i1, i2, idx_p0, idx_p1]
      rfl]
    simp! only []
    exact ⟨perm.map (rowOf nm ps), by rw [List.map_map]; rfl, rowsOf_ok hnd hok (by omega) rfl hps hl1 hl6 hperm, by simp; omega, rowsOf_s hps hmem, hw4.up (by omega)⟩
/-- rows' scores are changed -/
def SpBent (f : Fd) : Prop := ∀ (l n : Nat) (rs : List Row) (st : Store), Wl l n st → n + 100 ≤ 1000000000 → RowsOk rs → ScS rs → OP (fun r st' => ∃ rs' : List Row, r = .lst (rs'.map encR) ∧ RowsOk rs' ∧ rs'.length = rs.length ∧ ScS rs' ∧ Wl l (n + 100) st') (f [.loc l, .lst (rs.map encR)] st)
theorem RowsOk.set {rs : List Row} (h : RowsOk rs) {i : Nat} {r : Row} (hi : rs[i]? = some r) {s : Int} (h0 : 0 ≤ s) (h1 : s ≤ 10 ^ 33) : RowsOk (rs.set i ⟨r.nm, r.num, s⟩) := by
  have hm := h.ok r (List.mem_of_getElem? hi)
  have hlt := (List.getElem?_eq_some_iff.mp hi).1
  refine ⟨by simp; exact h.l1, by simp; exact h.l6, fun x hx => ?_, ?_⟩
  · rcases List.mem_or_eq_of_mem_set hx with hx | hx
    · exact h.ok x hx
    · rw [hx]; exact ⟨hm.nm, hm.n1, hm.n2, h0, h1⟩
  · have e : (rs.set i ⟨r.nm, r.num, s⟩).map (·.nm) = rs.map (·.nm) := by
      rw [List.map_set]
      show (rs.map (·.nm)).set i r.nm = _
      apply List.ext_getElem?
      intro j
      rw [List.getElem?_set]
      by_cases hj : i = j
      · subst hj; simp [hlt]; rw [(List.getElem?_eq_some_iff.mp hi).2]
      · simp [hj]
    rw [e]; exact h.nd
theorem ScS.set {rs : List Row} (h : ScS rs) {i : Nat} {r : Row} (hr : r.sc ≤ 10 ^ 32) : ScS (rs.set i r) := fun x hx => by
  rcases List.mem_or_eq_of_mem_set hx with hx | hx
  · exact h x hx
  · rw [hx]; exact hr
theorem sp_bent (hd : SpDip fd) : SpBent (runF 2 9 (m_bent Γ fd)) := by
  intro l n rs st hw hn hrs hsc
  refine OP_run rfl ?_
  delta m_bent
  simp! only []
  refine (hd l n 4 st hw (by omega) (by omega) (by omega)).mono ?_
  rintro _ st1 ⟨k, rfl, hk0, hk1, hw1⟩
  simp! only []
  refine ⟨⟨by unfold LIM; omega, by unfold LIM; omega⟩, ?_⟩
  rw [range0]
  refine forL_invL (fun (pre : List Nat) env st' => ∃ (qs : List Row) (s3 s4 s5 s6 s7 s8 : Sl), env = [.v (.loc l), .v (.lst (rs.map encR)), .own (qs.map encR), s3, s4, s5, s6, s7, s8] ∧ RowsOk qs ∧ qs.length = rs.length ∧ ScS qs ∧ Wl l (n + 1 + 4 * pre.length) st') ⟨rs, _, _, _, _, _, _, rfl, hrs, rfl, hsc, hw1⟩ ?_ ?_
  · rintro pre x post env st2 e ⟨qs, s3, s4, s5, s6, s7, s8, rfl, hqs, hql, hqc, hw2⟩
    obtain ⟨rfl, hx⟩ := range_at e
    have hx : pre.length < 4 := by omega
    have q1 := hqs.l1; have q6 := hqs.l6
    refine ⟨_, by simp! only []; rfl, ?_⟩
    simp! only [List.length_map]
    refine (hd l _ qs.length st2 hw2 (by omega) (by omega) (by omega)).mono ?_
    rintro _ st3 ⟨j, rfl, hj0, hj1, hw3⟩
    simp! only []
    refine (hd l _ 5 st3 hw3 (by omega) (by omega) (by omega)).mono ?_
    rintro _ st4 ⟨t, rfl, ht0, ht1, hw4⟩
    obtain ⟨i, rfl⟩ := Int.eq_ofNat_of_zero_le hj0
    obtain ⟨r, hr, hm⟩ := row_get (show i < qs.length by omega)
    have ro := hqs.ok r hm
    have r3 := ro.s1; have r4 := ro.s2
    have ei : atI (qs.map encR) (i : Int) = some (encR r) := by rw [atI_nat, List.getElem?_map, hr]; rfl
    have eix : ixN qs.length (i : Int) = some i := by unfold ixN; rw [if_pos (by omega), if_pos (by omega)]; rfl
    have done : ∀ (s : Int) (st' : Store) (t3 t4 t5 t6 t7 t8 : Sl), 0 ≤ s → Wl l (n + 1 + 4 * pre.length + 4) st' → ∃ (qs' : List Row) (u3 u4 u5 u6 u7 u8 : Sl), [Sl.v (.loc l), .v (.lst (rs.map encR)), .own ((qs.map encR).set i (.tup [.str r.nm, .int r.num, .int (if s < 100000000000000000000000000000000 then s else 100000000000000000000000000000000)])), t3, t4, t5, t6, t7, t8] = [.v (.loc l), .v (.lst (rs.map encR)), .own (qs'.map encR), u3, u4, u5, u6, u7, u8] ∧ RowsOk qs' ∧ qs'.length = rs.length ∧ ScS qs' ∧ Wl l (n + 1 + 4 * (pre ++ [pre.length]).length) st' := fun s st' t3 t4 t5 t6 t7 t8 h0 hw' =>
      ⟨qs.set i ⟨r.nm, r.num, if s < 100000000000000000000000000000000 then s else 100000000000000000000000000000000⟩, _, _, _, _, _, _, by rw [List.map_set]; rfl, hqs.set hr (by split <;> omega) (by split <;> omega), by rw [List.length_set, hql], hqc.set (by show (if s < 100000000000000000000000000000000 then s else 100000000000000000000000000000000) ≤ _; split <;> omega), hw'.up (by simp; omega)⟩
    simp! only [ei, encR, List.length_map, eix]
    refine ⟨fun h3 => ?_, fun h3 => ⟨fun h3 => ?_, fun h3 => ?_⟩⟩
    · obtain ⟨_, hv, d, rfl, _⟩ := at_val (P := fun v => ∃ d : Int, v = D.int d ∧ d = d) (xs := [.int 1, .int (-1), .int (-2)]) ht0 (by simpa using h3) (fun v hv => by
        simp only [List.mem_cons, List.not_mem_nil, or_false] at hv
        rcases hv with rfl | rfl | rfl <;> exact ⟨_, rfl, rfl⟩)
      simp! only [hv, eix, List.length_map]
      exact done _ _ _ _ _ _ _ _ (by split <;> omega) (hw4.up (by omega))
    · refine (hd l _ 2001 st4 hw4 (by omega) (by omega) (by omega)).mono ?_
      rintro _ st5 ⟨y, rfl, hy0, hy1, hw5⟩
      have e1 : okMul r.sc y = true := okMul_of (by omega) (by omega) (by omega) (by omega)
      simp! only [e1, okd1000, eix, List.length_map]
      have := Int.mul_nonneg r3 hy0
      exact done _ _ _ _ _ _ _ _ (by omega) (hw5.up (by omega))
    · refine (hd l _ qs.length st4 hw4 (by omega) (by omega) (by omega)).mono ?_
      rintro _ st5 ⟨y, rfl, hy0, hy1, hw5⟩
      obtain ⟨i2, rfl⟩ := Int.eq_ofNat_of_zero_le hy0
      obtain ⟨r2, hr2, hm2⟩ := row_get (show i2 < qs.length by omega)
      have ei2 : atI (qs.map encR) (i2 : Int) = some (encR r2) := by rw [atI_nat, List.getElem?_map, hr2]; rfl
      simp! only [ei2, idx_row2, eix, List.length_map]
      exact done _ _ _ _ _ _ _ _ (hqs.ok r2 hm2).s1 (hw5.up (by omega))
  · rintro env st2 ⟨qs, s3, s4, s5, s6, s7, s8, rfl, hqs, hql, hqc, hw2⟩
    rw [List.length_range] at hw2
    simp! only []
    exact ⟨qs, rfl, hqs, hql, hqc, hw2.up (by omega)⟩
end
end G
namespace G
theorem own_add (p a b : Int) : ownI p (a + b) = ownI p a + ownI p b + p * a * b := by
  have h1 := own2 p (a + b)
  have h2 := own2 p a
  have h3 := own2 p b
  have : p * (a + b) * (a + b - 1) = p * a * (a - 1) + p * b * (b - 1) + 2 * (p * a * b) := by grind
  omega
theorem sumL_add (f g : Nat → Int) (l : List Nat) : sumL (fun i => f i + g i) l = sumL f l + sumL g l := by
  induction l with
  | nil => rfl
  | cons i l ih => simp only [sumL_cons, ih]; omega
theorem sumL_mul (c : Int) (f : Nat → Int) (l : List Nat) : sumL (fun i => c * f i) l = c * sumL f l := by
  induction l with
  | nil => simp [sumL]
  | cons i l ih => simp only [sumL_cons, ih]; rw [Int.mul_add]
theorem sumL_map (f : Nat → Int) (g : Nat → Nat) (l : List Nat) : sumL f (l.map g) = sumL (fun i => f (g i)) l := by
  unfold sumL; rw [List.map_map]; rfl
theorem sumL_nn {f : Nat → Int} {l : List Nat} (h : ∀ i ∈ l, 0 ≤ f i) : 0 ≤ sumL f l := by
  rw [← sumL_zero l]; exact sumL_le h
theorem sumL_sub {f : Nat → Int} {l : List Nat} {K : Nat} (hl : l.Nodup) (hm : ∀ i ∈ l, i < K) (hf : ∀ i < K, 0 ≤ f i) : sumL f l ≤ sumL f (List.range K) := by
  have hperm : ((List.range K).filter fun i => decide (i ∈ l)).Perm l := by
    refine (List.perm_ext_iff_of_nodup (List.nodup_range.sublist List.filter_sublist) hl).mpr fun i => ?_
    simp only [List.mem_filter, List.mem_range, decide_eq_true_eq]
    exact ⟨fun h => h.2, fun h => ⟨hm i h, h⟩⟩
  rw [← sumL_perm f hperm]
  have : ∀ q : List Nat, (∀ i ∈ q, 0 ≤ f i) → sumL f (q.filter fun i => decide (i ∈ l)) ≤ sumL f q := fun q => by
    induction q with
    | nil => intro _; exact Int.le_refl _
    | cons x q ih =>
      intro h
      have h1 := ih fun i hi => h i (by simp [hi])
      have h2 := h x (by simp)
      rw [List.filter_cons, sumL_cons]
      split
      · rw [sumL_cons]; omega
      · omega
  exact this _ fun i hi => hf i (by simpa using hi)
structure Fair (p : Int) (n : Nat → Int) (K : Nat) (M : Nat → Nat → Int) : Prop where
  dg : ∀ i < K, M i i = ownI p (n i)
  pr : ∀ i j, j < i → i < K → M i j + M j i = p * n i * n j ∧ 0 ≤ M i j ∧ 0 ≤ M j i
section
variable {p : Int} {n : Nat → Int} {K : Nat} {M : Nat → Nat → Int}
theorem Fair.both (h : Fair p n K M) {i j : Nat} (hij : i ≠ j) (hi : i < K) (hj : j < K) : M i j + M j i = p * n i * n j ∧ 0 ≤ M i j ∧ 0 ≤ M j i := by
  rcases Nat.lt_or_gt_of_ne hij with h1 | h1
  · obtain ⟨a, b, c⟩ := h.pr j i h1 hj
    have : p * n j * n i = p * n i * n j := by grind
    exact ⟨by omega, c, b⟩
  · exact h.pr i j h1 hi
def inS (M : Nat → Nat → Int) (l : List Nat) : Int := sumL (fun i => sumL (M i) l) l
theorem Fair.ins (h : Fair p n K M) : ∀ {l : List Nat}, l.Nodup → (∀ i ∈ l, i < K) → inS M l = ownI p (sumL n l)
  | [], _, _ => by unfold inS; rw [sumL_nil, sumL_nil, own_zero]
  | a :: t, hn, hm => by
    obtain ⟨h1, h2⟩ := List.nodup_cons.mp hn
    have ih := h.ins (l := t) h2 fun i hi => hm i (by simp [hi])
    have ha := hm a (by simp)
    rw [sumL_cons, own_add, ← ih, ← h.dg a ha]
    unfold inS
    rw [sumL_cons, sumL_cons]
    have e1 : sumL (fun i => sumL (M i) (a :: t)) t = sumL (fun i => M i a) t + sumL (fun i => sumL (M i) t) t := by
      rw [← sumL_add]
      exact sumL_congr fun i _ => sumL_cons _ _ _
    have e2 : sumL (M a) t + sumL (fun i => M i a) t = p * n a * sumL n t := by
      rw [← sumL_add, ← sumL_mul]
      refine sumL_congr fun i hi => ?_
      have := (h.both (i := a) (j := i) (fun e => h1 (by rw [e]; exact hi)) ha (hm i (by simp [hi]))).1
      exact this
    rw [e1]
    omega
theorem Fair.nn (h : Fair p n K M) (hp : 0 ≤ p) (hn : ∀ i < K, 0 ≤ n i) {i j : Nat} (hi : i < K) (hj : j < K) : 0 ≤ M i j := by
  by_cases e : i = j
  · subst e; rw [h.dg i hi]; exact own_nonneg hp (hn i hi)
  · exact (h.both e hi hj).2.1
theorem Fair.le (h : Fair p n K M) (hp : 0 ≤ p) (hn : ∀ i < K, 0 ≤ n i) {i j : Nat} (hi : i < K) (hj : j < K) : M i j ≤ n i * (p * n j) := by
  by_cases e : i = j
  · subst e
    rw [h.dg i hi]
    have h2 := own2 p (n i)
    have h3 : p * n i * (n i - 1) = n i * (p * n i) - p * n i := by grind
    have h4 := Int.mul_nonneg hp (hn i hi)
    have h5 := Int.mul_nonneg (hn i hi) h4
    omega
  · obtain ⟨a, b, c⟩ := h.both e hi hj
    have : p * n i * n j = n i * (p * n j) := by grind
    omega
def rowS (M : Nat → Nat → Int) (K i : Nat) : Int := sumL (M i) (List.range K)
theorem Fair.row_le (h : Fair p n K M) (hp : 0 ≤ p) (hn : ∀ i < K, 0 ≤ n i) {i : Nat} (hi : i < K) : 0 ≤ rowS M K i ∧ rowS M K i ≤ n i * (p * sumL n (List.range K)) := by
  refine ⟨sumL_nn fun j hj => h.nn hp hn hi (by simpa using hj), ?_⟩
  rw [← sumL_mul, ← sumL_mul]
  exact sumL_le fun j hj => h.le hp hn hi (by simpa using hj)
theorem Fair.lots (h : Fair p n K M) (hp : 0 ≤ p) (hn : ∀ i < K, 0 ≤ n i) {l : List Nat} (hl : l.Nodup) (hm : ∀ i ∈ l, i < K) : ownI p (sumL n l) ≤ sumL (rowS M K) l := by
  rw [← h.ins hl hm]
  exact sumL_le fun i hi => sumL_sub hl hm fun j hj => h.nn hp hn (hm i hi) hj
theorem Fair.all (h : Fair p n K M) : sumL (rowS M K) (List.range K) = ownI p (sumL n (List.range K)) := by
  rw [← h.ins List.nodup_range fun i hi => by simpa using hi]; rfl
end
/-- the rows of a fair matrix lack nothing -/
theorem perm_num {perm : List Nat} {g : Nat → Row} {l : List Nat} (hm : ∀ i ∈ l, i < perm.length) : numS (perm.map g) l = sumL (fun i => (g i).num) (l.map fun t => perm.getD t 0) := by
  unfold numS
  rw [sumL_map]
  refine sumL_congr fun t ht => ?_
  have := hm t ht
  unfold nmI
  rw [List.getElem?_map, List.getElem?_eq_getElem this, List.getD_eq_getElem?_getD, List.getElem?_eq_getElem this]
  rfl
theorem perm_sc {perm : List Nat} {g : Nat → Row} {l : List Nat} (hm : ∀ i ∈ l, i < perm.length) : scS (perm.map g) l = sumL (fun i => (g i).num * (g i).sc) (l.map fun t => perm.getD t 0) := by
  unfold scS
  rw [sumL_map]
  refine sumL_congr fun t ht => ?_
  have := hm t ht
  unfold nmI scI
  rw [List.getElem?_map, List.getElem?_eq_getElem this, List.getD_eq_getElem?_getD, List.getElem?_eq_getElem this]
  rfl
theorem map_getD_range (perm : List Nat) : (List.range perm.length).map (fun t => perm.getD t 0) = perm := by
  apply List.ext_getElem
  · simp
  · intro i h1 h2
    rw [List.getElem_map, List.getElem_range, List.getD_eq_getElem?_getD, List.getElem?_eq_getElem h2]; rfl
theorem map_getD_nodup {perm l : List Nat} (hp : perm.Nodup) (hl : l.Nodup) (hm : ∀ i ∈ l, i < perm.length) : (l.map fun t => perm.getD t 0).Nodup := by
  refine List.pairwise_map.mpr (hl.imp_of_mem fun {a b} ha hb hab e => hab ?_)
  have ha := hm a ha
  have hb := hm b hb
  rw [List.getD_eq_getElem?_getD, List.getD_eq_getElem?_getD, List.getElem?_eq_getElem ha, List.getElem?_eq_getElem hb] at e
  have key := List.pairwise_iff_getElem.mp hp
  rcases Nat.lt_trichotomy a b with h | h | h
  · exact absurd (by simpa using e) (key a b _ _ h)
  · exact h
  · exact absurd (by simpa using e.symm) (key b a _ _ h)
theorem fair_lack {p : Int} {n : Nat → Int} {K : Nat} {M : Nat → Nat → Int} (h : Fair p n K M) (hp : 0 ≤ p) (hn : ∀ i < K, 0 ≤ n i) {perm : List Nat} (hperm : perm.Perm (List.range K)) {g : Nat → Row} (hg : ∀ i < K, (g i).num = n i ∧ (g i).num * (g i).sc = rowS M K i) :
    lackI p (perm.map g) = 0 ∧ spareI p (perm.map g) = 0 := by
  have hlen : perm.length = K := by rw [hperm.length_eq, List.length_range]
  have hnd : perm.Nodup := hperm.nodup_iff.mpr List.nodup_range
  have hmem : ∀ i ∈ perm, i < K := fun i hi => by simpa using hperm.mem_iff.mp hi
  have hin : ∀ {l : List Nat}, (∀ i ∈ l, i < perm.length) → ∀ i ∈ l.map (fun t => perm.getD t 0), i < K := fun {l} hm i hi => by
    obtain ⟨t, ht, rfl⟩ := List.mem_map.mp hi
    exact hmem _ (getD_mem 0 (hm t ht))
  have e1 : ∀ {l : List Nat}, (∀ i ∈ l, i < perm.length) → numS (perm.map g) l = sumL n (l.map fun t => perm.getD t 0) := fun {l} hm => by
    rw [perm_num hm]
    exact sumL_congr fun i hi => (hg i (hin hm i hi)).1
  have e2 : ∀ {l : List Nat}, (∀ i ∈ l, i < perm.length) → scS (perm.map g) l = sumL (rowS M K) (l.map fun t => perm.getD t 0) := fun {l} hm => by
    rw [perm_sc hm]
    exact sumL_congr fun i hi => (hg i (hin hm i hi)).2
  constructor
  · rcases lackR_is p (perm.map g) with ⟨e, _⟩ | ⟨e0, e, hpre⟩
    · exact e
    · have hm : ∀ i ∈ lackR p (perm.map g), i < perm.length := fun i hi => by
        have := ordL_mem.mp (hpre.subset hi)
        simpa using this
      have hl : (lackR p (perm.map g)).Nodup := (ordL_nodup _).sublist hpre.sublist
      rw [e1 hm, e2 hm] at e
      have := h.lots hp hn (map_getD_nodup hnd hl hm) (hin hm)
      omega
  · unfold spareI
    rw [List.length_map]
    have hm : ∀ i ∈ List.range perm.length, i < perm.length := fun i hi => by simpa using hi
    rw [e1 hm, e2 hm, map_getD_range, sumL_perm _ hperm, sumL_perm n hperm, h.all]
    omega
end G
namespace G
def upd2 (M : Nat → Nat → Int) (i j : Nat) (v : Int) : Nat → Nat → Int := fun a b => if a = i ∧ b = j then v else M a b
theorem upd2_same {M : Nat → Nat → Int} {i j : Nat} {v : Int} : upd2 M i j v i j = v := by unfold upd2; simp
theorem upd2_ne {M : Nat → Nat → Int} {i j a b : Nat} {v : Int} (h : ¬ (a = i ∧ b = j)) : upd2 M i j v a b = M a b := by unfold upd2; rw [if_neg h]
theorem rowS_upd_ne {M : Nat → Nat → Int} {i j a K : Nat} {v : Int} (h : a ≠ i) : rowS (upd2 M i j v) K a = rowS M K a :=
  sumL_congr fun b _ => upd2_ne fun e => h e.1
theorem rowS_upd {M : Nat → Nat → Int} {i j K : Nat} {v : Int} (hj : j < K) : rowS (upd2 M i j v) K i = rowS M K i - M i j + v := by
  unfold rowS
  have : ∀ q : List Nat, q.Nodup → sumL (upd2 M i j v i) q = if j ∈ q then sumL (M i) q - M i j + v else sumL (M i) q := fun q => by
    induction q with
    | nil => intro _; rfl
    | cons x q ih =>
      intro hn
      obtain ⟨h1, h2⟩ := List.nodup_cons.mp hn
      rw [sumL_cons, sumL_cons, ih h2]
      by_cases hx : j = x
      · subst hx
        rw [upd2_same]
        simp [h1]
        omega
      · rw [upd2_ne fun e => hx e.2.symm]
        by_cases hq : j ∈ q
        · simp [hq]; omega
        · simp [hq, hx]
  rw [this _ List.nodup_range, if_pos (by simpa using hj)]
def dn (k jj i j : Nat) : Prop := i < k ∨ (i = k ∧ j < jj)
structure Mat (p : Int) (n : Nat → Int) (T k jj kd : Nat) (M : Nat → Nat → Int) : Prop where
  dg : ∀ i < kd, M i i = ownI p (n i)
  pr : ∀ i j, j < i → i ≤ T → dn k jj i j → M i j + M j i = p * n i * n j ∧ 0 ≤ M i j ∧ 0 ≤ M j i
  zr : ∀ i j, j < i → ¬ dn k jj i j → M j i = 0
  dv : ∀ j < T, dn k jj T j → n j ∣ rowS M (T + 1) j
section
variable {p : Int} {n : Nat → Int} {T k jj kd : Nat} {M : Nat → Nat → Int}
theorem Mat.zero : Mat p n T 0 0 0 fun _ _ => 0 where
  dg := fun i h => by omega
  pr := fun i j _ _ h => by unfold dn at h; omega
  zr := fun _ _ _ _ => rfl
  dv := fun j _ h => by unfold dn at h; omega
theorem Mat.diag (h : Mat p n T k 0 k M) (hk : k ≤ T) : Mat p n T k 0 (k + 1) (upd2 M k k (ownI p (n k))) where
  dg := fun i hi => by
    by_cases e : i = k
    · subst e; exact upd2_same
    · rw [upd2_ne fun z => e z.1]; exact h.dg i (by omega)
  pr := fun i j hj hi hd => by
    rw [upd2_ne (by omega), upd2_ne (by omega)]
    exact h.pr i j hj hi hd
  zr := fun i j hj hd => by
    rw [upd2_ne (by omega)]
    exact h.zr i j hj hd
  dv := fun j _ hd => by unfold dn at hd; omega
theorem Mat.pair (h : Mat p n T k jj kd M) (hk : k ≤ T) (hj : jj < k) {a b : Int} (hab : a + b = p * n k * n jj) (ha : 0 ≤ a) (hb : 0 ≤ b) (hdv : k = T → n jj ∣ rowS M (T + 1) jj + b) : Mat p n T k (jj + 1) kd (upd2 (upd2 M k jj a) jj k b) where
  dg := fun i hi => by
    rw [upd2_ne (by omega), upd2_ne (by omega)]
    exact h.dg i hi
  pr := fun i j hji hi hd => by
    by_cases e : i = k ∧ j = jj
    · obtain ⟨rfl, rfl⟩ := e
      rw [upd2_same, upd2_ne (by omega), upd2_same]
      exact ⟨hab, ha, hb⟩
    · rw [upd2_ne (by omega), upd2_ne e, upd2_ne (by omega), upd2_ne (by omega)]
      exact h.pr i j hji hi (by unfold dn at hd ⊢; omega)
  zr := fun i j hji hd => by
    unfold dn at hd
    rw [upd2_ne (by omega), upd2_ne (by omega)]
    exact h.zr i j hji (by unfold dn; omega)
  dv := fun j hjT hd => by
    have hd2 : k = T ∧ j < jj + 1 := by unfold dn at hd; omega
    by_cases e : j = jj
    · subst e
      rw [rowS_upd (by omega), rowS_upd_ne (by omega), upd2_ne (by omega), h.zr k j hj (by unfold dn; omega)]
      have := hdv hd2.1
      have e2 : rowS M (T + 1) j - 0 + b = rowS M (T + 1) j + b := by omega
      rw [e2]; exact this
    · rw [rowS_upd_ne e, rowS_upd_ne (by omega)]
      exact h.dv j hjT (by unfold dn; omega)
theorem Mat.row (h : Mat p n T k k kd M) : Mat p n T (k + 1) 0 kd M where
  dg := h.dg
  pr := fun i j hj hi hd => h.pr i j hj hi (by unfold dn at hd ⊢; omega)
  zr := fun i j hj hd => h.zr i j hj (by unfold dn at hd ⊢; omega)
  dv := fun j hj hd => h.dv j hj (by unfold dn at hd ⊢; omega)
theorem Mat.fair (h : Mat p n T (T + 1) 0 (T + 1) M) : Fair p n (T + 1) M where
  dg := h.dg
  pr := fun i j hj hi => h.pr i j hj (by omega) (by unfold dn; omega)
theorem Mat.div (h : Mat p n T (T + 1) 0 (T + 1) M) {j : Nat} (hj : j < T) : n j ∣ rowS M (T + 1) j := h.dv j hj (by unfold dn; omega)
end
def rowD (M : Nat → Nat → Int) (K i : Nat) : List D := (List.range K).map fun j => D.int (M i j)
@[reducible] def fM (b K : Nat) (M : Nat → Nat → Int) : FrC := ⟨(List.range K).map fun i => (b + i, Obj.lst (rowD M K i))⟩
def WM (l n b K : Nat) (M : Nat → Nat → Int) (st : Store) : Prop := @Wl (fM b K M) l n st
section
variable {l n b K : Nat} {M : Nat → Nat → Int} {st : Store}
theorem WM.up {n2 : Nat} (h : WM l n b K M st) (hn : n ≤ n2) : WM l n2 b K M st := @Wl.up (fM b K M) l n n2 st h hn
theorem WM.wl (h : WM l n b K M st) : Wl l n st := by
  obtain ⟨a, b2, c, h1, h2, h3, h4, h5⟩ := h
  exact ⟨a, b2, c, h1, h2, h3, h4, fun q hq => absurd (show q ∈ ([] : List (Nat × Obj)) from hq) List.not_mem_nil⟩
theorem WM.at_ (h : WM l n b K M st) {i : Nat} (hi : i < K) : b + i ≠ l ∧ st[b + i]? = some (.lst (rowD M K i)) := by
  obtain ⟨a, b2, c, h1, h2, h3, h4, h5⟩ := h
  exact h5 (b + i, Obj.lst (rowD M K i)) (List.mem_map.mpr ⟨i, by simpa using hi, rfl⟩)
theorem rowD_set {i j : Nat} {v : Int} (hj : j < K) : (rowD M K i).set j (.int v) = rowD (upd2 M i j v) K i := by
  unfold rowD
  apply List.ext_getElem
  · simp
  · intro t h1 h2
    rw [List.getElem_set]
    simp only [List.getElem_map, List.getElem_range]
    by_cases e : j = t
    · subst e; rw [if_pos rfl, upd2_same]
    · rw [if_neg e, upd2_ne fun z => e z.2.symm]
theorem rowD_ne {i j a : Nat} {v : Int} (h : a ≠ i) : rowD (upd2 M i j v) K a = rowD M K a := by
  unfold rowD
  exact List.map_congr_left fun t _ => by rw [upd2_ne fun z => h z.1]
theorem WM.sub (h : WM l n b K M st) {i j : Nat} {v : Int} {env : Env} (hi : i < K) (hj : j < K) : ∃ st', subV (.loc (b + i)) (.int (j : Int)) (.int v) env st = .nx env st' ∧ WM l n b K (upd2 M i j v) st' := by
  obtain ⟨g1, g2⟩ := h.at_ hi
  refine ⟨st.set (b + i) (.lst (rowD (upd2 M i j v) K i)), ?_, ?_⟩
  · rw [subV_loc g2]
    have e : ixN (rowD M K i).length (j : Int) = some j := by
      unfold ixN rowD
      rw [if_pos (by omega), if_pos (by simp; omega)]; rfl
    rw [e]
    show R.nx env (st.set (b + i) (.lst ((rowD M K i).set j (.int v)))) = _
    rw [rowD_set hj]
  · have h' := h
    obtain ⟨a, b2, c, h1, h2, h3, h4, h5⟩ := h
    refine ⟨a, b2, c, by rw [List.getElem?_set_ne g1]; exact h1, h2, h3, h4, fun q hq => ?_⟩
    obtain ⟨t, ht, rfl⟩ := List.mem_map.mp (show q ∈ (List.range K).map fun i_1 => (b + i_1, Obj.lst (rowD (upd2 M i j v) K i_1)) from hq)
    have ht : t < K := by simpa using ht
    obtain ⟨k1, k2⟩ := h'.at_ ht
    refine ⟨k1, ?_⟩
    show (st.set (b + i) _)[b + t]? = _
    by_cases e : t = i
    · subst e; rw [List.getElem?_set_self (List.getElem?_eq_some_iff.mp g2).1]
    · rw [List.getElem?_set_ne (by omega), k2, rowD_ne e]
theorem WM.sum (h : WM l n b K M st) {i : Nat} (hi : i < K) : bi .sum st [.loc (b + i)] = some (.int (rowS M K i)) := by
  show ((seqv st (.loc (b + i))).bind fun xs => (dInts xs).map fun is => D.int is.sum) = _
  rw [sv_loc (h.at_ hi).2]
  show (dInts (rowD M K i)).map _ = _
  unfold rowD
  rw [ints_map]; rfl
end
theorem /-ev-/ val_nw {s : Sem} {env : Env} {st : Store} : (nwE s).val env st = (s.val env st).bind newO := rfl
theorem /-ev-/ newO_lst {xs : List D} {st : Store} : newO (.lst xs) st = newV xs st := rfl
theorem lt_intsM {α : Type} {b : Nat} (g : α → Int) : ∀ l : List α, ltLocs b (l.map fun a => D.int (g a)) = true
  | [] => rfl
  | a :: l => by rw [List.map_cons]; show (ltLoc b (.int (g a)) && ltLocs b (l.map fun a => D.int (g a))) = true; rw [lt_intsM g l]; rfl
theorem range_getD {K i : Nat} (h : i < K) : (List.range K).getD i 0 = i := by
  rw [List.getD_eq_getElem?_getD, List.getElem?_range h]; rfl
section
variable {Γ : Ctx} {fd fm fs fn fx : Fd}
theorem fair_adj {S nn d w p : Int} (hn : 1 ≤ nn) (hw : w = p * 1 * nn) (hd0 : 0 ≤ d) (hd1 : d < p) : 0 ≤ w - (0 - S) % nn - nn * d ∧ 0 ≤ w - (w - (0 - S) % nn - nn * d) ∧ nn ∣ S + (w - (w - (0 - S) % nn - nn * d)) := by
  have a1 := Int.emod_nonneg (0 - S) (show nn ≠ 0 by omega)
  have a2 := Int.emod_lt_of_pos (0 - S) (show 0 < nn by omega)
  have a3 := Int.emod_add_mul_ediv (0 - S) nn
  have a4 : nn * d ≤ nn * (p - 1) := Int.mul_le_mul_of_nonneg_left (by omega) (by omega)
  have a5 : nn * (p - 1) = p * 1 * nn - nn := by grind
  have a6 := Int.mul_nonneg (show 0 ≤ nn by omega) hd0
  refine ⟨by omega, by omega, ?_⟩
  refine ⟨d - (0 - S) / nn, ?_⟩
  have : nn * (d - (0 - S) / nn) = nn * d - nn * ((0 - S) / nn) := by grind
  omega
theorem sp_fair (hd : ∀ F : FrC, @SpDip F fd) (hm : SpRange fm 3 1 (10 ^ 30)) (hs : ∀ F : FrC, @SpSome F fs) (hnm : ∀ F : FrC, @SpNames F fn) (hx : ∀ F : FrC, @SpMixed F fx) :
    SpDrawn (runF 3 14 (m_fair Γ fd fm fs fn fx)) 1 fun p rs => (lackI p rs = 0 ∧ spareI p rs = 0) ∧ ScS rs := by
  intro l n p m st hw hn h1 h9 hm1 hm6
  refine OP_run rfl ?_
  delta m_fair
  simp! only []
  refine (hd frc0 l n m st hw (by omega) (by omega) (by omega)).mono ?_
  rintro _ st1 ⟨k, rfl, hk0, hk1, hw1⟩
  simp! only []
  refine ⟨⟨by unfold LIM; omega, by unfold LIM; omega⟩, ?_⟩
  rw [range0]
  refine (numcomp hm (1 + k).toNat (by omega) hw1 (by omega)).mono ?_
  rintro _ st2 ⟨ns0, rfl, hnl, hns0, hw2⟩
  generalize hT : ns0.length = T
  have hT1 : 1 ≤ T := by omega
  have hT5 : T ≤ 5 := by omega
  obtain ⟨ns, hns⟩ : ∃ ns, ns0 ++ [(1 : Int)] = ns := ⟨_, rfl⟩
  have hap : ns0.map D.int ++ [D.int 1] = ns.map D.int := by rw [← hns]; simp
  have hlen : ns.length = T + 1 := by rw [← hns]; simp [hT]
  have hbd : ∀ x ∈ ns, 1 ≤ x ∧ x ≤ 10 ^ 30 := fun x hx => by
    rw [← hns] at hx
    rcases List.mem_append.mp hx with hx | hx
    · exact hns0 x hx
    · simp at hx; rw [hx]; decide
  have hlast : ns.getD T 0 = 1 := by rw [← hns, ← hT]; simp [List.getD_eq_getElem?_getD]
  have hbi : ∀ i, i ≤ T → 1 ≤ ns.getD i 0 ∧ ns.getD i 0 ≤ 10 ^ 30 := fun i hi => hbd _ (getD_mem 0 (by omega))
  have hTi : ((ns.length : Int) - 1) = (T : Int) := by omega
  simp! only [hap, List.length_map, hTi]
  refine ⟨lim_ge (by omega), ?_⟩
  -- the matrix is made
  generalize hb : st2.length = b
  have hnew : ∀ (st' : Store), OP (fun a s => a = D.loc st'.length ∧ s = st' ++ [Obj.lst (rowD (fun _ _ => 0) (T + 1) 0)]) (newV (ns.map fun _ => D.int 0) st') := fun st' => by
    show @OPi _ ⟨_⟩ _
    rw [new_eq]
    refine ⟨⟨lt_intsM (fun _ => 0) ns, by rw [List.length_map]; exact lim_ge (by omega)⟩, rfl, ?_⟩
    congr 3
    unfold rowD
    apply List.ext_getElem
    · simp [hlen]
    · intro t _ _; simp
  refine comp_invL (enc := D.int) (fun (pr : List Int) acc st' => acc = (List.range pr.length).map (fun j => D.loc (b + j)) ∧ st' = st2 ++ List.replicate pr.length (Obj.lst (rowD (fun _ _ => 0) (T + 1) 0))) (lim_ge (by omega)) ⟨rfl, by simp⟩ ?_ ?_
  · rintro pr y po acc st' e ⟨rfl, rfl⟩
    simp! only [turnV_eq, val_nw, newO_lst]
    rw [comp_mapL (enc := D.int) (g := fun _ => D.int 0) ns (lim_ge (by omega)) fun x hx => by
      apply OP_eq
      simp! only [turnV_eq]]
    simp! only [newO_lst]
    refine (hnew _).mono ?_
    rintro _ _ ⟨rfl, rfl⟩
    refine ⟨?_, ?_⟩
    · rw [show (pr ++ [y]).length = pr.length + 1 by simp, List.range_succ, List.map_append, List.length_append, List.length_replicate, hb]; rfl
    · rw [show (pr ++ [y]).length = pr.length + 1 by simp, List.replicate_succ', List.append_assoc]
  rintro acc st3 ⟨rfl, rfl⟩
  rw [hlen]
  have hW0 : WM l (n + 40) b (T + 1) (fun _ _ => 0) (st2 ++ List.replicate (T + 1) (Obj.lst (rowD (fun _ _ => 0) (T + 1) 0))) := by
    obtain ⟨a, b2, c, g1, g2, g3, g4, g5⟩ := hw2
    have hl := (List.getElem?_eq_some_iff.mp g1).1
    refine ⟨a, b2, c, by rw [List.getElem?_append_left hl]; exact g1, g2, g3, by omega, fun q hq => ?_⟩
    obtain ⟨t, ht, rfl⟩ := List.mem_map.mp (show q ∈ (List.range (T + 1)).map fun i => (b + i, Obj.lst (rowD (fun _ _ => 0) (T + 1) i)) from hq)
    have ht : t < T + 1 := by simpa using ht
    refine ⟨by show b + t ≠ l; omega, ?_⟩
    show (st2 ++ _)[b + t]? = _
    rw [List.getElem?_append_right (by omega), hb, Nat.add_sub_cancel_left, List.getElem?_replicate, if_pos ht]
    rfl
  generalize hls : (List.range (T + 1)).map (fun j => D.loc (b + j)) = ls
  have hli : ∀ i, i ≤ T → atI ls (i : Int) = some (.loc (b + i)) := fun i hi => by
    rw [← hls, atI_map (enc := fun j => D.loc (b + j)) 0 (by simp; omega), range_getD (by omega)]
  have hni : ∀ i, i ≤ T → atI (ns.map D.int) (i : Int) = some (.int (ns.getD i 0)) := fun i hi => atI_map 0 (by omega)
  generalize st2 ++ List.replicate (T + 1) (Obj.lst (rowD (fun _ _ => 0) (T + 1) 0)) = st3 at hW0 ⊢
  have hT2 : ((T : Int) + 1).toNat = T + 1 := by omega
  simp! only []
  refine ⟨⟨by unfold LIM; omega, by unfold LIM; omega⟩, ?_⟩
  rw [range0, hT2]
  refine forL_invL (fun (pre : List Nat) env st' => ∃ (M : Nat → Nat → Int) (s6 s7 s8 s9 s10 s11 s12 s13 : Sl), env = [.v (.loc l), .v (.int p), .v (.int m), .v (.lst (ns.map D.int)), .v (.int T), .v (.lst ls), s6, s7, s8, s9, s10, s11, s12, s13] ∧ Mat p (fun i => ns.getD i 0) T pre.length 0 pre.length M ∧ WM l (n + 40 + 100 * pre.length) b (T + 1) M st') ⟨_, _, _, _, _, _, _, _, _, rfl, Mat.zero, hW0⟩ ?_ ?_
  · rintro pre x post env st4 e ⟨M, s6, s7, s8, s9, s10, s11, s12, s13, rfl, hM, hW⟩
    obtain ⟨rfl, hx⟩ := range_at e
    generalize hk : pre.length = k at *
    have hkT : k ≤ T := by omega
    obtain ⟨b1, b2⟩ := hbi k hkT
    refine ⟨_, by simp! only []; rfl, ?_⟩
    have m1 : okMul p (ns.getD k 0) = true := okMul_of (by omega) (by omega) (by omega) (by omega)
    have m2 : okMul (p * ns.getD k 0) (ns.getD k 0 - 1) = true := okMul_abs (Nat.le_trans (abs_mul (A := 9) (B := 10 ^ 30) (by omega) (by omega)) (by decide +kernel)) (by omega)
    have eown : p * ns.getD k 0 * (ns.getD k 0 - 1) / 2 = ownI p (ns.getD k 0) := rfl
    obtain ⟨st5, hs5, hW5⟩ := hW.sub (i := k) (j := k) (v := ownI p (ns.getD k 0)) (env := [.v (.loc l), .v (.int p), .v (.int m), .v (.lst (ns.map D.int)), .v (.int T), .v (.lst ls), .v (.int k), s7, s8, s9, s10, s11, s12, s13]) (by omega) (by omega)
    simp! only [hni k hkT, hli k hkT, m1, m2, okd2, eown, hs5]
    refine ⟨⟨by unfold LIM; omega, by unfold LIM; omega⟩, ?_⟩
    rw [range0, Int.toNat_natCast]
    refine forL_invL (fun (pre2 : List Nat) env st' => ∃ (M : Nat → Nat → Int) (s7 s8 s9 s10 s11 s12 s13 : Sl), env = [.v (.loc l), .v (.int p), .v (.int m), .v (.lst (ns.map D.int)), .v (.int T), .v (.lst ls), .v (.int k), s7, s8, s9, s10, s11, s12, s13] ∧ Mat p (fun i => ns.getD i 0) T k pre2.length (k + 1) M ∧ WM l (n + 40 + 100 * k + 11 * pre2.length) b (T + 1) M st') ⟨_, _, _, _, _, _, _, _, rfl, hM.diag hkT, hW5⟩ ?_ ?_
    · rintro pre2 y post2 env st6 e2 ⟨M, s7, s8, s9, s10, s11, s12, s13, rfl, hM, hW⟩
      obtain ⟨rfl, hy⟩ := range_at e2
      generalize hj : pre2.length = j at *
      have hjT : j ≤ T := by omega
      obtain ⟨b3, b4⟩ := hbi j hjT
      have hpk : (p * ns.getD k 0).natAbs ≤ 9 * 10 ^ 30 := abs_mul (by omega) (by omega)
      have m3 : okMul (p * ns.getD k 0) (ns.getD j 0) = true := okMul_abs (Nat.le_trans hpk (by decide +kernel)) (by omega)
      have hw0 : 0 ≤ p * ns.getD k 0 * ns.getD j 0 := Int.mul_nonneg (Int.mul_nonneg (by omega) (by omega)) (by omega)
      have hw8 : p * ns.getD k 0 * ns.getD j 0 ≤ 10 ^ 80 := by
        have := abs_mul hpk (show (ns.getD j 0).natAbs ≤ 10 ^ 30 by omega)
        omega
      refine ⟨_, by simp! only []; rfl, ?_⟩
      simp! only [hni k hkT, hni j hjT, m1, m3]
      refine (hs (fM b (T + 1) M) l _ _ st6 hW (by omega) hw0 hw8).mono ?_
      rintro _ st7 ⟨v, rfl, hv0, hv1, hW7⟩
      have hW7 : WM l (n + 40 + 100 * k + 11 * j + 10) b (T + 1) M st7 := hW7
      -- the end of the turn
      have done : ∀ (a : Int) (st' : Store) (t7 t9 t12 t13 : Sl), 0 ≤ a → 0 ≤ p * ns.getD k 0 * ns.getD j 0 - a → (k = T → ns.getD j 0 ∣ rowS M (T + 1) j + (p * ns.getD k 0 * ns.getD j 0 - a)) → WM l (n + 40 + 100 * k + 11 * j + 11) b (T + 1) M st' →
          ∃ st8, subV (.loc (b + k)) (.int j) (.int a) [.v (.loc l), .v (.int p), .v (.int m), .v (.lst (ns.map D.int)), .v (.int T), .v (.lst ls), .v (.int k), t7, .v (.int j), t9, .v (.int (p * ns.getD k 0 * ns.getD j 0)), .v (.int a), t12, t13] st' = .nx [.v (.loc l), .v (.int p), .v (.int m), .v (.lst (ns.map D.int)), .v (.int T), .v (.lst ls), .v (.int k), t7, .v (.int j), t9, .v (.int (p * ns.getD k 0 * ns.getD j 0)), .v (.int a), t12, t13] st8 ∧
          ∃ st9, subV (.loc (b + j)) (.int k) (.int (p * ns.getD k 0 * ns.getD j 0 - a)) [.v (.loc l), .v (.int p), .v (.int m), .v (.lst (ns.map D.int)), .v (.int T), .v (.lst ls), .v (.int k), t7, .v (.int j), t9, .v (.int (p * ns.getD k 0 * ns.getD j 0)), .v (.int a), t12, t13] st8 = .nx [.v (.loc l), .v (.int p), .v (.int m), .v (.lst (ns.map D.int)), .v (.int T), .v (.lst ls), .v (.int k), t7, .v (.int j), t9, .v (.int (p * ns.getD k 0 * ns.getD j 0)), .v (.int a), t12, t13] st9 ∧
          ∃ (M : Nat → Nat → Int) (s7 s8 s9 s10 s11 s12 s13 : Sl), [Sl.v (.loc l), .v (.int p), .v (.int m), .v (.lst (ns.map D.int)), .v (.int T), .v (.lst ls), .v (.int k), t7, .v (.int j), t9, .v (.int (p * ns.getD k 0 * ns.getD j 0)), .v (.int a), t12, t13] = [.v (.loc l), .v (.int p), .v (.int m), .v (.lst (ns.map D.int)), .v (.int T), .v (.lst ls), .v (.int k), s7, s8, s9, s10, s11, s12, s13] ∧ Mat p (fun i => ns.getD i 0) T k (pre2 ++ [j]).length (k + 1) M ∧ WM l (n + 40 + 100 * k + 11 * (pre2 ++ [j]).length) b (T + 1) M st9 := by
        intro a st' t7 t9 t12 t13 ha hb2 hdv hW'
        obtain ⟨st8, hs8, hW8⟩ := hW'.sub (i := k) (j := j) (v := a) (env := [.v (.loc l), .v (.int p), .v (.int m), .v (.lst (ns.map D.int)), .v (.int T), .v (.lst ls), .v (.int k), t7, .v (.int j), t9, .v (.int (p * ns.getD k 0 * ns.getD j 0)), .v (.int a), t12, t13]) (by omega) (by omega)
        obtain ⟨st9, hs9, hW9⟩ := hW8.sub (i := j) (j := k) (v := p * ns.getD k 0 * ns.getD j 0 - a) (env := [.v (.loc l), .v (.int p), .v (.int m), .v (.lst (ns.map D.int)), .v (.int T), .v (.lst ls), .v (.int k), t7, .v (.int j), t9, .v (.int (p * ns.getD k 0 * ns.getD j 0)), .v (.int a), t12, t13]) (by omega) (by omega)
        refine ⟨st8, hs8, st9, hs9, _, _, _, _, _, _, _, _, rfl, ?_, hW9.up (by simp; omega)⟩
        rw [List.length_append, List.length_singleton, hj]
        exact hM.pair hkT hy (by omega) ha hb2 hdv
      by_cases hkk : k = T
      · have hkk2 : ((k : Int) = (T : Int)) = True := by simp; omega
        have hwn : ns.getD k 0 = 1 := by rw [hkk]; exact hlast
        simp! only [hkk2, decide_true, hli j hjT, hW7.sum (show j < T + 1 by omega), hni j hjT, okDiv_of (show 0 < ns.getD j 0 by omega) (show ns.getD j 0 ≤ 10 ^ 50 by omega)]
        refine (hd (fM b (T + 1) M) l _ p st7 hW7 (by omega) (by omega) (by omega)).mono ?_
        rintro _ st8 ⟨d, rfl, hd0, hd1, hW8⟩
        have hW8 : WM l (n + 40 + 100 * k + 11 * j + 11) b (T + 1) M st8 := hW8
        have m4 : okMul (ns.getD j 0) d = true := okMul_of (by omega) (by omega) (by omega) (by omega)
        obtain ⟨c1, c2, c3⟩ := fair_adj (S := rowS M (T + 1) j) (nn := ns.getD j 0) (d := d) (w := p * ns.getD k 0 * ns.getD j 0) (p := p) (by omega) (by rw [hwn]) hd0 hd1
        simp! only [m4]
        obtain ⟨st9, q1, st10, q2, q3⟩ := done _ st8 s7 s9 s12 (.v (.int ((0 - rowS M (T + 1) j) % ns.getD j 0))) c1 c2 (fun _ => c3) hW8
        simp! only [hli k hkT, hli j hjT, q1, q2]
        exact q3
      · have hkk2 : ((k : Int) = (T : Int)) = False := by simp; omega
        simp! only [hkk2, decide_false]
        obtain ⟨st9, q1, st10, q2, q3⟩ := done v st7 s7 s9 s12 s13 hv0 (by omega) (fun z => absurd z hkk) (hW7.up (by omega))
        simp! only [hli k hkT, hli j hjT, q1, q2]
        exact q3
    · rintro env st6 ⟨M, s7, s8, s9, s10, s11, s12, s13, rfl, hM, hW⟩
      rw [List.length_range] at hM hW
      refine ⟨M, _, _, _, _, _, _, _, _, rfl, ?_, hW.up (by simp; omega)⟩
      rw [List.length_append, List.length_singleton, hk]
      exact hM.row
  · rintro env st4 ⟨M, s6, s7, s8, s9, s10, s11, s12, s13, rfl, hM, hW⟩
    rw [List.length_range] at hM hW
    have hF := hM.fair
    simp! only []
    refine (hnm (fM b (T + 1) M) l _ _ st4 hW (by omega) (by omega) (by omega)).mono ?_
    rintro _ st5 ⟨nm, rfl, hnml, hok, hnd, hW5⟩
    simp! only []
    refine (hx (fM b (T + 1) M) l _ _ st5 hW5 (by omega) (by omega) (by omega)).mono ?_
    rintro _ st6 ⟨perm, rfl, hperm, hW6⟩
    have hW6 : WM l (n + 40 + 100 * (T + 1) + 200 + 20) b (T + 1) M st6 := hW6
    rw [hT2] at hperm
    have hmem : ∀ i ∈ perm, i < T + 1 := fun i hi => by simpa using hperm.mem_iff.mp hi
    have hplen : perm.length = T + 1 := by rw [hperm.length_eq, List.length_range]
    generalize hps : ((List.range (T + 1)).map fun i => (ns.getD i 0, rowS M (T + 1) i / ns.getD i 0)) = ps
    have hpsl : ps.length = T + 1 := by rw [← hps]; simp
    have hpsi : ∀ i, i < T + 1 → ps.getD i (0, 0) = (ns.getD i 0, rowS M (T + 1) i / ns.getD i 0) := fun i hi => by
      rw [← hps, List.getD_eq_getElem?_getD, List.getElem?_map, List.getElem?_range hi]; rfl
    simp! only []
    rw [comp_mapL (enc := natD) (g := fun i => encR (rowOf nm ps i)) perm (lim_ge (by omega)) fun i hi => by
      have hi2 := hmem i hi
      have i1 : atI (nm.map D.str) (i : Int) = some (.str (nm.getD i [])) := atI_map [] (by omega)
      have i3 : encR (rowOf nm ps i) = .tup [.str (nm.getD i []), .int (ns.getD i 0), .int (rowS M (T + 1) i / ns.getD i 0)] := by
        unfold rowOf encR
        rw [hpsi i hi2]
      obtain ⟨b1, b2⟩ := hbi i (by omega)
      apply OP_eq
      simp! only [turnV_eq, natD, i1, hni i (by omega), hli i (by omega), hW6.sum hi2, okDiv_of (show 0 < ns.getD i 0 by omega) (show ns.getD i 0 ≤ 10 ^ 50 by omega), i3]]
    simp! only []
    have hn0 : ∀ i < T + 1, (0 : Int) ≤ (fun i => ns.getD i 0) i := fun i hi => by have := hbi i (by omega); show 0 ≤ ns.getD i 0; omega
    have hpairs : ∀ q ∈ ps, PairOk q := fun q hq => by
      rw [← hps] at hq
      obtain ⟨i, hi, rfl⟩ := List.mem_map.mp hq
      have hi : i < T + 1 := by simpa using hi
      obtain ⟨b1, b2⟩ := hbi i (by omega)
      obtain ⟨r1, r2⟩ := hF.row_le (by omega) hn0 hi
      have hsum : sumL (fun i => ns.getD i 0) (List.range (T + 1)) ≤ 6 * 10 ^ 30 := by
        have h1 : sumL (fun i => ns.getD i 0) (List.range (T + 1)) ≤ sumL (fun _ => 10 ^ 30) (List.range (T + 1)) := sumL_le fun i hi => (hbi i (by have := List.mem_range.mp hi; omega)).2
        have h2 : sumL (fun _ => (10 : Int) ^ 30) (List.range (T + 1)) = (T + 1 : Int) * 10 ^ 30 := by
          unfold sumL
          rw [List.map_const', List.sum_replicate_int, List.length_range]; simp
        rw [h2] at h1
        have : ((T : Int) + 1) * 10 ^ 30 ≤ 6 * 10 ^ 30 := Int.mul_le_mul_of_nonneg_right (by omega) (by decide)
        omega
      have hps2 : p * sumL (fun i => ns.getD i 0) (List.range (T + 1)) ≤ 9 * (6 * 10 ^ 30) := Int.mul_le_mul h9 hsum (sumL_nn fun i hi => hn0 i (by simpa using hi)) (by decide)
      have r3 : rowS M (T + 1) i ≤ ns.getD i 0 * (9 * (6 * 10 ^ 30)) := Int.le_trans r2 (Int.mul_le_mul_of_nonneg_left hps2 (by omega))
      refine ⟨b1, b2, Int.ediv_nonneg r1 (by omega), ?_⟩
      have := Int.ediv_le_of_le_mul (show 0 < ns.getD i 0 by omega) (show rowS M (T + 1) i ≤ (9 * (6 * 10 ^ 30)) * ns.getD i 0 by rw [Int.mul_comm]; exact r3)
      show rowS M (T + 1) i / ns.getD i 0 ≤ 10 ^ 32
      omega
    have hfl := fair_lack hF (by omega) hn0 hperm (g := rowOf nm ps) fun i hi => by
      have e1 : (rowOf nm ps i).num = ns.getD i 0 := by unfold rowOf; rw [hpsi i hi]
      have e2 : (rowOf nm ps i).sc = rowS M (T + 1) i / ns.getD i 0 := by unfold rowOf; rw [hpsi i hi]
      refine ⟨e1, ?_⟩
      rw [e1, e2]
      apply Int.mul_ediv_cancel'
      by_cases e : i = T
      · subst e; rw [hlast]; exact ⟨_, (Int.one_mul _).symm⟩
      · exact hM.div (by omega)
    exact ⟨perm.map (rowOf nm ps), by rw [List.map_map]; rfl, rowsOf_ok hnd hok (by omega) hpsl hpairs (by omega) (by omega) hperm, by simp; omega, ⟨hfl, rowsOf_s hpairs fun i hi => by rw [hpsl]; exact hmem i hi⟩, hW6.wl.up (by omega)⟩
end
end G
set_option hygiene false in
local macro_rules | `(tactic| simp! only [$ls,*]) => `(tactic| simp only [seval, G.OP_ok, G.OP_bad, G.OP_bind, G.O_of_some, G.O_of_none, G.OP_of_ite, G.OP_ite, G.RP_ite, ↓G.OP_ite_bad, ↓G.RP_ite_bad, G.RP_nx, G.RP_rt, G.RP_bk, G.RP_ct, G.RP_bad, G.RP_run, G.RP_seqR, G.RP_seq, G.RP_pass, G.RP_brk, G.RP_cont, G.RP_ret0, G.RP_badS, G.RP_ret, G.RP_ex, G.RP_nm, G.RP_own, G.ownR_lst, G.RP_if, G.RP_tg, G.RP_par, G.RP_asgn, G.RP_unp, G.RP_for, G.RP_app, G.RP_frz, G.RP_aug, G.aug_add, G.aug_sub, G.ofPut_some, G.putO_nil, G.putO_v, G.putO_o, G.setAll_nil, G.setAll_cons, G.nmT_eq, G.osubR_eq, G.RP_fld, G.val_k, G.val_v, G.val_pk, G.val_op, G.val_neg, G.val_no, G.val_ife, G.val_tup, G.val_lst, G.val_new, G.val_bi, G.val_call, G.val_callK, G.val_mk, G.val_mkK, G.val_mkc, G.get_c, G.val_cm, G.val_isi, G.val_at, G.val_has, G.val_lenO, G.val_strO, G.val_boolO, G.val_ls, G.lsV_lst, G.val_up, G.upD_str, G.val_d0, G.val_d1, G.d1_str, G.val_ch, G.val_split, G.val_join, G.val_fmt, G.val_joined, G.val_cons, G.val_bop, G.val_sl, G.val_lc, G.tst_k, G.tst_v, G.tst_op, G.tst_bi, G.tst_call, G.tst_isi, G.tst_ch, G.tst_has, G.tst_boolO, G.tst_at, G.tst_me, G.tst_no, G.tst_bop, G.tst_ife, G.bopV_one, G.bopV_cons, G.bopT_one, G.bopT_cons, G.args_nil, G.args_cons, G.joinedV_nil, G.joinedV_cons, G.optV_none, G.optV_one, G.optI_int, G.itm_v, G.itm_pk, G.itm_op, G.itm_call, G.itm_at, G.itm_sl, G.itm_lst, G.itm_tup, G.itm_lc, G.itm_rng, G.itm_enum, G.itm_zip, G.rng1, G.vw_int, G.vw_str, G.vw_tup, G.vw_lst, G.vw_bl, G.vw_non, G.add_int, G.add_str, G.add_tup, G.add_lst, G.sub_int, G.mul_int, G.fdiv_int, G.mod_int, G.lt_int, G.le_int, G.gt_int, G.ge_int, G.eq_int, G.ne_int, G.eq_str, G.ne_str, G.is_non, G.isnot_non, G.is_tup, G.isnot_tup, G.is_int, G.isnot_int, G.mem_chr, G.nmem_chr, G.idx_str, G.idx_tup, G.idx_lst, G.idx_fl, G.tr_bl, G.tr_int, G.tr_non, G.tr_str, G.tr_tup, G.tr_lst, G.neg_int, G.sf_tup, G.sf_lst, G.si_tup, G.si_lst, G.si_str, G.sv_tup, G.sv_lst, G.sv_fl, G.len_str, G.len_tup, G.len_lst, G.len_fl, G.int_int, G.int_bl, G.int_str, G.str_int, G.str_str, G.abs_int, G.bool_bl, G.min_int, G.max_int, G.divmod_int, G.tuple_lst, G.tuple_tup, G.list_lst, G.list_tup, G.sl_str, G.sl_tup, G.sl_lst, G.sl_fl, G.fmt_str, G.fmt_int, G.cons_lst, G.lv_lst, G.atI_zero, G.atI_one, G.atI_two, G.atI_three, G.not_f, G.not_t, G.testsV_nil, G.testsV_one, G.get_v, G.get_s, G.pk_v, G.pk_o, G.pk_s, G.ix_z, G.ix_s, G.set_z, G.set_s, G.wipe_nil, G.wipe_cons, G.setPt_nm, G.setPt_tp, G.setPt_tx, G.setPt_tl, G.setPts_nil, G.setPts_cons, G.ob_some, G.om_some, G.dt_eq, G.df_eq, G.bn_eq, G.bf_eq, G.ne0, G.len_nil, G.len_cons, G.map_nil', G.map_cons', G.rep_z, G.rep_s, G.app_nil, G.app_cons, G.ft_eq, G.tf_eq, G.t_imp, G.f_imp, G.n_t, G.n_f, G.a_t, G.t_a, G.a_f, G.f_a, G.i_t, G.e_s, G.it_t, G.it_f, G.nn, G.n_sub, G.RP_sub, G.ixN30, G.ixN31, G.ixN32, G.lt_int', G.setD_z, G.setD_s, G.isi_int_int, G.isi_int_bool, G.isi_str_str, G.isi_tup_tup, G.RP_fldV, G.pow6, G.pow9, G.pow15, G.pow16, G.pow17, G.pow18, G.pow30, G.pow33, G.lt_ints, G.lt_nil, G.val_sortK, G.itm_sortK, G.val_lrng, G.val_eqO, G.tst_eqO, G.val_index, G.val_count, G.val_tindex, G.isTp_tup, G.val_lc2, G.itm_lc2, G.isLs_lst, G.RP_ins, G.pow64, G.pow32, G.val_nw, G.newO_lst, $ls,*])
namespace G
section
variable {Γ : Ctx} {fd ff fb ft fright fwell : Fd} {Q : Int → List Row → Prop}
def SpGreat (f : Fd) : Prop := ∀ (l n : Nat) (p m : Int) (st : Store), Wl l n st → n + 3000 ≤ 1000000000 → 1 ≤ p → p ≤ 9 → 2 ≤ m → m ≤ 6 → OP (fun r st' => ∃ rs : List Row, r = .lst (rs.map encR) ∧ RowsOk rs ∧ (rs.length : Int) ≤ m ∧ ScS rs ∧ Wl l (n + 3000) st') (f [.loc l, .int p, .int m] st)
theorem sp_great (hd : SpDip fd) (hf : SpDrawn ff 1 fun p rs => (lackI p rs = 0 ∧ spareI p rs = 0) ∧ ScS rs) (hb : SpBent fb) (ht : SpDrawn ft 0 fun _ rs => ScS rs) : SpGreat (runF 3 4 (m_great Γ fd ff fb ft)) := by
  intro l n p m st hw hn h1 h9 hm hm6
  refine OP_run rfl ?_
  delta m_great
  simp! only []
  refine (hd l n 4 st hw (by omega) (by omega) (by omega)).mono ?_
  rintro _ st1 ⟨k, rfl, hk0, hk1, hw1⟩
  have ea : 0 < m := by omega
  simp! only []
  refine ⟨fun h0 => ?_, fun h0 => ⟨fun h0 => ?_, fun h0 => ?_⟩⟩
  · refine (hf l _ p (m - 1) st1 hw1 (by omega) h1 h9 (by omega) (by omega)).mono ?_
    rintro _ st2 ⟨rs, rfl, hrs, hl, ⟨_, hsc⟩, hw2⟩
    exact ⟨rs, rfl, hrs, by omega, hsc, hw2.up (by omega)⟩
  · refine (hf l _ p (m - 1) st1 hw1 (by omega) h1 h9 (by omega) (by omega)).mono ?_
    rintro _ st2 ⟨rs, rfl, hrs, hl, ⟨_, hsc⟩, hw2⟩
    simp! only []
    refine (hb l _ rs st2 hw2 (by omega) hrs hsc).mono ?_
    rintro _ st3 ⟨rs', rfl, hrs', hl', hsc', hw3⟩
    exact ⟨rs', rfl, hrs', by omega, hsc', hw3.up (by omega)⟩
  · refine (ht l _ p m st1 hw1 (by omega) h1 h9 (by omega) (by omega)).mono ?_
    rintro _ st2 ⟨rs, rfl, hrs, hl, hsc, hw2⟩
    simp! only []
    refine (hb l _ rs st2 hw2 (by omega) hrs hsc).mono ?_
    rintro _ st3 ⟨rs', rfl, hrs', hl', hsc', hw3⟩
    exact ⟨rs', rfl, hrs', by omega, hsc', hw3.up (by omega)⟩
end
theorem lackI_le {p L : Int} {rs : List Row} (hL : 0 ≤ L) (H : ∀ l : List Nat, l.Nodup → (∀ i ∈ l, i < rs.length) → ownI p (numS rs l) - scS rs l ≤ L) : lackI p rs ≤ L := by
  rcases lackR_is p rs with ⟨e, _⟩ | ⟨_, e, hp⟩
  · omega
  · rw [e]
    exact H _ ((ordL_nodup rs).sublist hp.sublist) fun i hi => ordL_mem.mp (hp.subset hi)
theorem lackI_at (p : Int) (rs : List Row) : ∃ l : List Nat, l.Nodup ∧ (∀ i ∈ l, i < rs.length) ∧ lackI p rs = ownI p (numS rs l) - scS rs l := by
  rcases lackR_is p rs with ⟨e, e2⟩ | ⟨_, e, hp⟩
  · exact ⟨[], .nil, by simp, by rw [e]; simp [numS, scS, sumL, own_zero]⟩
  · exact ⟨_, (ordL_nodup rs).sublist hp.sublist, fun i hi => ordL_mem.mp (hp.subset hi), e⟩
end G
set_option hygiene false in
local macro_rules | `(tactic| simp! only [$ls,*]) => `(tactic| simp only [seval, G.OP_ok, G.OP_bad, G.OP_bind, G.O_of_some, G.O_of_none, G.OP_of_ite, G.OP_ite, G.RP_ite, ↓G.OP_ite_bad, ↓G.RP_ite_bad, G.RP_nx, G.RP_rt, G.RP_bk, G.RP_ct, G.RP_bad, G.RP_run, G.RP_seqR, G.RP_seq, G.RP_pass, G.RP_brk, G.RP_cont, G.RP_ret0, G.RP_badS, G.RP_ret, G.RP_ex, G.RP_nm, G.RP_own, G.ownR_lst, G.RP_if, G.RP_tg, G.RP_par, G.RP_asgn, G.RP_unp, G.RP_for, G.RP_app, G.RP_frz, G.RP_aug, G.aug_add, G.aug_sub, G.ofPut_some, G.putO_nil, G.putO_v, G.putO_o, G.setAll_nil, G.setAll_cons, G.nmT_eq, G.osubR_eq, G.RP_fld, G.val_k, G.val_v, G.val_pk, G.val_op, G.val_neg, G.val_no, G.val_ife, G.val_tup, G.val_lst, G.val_new, G.val_bi, G.val_call, G.val_callK, G.val_mk, G.val_mkK, G.val_mkc, G.get_c, G.val_cm, G.val_isi, G.val_at, G.val_has, G.val_lenO, G.val_strO, G.val_boolO, G.val_ls, G.lsV_lst, G.val_up, G.upD_str, G.val_d0, G.val_d1, G.d1_str, G.val_ch, G.val_split, G.val_join, G.val_fmt, G.val_joined, G.val_cons, G.val_bop, G.val_sl, G.val_lc, G.tst_k, G.tst_v, G.tst_op, G.tst_bi, G.tst_call, G.tst_isi, G.tst_ch, G.tst_has, G.tst_boolO, G.tst_at, G.tst_me, G.tst_no, G.tst_bop, G.tst_ife, G.bopV_one, G.bopV_cons, G.bopT_one, G.bopT_cons, G.args_nil, G.args_cons, G.joinedV_nil, G.joinedV_cons, G.optV_none, G.optV_one, G.optI_int, G.itm_v, G.itm_pk, G.itm_op, G.itm_call, G.itm_at, G.itm_sl, G.itm_lst, G.itm_tup, G.itm_lc, G.itm_rng, G.itm_enum, G.itm_zip, G.rng1, G.vw_int, G.vw_str, G.vw_tup, G.vw_lst, G.vw_bl, G.vw_non, G.add_int, G.add_str, G.add_tup, G.add_lst, G.sub_int, G.mul_int, G.fdiv_int, G.mod_int, G.lt_int, G.le_int, G.gt_int, G.ge_int, G.eq_int, G.ne_int, G.eq_str, G.ne_str, G.is_non, G.isnot_non, G.is_tup, G.isnot_tup, G.is_int, G.isnot_int, G.mem_chr, G.nmem_chr, G.idx_str, G.idx_tup, G.idx_lst, G.idx_fl, G.tr_bl, G.tr_int, G.tr_non, G.tr_str, G.tr_tup, G.tr_lst, G.neg_int, G.sf_tup, G.sf_lst, G.si_tup, G.si_lst, G.si_str, G.sv_tup, G.sv_lst, G.sv_fl, G.len_str, G.len_tup, G.len_lst, G.len_fl, G.int_int, G.int_bl, G.int_str, G.str_int, G.str_str, G.abs_int, G.bool_bl, G.min_int, G.max_int, G.divmod_int, G.tuple_lst, G.tuple_tup, G.list_lst, G.list_tup, G.sl_str, G.sl_tup, G.sl_lst, G.sl_fl, G.fmt_str, G.fmt_int, G.cons_lst, G.lv_lst, G.atI_zero, G.atI_one, G.atI_two, G.atI_three, G.not_f, G.not_t, G.testsV_nil, G.testsV_one, G.get_v, G.get_s, G.pk_v, G.pk_o, G.pk_s, G.ix_z, G.ix_s, G.set_z, G.set_s, G.wipe_nil, G.wipe_cons, G.setPt_nm, G.setPt_tp, G.setPt_tx, G.setPt_tl, G.setPts_nil, G.setPts_cons, G.ob_some, G.om_some, G.dt_eq, G.df_eq, G.bn_eq, G.bf_eq, G.ne0, G.len_nil, G.len_cons, G.map_nil', G.map_cons', G.rep_z, G.rep_s, G.app_nil, G.app_cons, G.ft_eq, G.tf_eq, G.t_imp, G.f_imp, G.n_t, G.n_f, G.a_t, G.t_a, G.a_f, G.f_a, G.i_t, G.e_s, G.it_t, G.it_f, G.nn, G.n_sub, G.RP_sub, G.ixN30, G.ixN31, G.ixN32, G.lt_int', G.setD_z, G.setD_s, G.isi_int_int, G.isi_int_bool, G.isi_str_str, G.isi_tup_tup, G.RP_fldV, G.pow6, G.pow9, G.pow15, G.pow16, G.pow17, G.pow18, G.pow30, G.pow33, G.lt_ints, G.lt_nil, G.val_sortK, G.itm_sortK, G.val_lrng, G.val_eqO, G.tst_eqO, G.val_index, G.val_count, G.val_tindex, G.isTp_tup, G.val_lc2, G.itm_lc2, G.isLs_lst, G.RP_ins, $ls,*])
namespace G
section
variable {Γ : Ctx} {fright fwell : Fd}
def lawS (M : Int) (p0 p1 : Fd) : StS := seqS (forS (.nm 1) (rngE [biE .max [kE (.int 2), biE .min [biE .len [vE 0], kE (.int M)]]]) (seqS (ifS (Sem.no (callE p0 [callE p1 [vE 0, vE 1]])) (seqS (retS (kE (.bl false))) (passS)) (passS)) (passS))) (seqS (retS (kE (.bl true))) (passS))
theorem sp_lawN (M : Int) (hM : 2 ≤ M ∧ M ≤ 8) (hr : SpRight fright) (hw : SpWell fwell) : SpLaw (runF 1 2 (lawS M fright fwell)) := by
  intro ns st hl
  refine OP_run rfl ?_
  delta lawS
  simp! only [List.length_map]
  generalize ht : (if (if M < ns.length then M else ns.length) > 2 then (if M < ns.length then M else ns.length) else (2 : Int)) = t
  have ht2 : 0 ≤ t ∧ t ≤ 8 := by subst ht; split <;> split <;> omega
  refine ⟨⟨by unfold LIM; omega, by unfold LIM; omega⟩, ?_⟩
  rw [range0]
  refine forL_invL (fun (pre : List Nat) env st' => ∃ s1, env = [.v (.fl (ns.map .int)), s1]) ⟨_, rfl⟩ ?_ ?_
  · rintro pre k post env st' e ⟨s1, rfl⟩
    obtain ⟨rfl, hk⟩ := range_at e
    refine ⟨_, by simp! only []; rfl, ?_⟩
    simp! only []
    refine (hw ns pre.length st' hl (by omega)).mono ?_
    rintro _ st1 ⟨l, rfl, hw1⟩
    refine (hr l st1 hw1).mono ?_
    rintro _ st2 rfl
    simp! only []
    exact ⟨_, rfl⟩
  · rintro env st' ⟨s1, rfl⟩
    simp! only []
theorem sp_lawK3 (hr : SpRight fright) (hw : SpWell fwell) : SpLaw (runF 1 2 (m_law_k08 Γ fright fwell)) := sp_lawN 3 (by omega) hr hw
end
end G
namespace G
structure LOk (ls : List LRow) : Prop where
  l1 : 1 ≤ ls.length
  l6 : ls.length ≤ 6
  nm : ∀ r ∈ ls, isNameS r.nm = true
  ok : ∀ r ∈ ls, LRowB r
  nd : (ls.map (·.nm)).Nodup
theorem LOk.b {ls : List LRow} (h : LOk ls) : LRowsB ls := ⟨by have := h.l6; omega, h.ok⟩
theorem isLRow_enc {r : LRow} (h : isNameS r.nm = true) (hb : LRowB r) : isLRowD (encW r) = true := by
  have := hb.n1; have := hb.n2; have := hb.l1; have := hb.l2; have := hb.h1; have := hb.h2
  show (isNameD (.str r.nm) && (withinD (.int r.num) 1 (10 ^ 30) && (withinD (.int r.lo) 0 (10 ^ 33) && withinD (.int r.hi) 0 (10 ^ 33)))) = true
  rw [show isNameD (.str r.nm) = true from h, show withinD (.int r.num) 1 (10 ^ 30) = true from decide_eq_true ⟨by omega, by omega⟩, show withinD (.int r.lo) 0 (10 ^ 33) = true from decide_eq_true ⟨by omega, by omega⟩, show withinD (.int r.hi) 0 (10 ^ 33) = true from decide_eq_true ⟨by omega, by omega⟩]
  rfl
theorem wrongG_none : ∀ (ls : List LRow) (k : Nat) (ns : List (List Nat)), (∀ r ∈ ls, isNameS r.nm = true ∧ LRowB r) → (ns ++ ls.map (·.nm)).Nodup → k + ls.length ≤ 6 → wrongG isLRowD k ns (ls.map encW) = none
  | [], _, _, _, _, _ => rfl
  | r :: ls, k, ns, h, hn, hl => by
    have hr := h r (by simp)
    have en : nameOf (encW r) = r.nm := rfl
    rw [List.map_cons]
    unfold wrongG
    rw [en]
    have hnot : ¬ r.nm ∈ ns := fun hm => by
      rw [List.nodup_append] at hn
      exact hn.2.2 _ hm _ (by simp) rfl
    simp only [List.length_cons] at hl
    rw [if_pos ⟨isLRow_enc hr.1 hr.2, hnot, by omega⟩]
    exact wrongG_none ls (k + 1) (ns ++ [r.nm]) (fun x hx => h x (by simp [hx])) (by simpa using hn) (by omega)
theorem lok_wrong {ls : List LRow} (h : LOk ls) : wrongG isLRowD 0 [] (ls.map encW) = none := wrongG_none ls 0 [] (fun r hr => ⟨h.nm r hr, h.ok r hr⟩) (by simpa using h.nd) (by have := h.l6; omega)
def SpChkLoose (f : Fd) : Prop := ∀ ls st, LOk ls → f [.tup (ls.map encW)] st = .ok .non st
theorem encW_plain {ls : List LRow} : (ls.map encW).all plain2 = true := by
  rw [List.all_map, List.all_eq_true]
  exact fun r _ => rfl
section
variable {Γ : Ctx} {c : Nat} {f g fp fc fr fo fw fs fe : Fd}
theorem sp_chkLoose {x : Nat} (hf : SpWrongG isLRowD f) : SpChkLoose (runF 1 2 (m_check_rows Γ x f)) := by
  intro ls st h
  have e1 : ¬ ((ls.map encW).length : Int) = 0 := by rw [List.length_map]; have := h.l1; omega
  apply OP_eq
  refine OP_run rfl ?_
  delta m_check_rows
  simp! only [e1, decide_false, (hf _ _ encW_plain).1, lok_wrong h, optN]
def optF : Option (List Row) → D
  | none => .non
  | some L => .tup (L.map encR)
def IsFilled (p : Int) (ls : List LRow) (o : Option (List Row)) : Prop := FilledV p ls (optF o)
theorem last_uniq {ls : List LRow} (hb : ∀ r ∈ ls, LRowB r) {w s t : Int} (h1 : LastP ls w s) (h2 : LastP ls w t) : s = t := by
  have key : ∀ {s t : Int}, LastP ls w s → LastP ls w t → ¬ s < t := fun {s t} h1 h2 h => by
    have h3 := h2.s1
    have h4 := h1.gt (by omega)
    have h5 := totI_mono hb (s := s + 1) (t := t) (by omega)
    have := h2.le
    omega
  have := key h1 h2
  have := key h2 h1
  omega
theorem filled_uniq {p : Int} {ls : List LRow} (hb : ∀ r ∈ ls, LRowB r) {r t : D} (h1 : FilledV p ls r) (h2 : FilledV p ls t) : r = t := by
  unfold FilledV at h1 h2
  split at h1
  · rename_i h; rw [if_pos h] at h2; rw [h1, h2]
  · rename_i h
    rw [if_neg h] at h2
    split at h1
    · rename_i h'; rw [if_pos h'] at h2; rw [h1, h2]
    · rename_i h'
      rw [if_neg h'] at h2
      obtain ⟨s, hs, e1⟩ := h1
      obtain ⟨t, ht, e2⟩ := h2
      have := last_uniq hb hs ht
      subst this
      rw [e1, e2]
theorem filled_opt {p : Int} {ls : List LRow} {r : D} (h : FilledV p ls r) : ∃ o, r = optF o ∧ IsFilled p ls o := by
  have key : ∃ o, r = optF o := by
    unfold FilledV at h
    split at h
    · exact ⟨none, h⟩
    · split at h
      · exact ⟨none, h⟩
      · obtain ⟨s, hs, e⟩ := h
        split at e
        · exact ⟨some _, e⟩
        · exact ⟨none, e⟩
  obtain ⟨o, rfl⟩ := key
  exact ⟨o, rfl, h⟩
def SpLPoss (f : Fd) : Prop := ∀ p ls o st, 1 ≤ p → p ≤ 9 → LOk ls → IsFilled p ls o → f [.int p, .tup (ls.map encW)] st = .ok (.bl o.isSome) st
def SpFill (f : Fd) : Prop := ∀ p ls o st, 1 ≤ p → p ≤ 9 → LOk ls → IsFilled p ls o → f [.int p, .tup (ls.map encW)] st = .ok (optF o) st
theorem fr_val (hr : SpFilledR fr) {p : Int} {ls : List LRow} {o : Option (List Row)} {st : Store} (h1 : 1 ≤ p) (h9 : p ≤ 9) (h : LOk ls) (ho : IsFilled p ls o) : fr [.int p, .tup (ls.map encW)] st = .ok (optF o) st := by
  obtain ⟨r, st', e, rfl, hv⟩ := OP_elim (hr p _ ls st h1 h9 (.inl rfl) h.b h.l1 (by have := h.l6; omega))
  rw [e, filled_uniq h.ok hv ho]
theorem filled_ex (hr : SpFilledR fr) {p : Int} {ls : List LRow} (st : Store) (h1 : 1 ≤ p) (h9 : p ≤ 9) (h : LOk ls) : ∃ o, IsFilled p ls o := by
  obtain ⟨r, st', e, _, hv⟩ := OP_elim (hr p _ ls st h1 h9 (.inl rfl) h.b h.l1 (by have := h.l6; omega))
  obtain ⟨o, _, ho⟩ := filled_opt hv
  exact ⟨o, ho⟩
theorem sp_lpossV (hp : SpChkPts fp) (hc : SpChkLoose fc) (hr : SpFilledR fr) : SpLPoss (runF 2 2 (m_loose_possible Γ fp fc fr)) := by
  intro p ls o st h1 h9 h ho
  have e3 : ∀ st, op2 .isnot st (optF o) .non = some (.bl o.isSome) := fun _ => by cases o <;> rfl
  apply OP_eq
  refine OP_run rfl ?_
  delta m_loose_possible
  simp! only [hp p _ h1 h9, hc ls _ h, fr_val hr h1 h9 h ho, e3]
theorem sp_fillV (hp : SpChkPts fp) (hc : SpChkLoose fc) (hr : SpFilledR fr) : SpFill (runF 2 2 (m_filled Γ fp fc fr)) := by
  intro p ls o st h1 h9 h ho
  apply OP_eq
  refine OP_run rfl ?_
  delta m_filled
  simp! only [hp p _ h1 h9, hc ls _ h, fr_val hr h1 h9 h ho]
theorem mem_pieces {r : LRow} {s more : Int} {q : Row} (h : q ∈ pieces r s more) : q.nm = r.nm ∧ 0 < q.num ∧ ((q.num = r.num - more ∧ q.sc = levI r s) ∨ (q.num = more ∧ q.sc = levI r s + 1)) := by
  unfold pieces at h
  obtain ⟨x, hx, rfl⟩ := List.mem_map.mp h
  obtain ⟨h1, h2⟩ := List.mem_filter.mp hx
  simp only [List.mem_cons, List.not_mem_nil, or_false] at h1
  have h2 := of_decide_eq_true h2
  rcases h1 with rfl | rfl
  · exact ⟨rfl, h2, .inl ⟨rfl, rfl⟩⟩
  · exact ⟨rfl, h2, .inr ⟨rfl, rfl⟩⟩
theorem levI_in {r : LRow} (h : r.lo ≤ r.hi) {s : Int} : r.lo ≤ levI r s ∧ levI r s ≤ r.hi := by
  unfold levI
  (repeat' split) <;> omega
theorem more_in {r : LRow} (h : r.lo ≤ r.hi) {s left : Int} (hm : 0 < moreI r s left) : levI r s + 1 ≤ r.hi := by
  unfold moreI at hm
  split at hm
  · rename_i h1
    unfold levI at h1 ⊢
    (repeat' split at h1) <;> (repeat' split) <;> omega
  · omega
end
end G
namespace G
section
variable {Γ : Ctx} {env : Env} {st : Store} {x y : Sem} {neg : Bool} {nx : Env → Store → Prop} {rt : D → Store → Prop} {bk ct : Env → Store → Prop}
theorem val_dic : dicE.val env st = .ok (.loc st.length) (st ++ [.dic false []]) := rfl
theorem val_dhas : (dhasE neg x y).val env st = (keyV x env st).bind fun u st => (y.val env st).bind fun v st => dhasV neg u v st := rfl
theorem tst_dhas : (dhasE neg x y).test env st = ((dhasE neg x y).val env st).bind fun u st => .of (truth st u) st := rfl
theorem keyV_eq : keyV x env st = (x.val env st).bind fun d st => if (keyL d).isSome = true then .ok d st else .bad := rfl
theorem RP_dput : @RP ⟨nx, rt, bk, ct⟩ (dputS x y env st) = @OPi _ ⟨fun u st => @OPi _ ⟨fun k st => @RP ⟨nx, rt, bk, ct⟩ (dputV u k env st)⟩ (keyV y env st)⟩ (x.val env st) := by
  unfold dputS
  rw [RP_run]
  have : (fun (a : D) (st : Store) => @RP ⟨nx, rt, bk, ct⟩ ((keyV y env st).run env fun k st => dputV a k env st)) = fun u st => @OPi _ ⟨fun k st => @RP ⟨nx, rt, bk, ct⟩ (dputV u k env st)⟩ (keyV y env st) := by
    funext u st
    rw [RP_run]
  rw [this]
theorem dhas_at {l : Nat} {z : Bool} {ks : List (List D)} {k : List D} {xs : List D} (hk : keyL (.tup xs) = some k) (h : st[l]? = some (.dic z ks)) : dhasV neg (.tup xs) (.loc l) st = .ok (.bl ((ks.any fun z => pyEqs z k) != neg)) st := by
  unfold dhasV
  rw [hk]
  show (match st[l]? with
    | some (.dic _ ks) => O.ok (D.bl ((ks.any fun z => pyEqs z k) != neg)) st
    | _ => .bad) = _
  rw [h]
theorem dput_at {l : Nat} {ks : List (List D)} {k : List D} {xs : List D} (hk : keyL (.tup xs) = some k) (h : st[l]? = some (.dic false ks)) (hl : ks.length < LIM) : dputV (.loc l) (.tup xs) env st = .nx env (st.set l (.dic false (putK ks k))) := by
  unfold dputV
  rw [hk]
  show (match st[l]? with
    | some (.dic false ks) => if ks.length < LIM then R.nx env (st.set l (.dic false (putK ks k))) else .bad
    | _ => .bad) = _
  rw [h]
  exact if_pos hl
end
section
variable {Γ : Ctx} {c : Nat} {f g fd fp fc fr fo fw fs fe fl fu fg : Fd}
/-- (index, number, score) -/
def encF (q : Nat × Int × Int) : D := .tup [.int q.1, .int q.2.1, .int q.2.2]
def rowF (q : Nat × Int × Int) : Row := ⟨[], q.2.1, q.2.2⟩
def SpEnough (f : Fd) : Prop := ∀ (p : Int) (F : List (Nat × Int × Int)) st, 1 ≤ p → p ≤ 9 → F.length ≤ 20 → (∀ q ∈ F, 0 ≤ q.2.1 ∧ q.2.1 ≤ 10 ^ 30 ∧ 0 ≤ q.2.2 ∧ q.2.2 ≤ 10 ^ 34) → lackI p (F.map rowF) = 0 → spareI p (F.map rowF) = 0 → f [.int p, .lst (F.map encF)] st = .ok (.bl true) st
theorem map_rng {α β : Type} (F : List α) (d : α) (h : α → β) : F.map h = (List.range F.length).map fun i => h (F.getD i d) := by
  apply List.ext_getElem
  · simp
  · intro i h1 h2
    have hi : i < F.length := by simpa using h1
    simp [List.getD_eq_getElem?_getD, List.getElem?_eq_getElem hi]
theorem sp_enough (ho : SpOwn fo) : SpEnough (runF 2 7 (m_enough Γ fo)) := by
  intro p F st h1 h9 hl hb hlack hspare
  let dz : Nat × Int × Int := (0, 0, 0)
  have nmA : ∀ i, i < F.length → nmI (F.map rowF) i = (F.getD i dz).2.1 := fun i hi => by
    unfold nmI
    rw [List.getElem?_map, List.getElem?_eq_getElem hi, List.getD_eq_getElem?_getD, List.getElem?_eq_getElem hi]; rfl
  have scA : ∀ i, i < F.length → scI (F.map rowF) i = (F.getD i dz).2.2 := fun i hi => by
    unfold scI
    rw [List.getElem?_map, List.getElem?_eq_getElem hi, List.getD_eq_getElem?_getD, List.getElem?_eq_getElem hi]; rfl
  have hn : ∀ i < (F.map rowF).length, 0 ≤ nmI (F.map rowF) i := fun i hi => by
    have hi : i < F.length := by simpa using hi
    rw [nmA i hi, List.getD_eq_getElem?_getD, List.getElem?_eq_getElem hi]
    exact (hb _ (List.getElem_mem hi)).1
  have hlen : (F.map rowF).length = F.length := by simp
  -- the sorted list
  have es : sortK (fun x => KX.val [.v (.int p), .v (.lst (F.map encF)), .v (.int 0), .v (.int 0), .em, .em, .em] x (.ix .p (.k 2))) (F.map encF) = some ((ordL (F.map rowF)).map fun i => encF (F.getD i dz)) := by
    have kv : ∀ q : Nat × Int × Int, KX.val [.v (.int p), .v (.lst (F.map encF)), .v (.int 0), .v (.int 0), .em, .em, .em] (encF q) (.ix .p (.k 2)) = some (.int q.2.2) := fun q => rfl
    unfold sortK
    rw [if_pos (by
      rw [List.all_map, List.all_eq_true]
      intro q _
      simp only [Function.comp_def, kv]
      rfl)]
    congr 1
    rw [map_rng F dz encF, ← List.map_mergeSort (f := fun i => encF (F.getD i dz)) (r := fun a b => decide (scI (F.map rowF) a ≤ scI (F.map rowF) b))]
    · unfold ordL
      rw [hlen]
    · intro a ha b hb
      have ha : a < F.length := by simpa using ha
      have hb : b < F.length := by simpa using hb
      rw [scA a ha, scA b hb]; rfl
  apply OP_eq
  refine OP_run rfl ?_
  delta m_enough
  simp! only [es]
  have ordm : ∀ i ∈ ordL (F.map rowF), i < F.length := fun i hi => by rw [← hlen]; exact ordL_mem.mp hi
  have bF : ∀ i, i < F.length → 0 ≤ (F.getD i dz).2.1 ∧ (F.getD i dz).2.1 ≤ 10 ^ 30 ∧ 0 ≤ (F.getD i dz).2.2 ∧ (F.getD i dz).2.2 ≤ 10 ^ 34 := fun i hi => by
    rw [List.getD_eq_getElem?_getD, List.getElem?_eq_getElem hi]
    exact hb _ (List.getElem_mem hi)
  have nb : ∀ l : List Nat, (∀ i ∈ l, i < F.length) → 0 ≤ numS (F.map rowF) l ∧ numS (F.map rowF) l ≤ l.length * 10 ^ 30 := fun l => by
    induction l with
    | nil => intro _; exact ⟨Int.le_refl _, by simp [numS, sumL]⟩
    | cons i l ih =>
      intro h
      obtain ⟨a1, a2⟩ := ih fun j hj => h j (by simp [hj])
      have := bF i (h i (by simp))
      have e : numS (F.map rowF) (i :: l) = (F.getD i dz).2.1 + numS (F.map rowF) l := by unfold numS; rw [sumL_cons, nmA i (h i (by simp))]
      rw [e, List.length_cons]
      have : ((l.length + 1 : Nat) : Int) * 10 ^ 30 = l.length * 10 ^ 30 + 10 ^ 30 := by push_cast; rw [Int.add_mul, Int.one_mul]
      omega
  refine forL_invL (enc := fun i => encF (F.getD i dz)) (fun (pre : List Nat) env st' => ∃ s4 s5 s6 : Sl, env = [.v (.int p), .v (.lst (F.map encF)), .v (.int (numS (F.map rowF) pre)), .v (.int (scS (F.map rowF) pre)), s4, s5, s6] ∧ st' = st) ⟨_, _, _, rfl, rfl⟩ ?_ ?_
  · rintro pre i post env st' e ⟨s4, s5, s6, rfl, rfl⟩
    have hi : i < F.length := ordm i (by rw [e]; simp)
    have hpre : ∀ j ∈ pre ++ [i], j < F.length := fun j hj => ordm j (by
      rw [e]
      simp only [List.mem_append, List.mem_cons, List.not_mem_nil, or_false] at hj ⊢
      exact hj.imp id .inl)
    have hpl : (pre ++ [i]).length ≤ 20 := by
      have := congrArg List.length e
      rw [ordL_len, hlen] at this
      simp at this ⊢
      omega
    have n1 : numS (F.map rowF) pre + (F.getD i dz).2.1 = numS (F.map rowF) (pre ++ [i]) := by unfold numS; rw [sumL_app, sumL_cons, sumL_nil, nmA i hi]; omega
    have n2 : scS (F.map rowF) pre + (F.getD i dz).2.1 * (F.getD i dz).2.2 = scS (F.map rowF) (pre ++ [i]) := by unfold scS; rw [sumL_app, sumL_cons, sumL_nil, nmA i hi, scA i hi]; omega
    have b := bF i hi
    have hm : okMul (F.getD i dz).2.1 (F.getD i dz).2.2 = true := okMul_of (by omega) (by omega) (by omega) (by omega)
    have hnd : (pre ++ [i]).Nodup := by
      have := ordL_nodup (F.map rowF)
      rw [e] at this
      have : (pre ++ [i] ++ post).Nodup := by simpa using this
      exact (List.nodup_append.mp this).1
    have lot := lack_kinds (p := p) (by omega) hn hnd (fun j hj => by rw [hlen]; exact hpre j hj)
    rw [hlack] at lot
    have nbb := nb _ hpre
    have hp30 : ((pre ++ [i]).length : Int) * 10 ^ 30 ≤ 20 * 10 ^ 30 := Int.mul_le_mul_of_nonneg_right (by omega) (by omega)
    have own := ho p (numS (F.map rowF) (pre ++ [i])) st' (by omega) (by omega)
    have nlt : ¬ scS (F.map rowF) (pre ++ [i]) < ownI p (numS (F.map rowF) (pre ++ [i])) := by omega
    unfold encF
    refine ⟨_, by simp! only []; rfl, ?_⟩
    simp! only [hm, n1, n2, own, decide_eq_false nlt]
    exact ⟨_, _, _, rfl⟩
  · rintro env st' ⟨s4, s5, s6, rfl, rfl⟩
    have nbb := nb _ ordm
    have hol : (ordL (F.map rowF)).length ≤ 20 := by rw [ordL_len, hlen]; exact hl
    have hp30 : ((ordL (F.map rowF)).length : Int) * 10 ^ 30 ≤ 20 * 10 ^ 30 := Int.mul_le_mul_of_nonneg_right (by omega) (by omega)
    have own := ho p (numS (F.map rowF) (ordL (F.map rowF))) st' (by omega) (by omega)
    have e1 : scS (F.map rowF) (ordL (F.map rowF)) = ownI p (numS (F.map rowF) (ordL (F.map rowF))) := by
      unfold spareI at hspare
      have a := sumL_perm (nmI (F.map rowF)) (ordL_perm (F.map rowF))
      have b := sumL_perm (fun i => nmI (F.map rowF) i * scI (F.map rowF) i) (ordL_perm (F.map rowF))
      unfold scS numS at *
      rw [a, b]
      omega
    simp! only [own, e1, decide_true]
def lrAt (ls : List LRow) (i : Nat) : LRow := ls.getD i ⟨[], 0, 0, 0⟩
theorem lrAt_eq {ls : List LRow} {i : Nat} (h : i < ls.length) : lrAt ls i = ls[i] := by
  unfold lrAt
  rw [List.getD_eq_getElem?_getD, List.getElem?_eq_getElem h]; rfl
def cntI (ls : List LRow) (L : List Row) (i : Nat) : Int := ((L.filter fun q => q.nm == (lrAt ls i).nm).map (·.num)).sum
structure Fills (ls : List LRow) (L : List Row) : Prop where
  mem : ∀ q ∈ L, ∃ i, i < ls.length ∧ (lrAt ls i).nm = q.nm ∧ 1 ≤ q.num ∧ q.num ≤ (lrAt ls i).num ∧ (lrAt ls i).lo ≤ q.sc ∧ q.sc ≤ (lrAt ls i).hi
  nd : L.Pairwise fun a b => ¬ (a.nm = b.nm ∧ a.sc = b.sc)
  cnt : ∀ i, i < ls.length → cntI ls L i = (lrAt ls i).num
  len : L.length ≤ 12
def ixOf (ls : List LRow) (u : List Nat) : Nat := (ls.map (·.nm)).idxOf u
theorem ixOf_at {ls : List LRow} (hn : (ls.map (·.nm)).Nodup) {i : Nat} (h : i < ls.length) : ixOf ls (lrAt ls i).nm = i := by
  unfold ixOf
  rw [lrAt_eq h]
  have := hn.idxOf_getElem i (by simpa using h)
  rw [List.getElem_map] at this
  exact this
def toF (ls : List LRow) (q : Row) : Nat × Int × Int := (ixOf ls q.nm, q.num, q.sc)
def SpShaped (f : Fd) : Prop := ∀ ls L st, LOk ls → Fills ls L → OP (fun r st' => (∃ o, st' = st ++ [o]) ∧ r = .lst ((L.map (toF ls)).map encF)) (f [.lst (ls.map encW), .tup (L.map encR)] st)
theorem index_list {ns : List (List Nat)} {i : Nat} {st : Store} (hn : ns.Nodup) (hi : i < ns.length) : mt .index st (.lst (ns.map .str)) [.str (ns.getD i [])] = some (.int (i : Int)) := by
  show (if okEq 64 (.str (ns.getD i [])) && okEqs 63 (ns.map D.str) then ((ns.map D.str).findIdx? fun z => pyEq z (.str (ns.getD i []))).map fun (k : Nat) => D.int (k : Int) else none) = _
  rw [okEqs_strs (fun r : List Nat => r) ns]
  have e : ((ns.map D.str).findIdx? fun z => pyEq z (.str (ns.getD i []))) = some i := by
    rw [List.findIdx?_eq_some_iff_getElem]
    refine ⟨by simpa using hi, ?_, ?_⟩
    · rw [List.getElem_map, List.getD_eq_getElem?_getD, List.getElem?_eq_getElem hi]
      simp [pyEq]
    · intro j hj
      rw [List.getElem_map, List.getD_eq_getElem?_getD, List.getElem?_eq_getElem hi]
      have hne : ns[j] ≠ ns[i] := fun e => by
        have := (List.getElem_inj hn).mp e
        omega
      simpa [pyEq] using hne
  rw [e]; rfl
theorem okEqs_intsL {n : Nat} (l : List Int) : okEqs n (l.map D.int) = true := by
  induction l with
  | nil => rfl
  | cons x l ih => show (okEq n (.int x) && okEqs n (l.map D.int)) = true; rw [ih]; cases n <;> rfl
theorem eq_intsL {st : Store} {a b : List Int} (h : a = b) : op2 .eq st (.lst (a.map .int)) (.lst (b.map .int)) = some (.bl true) := by
  subst h
  have h1 : okEq 64 (.lst (a.map .int)) = true := okEqs_intsL (n := 63) a
  have h2 : ∀ l : List Int, pyEqs (l.map .int) (l.map .int) = true := fun l => by
    induction l with
    | nil => rfl
    | cons x l ih => show (pyEq (.int x) (.int x) && pyEqs (l.map .int) (l.map .int)) = true; rw [ih]; simp [pyEq]
  show (if (okEq 64 (.lst (a.map .int)) && okEq 64 (.lst (a.map .int))) = true then some (D.bl (pyEq (.lst (a.map .int)) (.lst (a.map .int)))) else (tupNil (.lst (a.map .int)) (.lst (a.map .int))).map .bl) = _
  rw [h1, show pyEq (.lst (a.map .int)) (.lst (a.map .int)) = pyEqs (a.map .int) (a.map .int) from rfl, h2]; rfl
theorem ixR {n k : Nat} {g : Nat → D} {st : Store} (hk : k < n) : op2 .idx st (.lst ((List.range n).map g)) (.int (k : Int)) = some (g k) := by
  show atI ((List.range n).map g) (k : Int) = _
  rw [atI_nat, List.getElem?_map, List.getElem?_range hk]; rfl
def keyF (ls : List LRow) (q : Row) : List D := [.int (ixOf ls q.nm), .int q.sc]
theorem sp_shaped (hw : SpWithinI fw) : SpShaped (runF 2 9 (m_shaped Γ fw)) := by
  intro ls L st h hf
  have l6 := h.l6
  have lL := hf.len
  refine OP_run rfl ?_
  delta m_shaped
  have sqL : ∀ (l : List D), seqI (.lst l) = some l := fun _ => rfl
  have sqT : ∀ (l : List D), seqI (.tup l) = some l := fun _ => rfl
  have i0 : ∀ (r : LRow) st, op2 .idx st (encW r) (.int 0) = some (.str r.nm) := fun _ _ => rfl
  have i1 : ∀ (r : LRow) st, op2 .idx st (encW r) (.int 1) = some (.int r.num) := fun _ _ => rfl
  have i2 : ∀ (r : LRow) st, op2 .idx st (encW r) (.int 2) = some (.int r.lo) := fun _ _ => rfl
  have i3 : ∀ (r : LRow) st, op2 .idx st (encW r) (.int 3) = some (.int r.hi) := fun _ _ => rfl
  have lw : ls.length ≤ LIM := lim_ge (by omega)
  simp! only [sqL]
  rw [comp_mapL (enc := encW) (g := fun r => .str r.nm) ls lw fun r hr => by
    apply OP_eq
    simp! only [turnV_eq, i0]]
  simp! only [sqL]
  rw [comp_mapL (enc := encW) (g := fun r => .int 0) ls lw fun r hr => by
    apply OP_eq
    simp! only [turnV_eq]]
  simp! only [val_dic, sqT]
  have cz : ls.map (fun r => D.int 0) = (List.range ls.length).map fun i => .int (cntI ls [] i) := by
    rw [map_rng ls ⟨[], 0, 0, 0⟩]
    exact List.map_congr_left fun i _ => rfl
  rw [cz]
  have enm : ls.map (fun r => D.str r.nm) = (ls.map (·.nm)).map D.str := by rw [List.map_map]; rfl
  rw [enm]
  refine forL_invL (enc := encR) (fun (pre : List Row) env st' => ∃ s2 s7 s8 : Sl, env = [.v (.lst (ls.map encW)), .v (.tup (L.map encR)), s2, .v (.lst ((ls.map (·.nm)).map .str)), .own ((List.range ls.length).map fun i => .int (cntI ls pre i)), .own ((pre.map (toF ls)).map encF), .v (.loc st.length), s7, s8] ∧ st' = st ++ [.dic false (pre.map (keyF ls))]) ⟨_, _, _, rfl, rfl⟩ ?_ ?_
  · rintro pre q post env st' e ⟨s2, s7, s8, rfl, rfl⟩
    obtain ⟨i, hi, en, hn1, hn2, hs1, hs2⟩ := hf.mem q (by rw [e]; simp)
    have hpl : pre.length < 12 := by
      have := congrArg List.length e
      simp at this
      omega
    have r0 : ∀ st, op2 .idx st (encR q) (.int 0) = some (.str q.nm) := fun _ => rfl
    have r1 : ∀ st, op2 .idx st (encR q) (.int 1) = some (.int q.num) := fun _ => rfl
    have r2 : ∀ st, op2 .idx st (encR q) (.int 2) = some (.int q.sc) := fun _ => rfl
    have ln : ∀ st, bi .len st [encR q] = some (.int 3) := fun _ => rfl
    have it : ∀ st, isiV Γ st (encR q) .tuple = some true := fun _ => rfl
    have hns : (ls.map (·.nm)).getD i [] = q.nm := by
      rw [← en, lrAt_eq hi, List.getD_eq_getElem?_getD, List.getElem?_map, List.getElem?_eq_getElem hi]; rfl
    have hin : op2 .nmem (st ++ [.dic false (pre.map (keyF ls))]) (.str q.nm) (.lst ((ls.map (·.nm)).map .str)) = some (.bl false) := by
      show (if (okEq 64 (.str q.nm) && okEqs 64 ((ls.map (·.nm)).map D.str)) = true then some (D.bl (!((ls.map (·.nm)).map D.str).any fun z => pyEq z (.str q.nm))) else none) = _
      rw [okEqs_strs (fun r : List Nat => r) (ls.map (·.nm))]
      have : (((ls.map (·.nm)).map D.str).any fun z => pyEq z (.str q.nm)) = true := by
        rw [List.any_eq_true]
        refine ⟨.str q.nm, List.mem_map.mpr ⟨q.nm, ?_, rfl⟩, by simp [pyEq]⟩
        rw [← en, lrAt_eq hi]
        exact List.mem_map.mpr ⟨ls[i], List.getElem_mem hi, rfl⟩
      rw [this]; rfl
    have hix : ∀ st, mt .index st (.lst ((ls.map (·.nm)).map .str)) [.str q.nm] = some (.int (i : Int)) := fun st => by
      have := index_list (st := st) h.nd (show i < (ls.map (·.nm)).length by simpa using hi)
      rw [hns] at this
      exact this
    have hrow : ∀ st, op2 .idx st (.lst (ls.map encW)) (.int (i : Int)) = some (encW (lrAt ls i)) := fun st => by
      rw [map_rng ls ⟨[], 0, 0, 0⟩ encW]
      exact ixR hi
    have hw1 : ∀ st, fw [.int q.num, .int 1, .int (lrAt ls i).num] st = .ok (.bl true) st := fun st => by rw [hw, decide_eq_true ⟨hn1, hn2⟩]
    have hw2 : ∀ st, fw [.int q.sc, .int (lrAt ls i).lo, .int (lrAt ls i).hi] st = .ok (.bl true) st := fun st => by rw [hw, decide_eq_true ⟨hs1, hs2⟩]
    have eix : ixOf ls q.nm = i := by rw [← en]; exact ixOf_at h.nd hi
    have hkey : keyL (.tup [.int (i : Int), .int q.sc]) = some (keyF ls q) := by unfold keyF; rw [eix]; rfl
    have hd : (st ++ [.dic false (pre.map (keyF ls))])[st.length]? = some (.dic false (pre.map (keyF ls))) := by simp
    have hno : ((pre.map (keyF ls)).any fun z => pyEqs z (keyF ls q)) = false := by
      rw [List.any_map, List.any_eq_false]
      intro a ha hb
      have hnd := hf.nd
      rw [e, List.pairwise_append] at hnd
      have hab := hnd.2.2 a ha q (by simp)
      have hb : pyEqs (keyF ls a) (keyF ls q) = true := hb
      unfold keyF at hb
      simp [pyEqs, pyEq] at hb
      obtain ⟨j, hj, ej, _⟩ := hf.mem a (by rw [e]; simp [ha])
      have ea : ixOf ls a.nm = j := by rw [← ej]; exact ixOf_at h.nd hj
      refine hab ⟨?_, hb.2⟩
      rw [← ej, ← en]
      have : j = i := by
        have := hb.1
        rw [ea, eix] at this
        omega
      rw [this]
    have hput : putK (pre.map (keyF ls)) (keyF ls q) = (pre ++ [q]).map (keyF ls) := by
      unfold putK
      rw [if_neg (by rw [hno]; simp), List.map_append]; rfl
    have hkl : (pre.map (keyF ls)).length < LIM := Nat.lt_of_lt_of_le (Nat.lt_succ_self _) (lim_ge (by rw [List.length_map]; omega))
    have hst : (st ++ [Obj.dic false (pre.map (keyF ls))]).set st.length (.dic false ((pre ++ [q]).map (keyF ls))) = st ++ [.dic false ((pre ++ [q]).map (keyF ls))] := by simp
    have hset : ((List.range ls.length).map fun j => D.int (cntI ls pre j)).set i (.int (cntI ls pre i + q.num)) = (List.range ls.length).map fun j => .int (cntI ls (pre ++ [q]) j) := by
      apply List.ext_getElem
      · simp
      · intro j h1 h2
        have hj : j < ls.length := by simpa using h2
        rw [List.getElem_set, List.getElem_map, List.getElem_map, List.getElem_range]
        have ec : cntI ls (pre ++ [q]) j = cntI ls pre j + if i = j then q.num else 0 := by
          unfold cntI
          rw [List.filter_append, List.map_append, List.sum_append]
          congr 1
          by_cases hij : i = j
          · subst hij
            rw [if_pos rfl, en]; simp
          · rw [if_neg hij]
            have : ¬ q.nm = (lrAt ls j).nm := fun hq => hij (by rw [← ixOf_at h.nd hi, ← ixOf_at h.nd hj, en, hq])
            simp [this]
        rw [ec]
        split
        · rename_i hij; subst hij; rfl
        · rw [Int.add_zero]
    have hfl : ((pre.map (toF ls)).map encF).length < LIM := Nat.lt_of_lt_of_le (Nat.lt_succ_self _) (lim_ge (by simp only [List.length_map]; omega))
    have hixn : ixN ((List.range ls.length).map fun j => D.int (cntI ls pre j)).length (i : Int) = some i := by
      unfold ixN
      rw [if_pos (by omega), if_pos (by simp; omega)]; simp
    refine ⟨_, by simp! only []; rfl, ?_⟩
    simp! only [it, ln, r0, r1, r2, hin, hix, hrow, i1, i2, i3, hw1, hw2, tst_dhas, val_dhas, keyV_eq, RP_dput, hkey, Option.isSome_some, dhas_at hkey hd, hno, dput_at hkey hd hkl, hput, hst, ixR hi, hixn, hset, hfl]
    have et : toF ls q = (i, q.num, q.sc) := by unfold toF; rw [eix]
    have e9 : ((pre ++ [q]).map (toF ls)).map encF = (pre.map (toF ls)).map encF ++ [encF (i, q.num, q.sc)] := by rw [List.map_append, List.map_append]; rw [← et]; rfl
    refine ⟨fun h => by simp at h, fun _ => ?_⟩
    rw [e9]
    exact ⟨_, _, _, rfl⟩
  · rintro env st' ⟨s2, s7, s8, rfl, rfl⟩
    simp! only [sqL]
    rw [comp_mapL (enc := encW) (g := fun r => .int r.num) ls lw fun r hr => by
      apply OP_eq
      simp! only [turnV_eq, i1]]
    have e1 : (List.range ls.length).map (fun i => D.int (cntI ls L i)) = ((List.range ls.length).map fun i => cntI ls L i).map .int := by rw [List.map_map]; rfl
    have e2 : ls.map (fun r => D.int r.num) = (ls.map (·.num)).map .int := by rw [List.map_map]; rfl
    have e3 : ((List.range ls.length).map fun i => cntI ls L i) = ls.map (·.num) := by
      rw [map_rng ls ⟨[], 0, 0, 0⟩ (·.num)]
      exact List.map_congr_left fun i hi => hf.cnt i (by simpa using hi)
    rw [e1, e2]
    simp! only [eq_intsL e3]
    exact ⟨_, rfl⟩
end
end G
namespace G
section
variable {Γ : Ctx} {fo fd ft ff fj fp fb fm : Fd} {c : Nat}
/-- all lots of whole kinds of the first rows: players, scores -/
def lotsOf : List Row → List (Int × Int)
  | [] => [(0, 0)]
  | r :: rs => lotsOf rs ++ (lotsOf rs).map fun q => (q.1 + r.num, q.2 + r.num * r.sc)
end
/-- what lots of indices tell -/
theorem lots_mem {rs : List Row} {N : Nat} (hN : N ≤ rs.length) {q : Int × Int} : q ∈ lotsOf ((rs.take N).reverse) ↔ ∃ l : List Nat, l.Nodup ∧ (∀ i ∈ l, i < N) ∧ q = (numS rs l, scS rs l) := by
  induction N generalizing q with
  | zero =>
    simp only [List.take_zero, List.reverse_nil, lotsOf, List.mem_singleton]
    constructor
    · rintro rfl; exact ⟨[], .nil, by simp, rfl⟩
    · rintro ⟨l, _, h, e⟩
      have : l = [] := by cases l with
        | nil => rfl
        | cons a l => exact absurd (h a (by simp)) (by omega)
      rw [e, this]; rfl
  | succ N ih =>
    obtain ⟨r, hr, _⟩ := row_get (show N < rs.length by omega)
    have e : rs.take (N + 1) = rs.take N ++ [r] := by rw [List.take_succ, hr]; rfl
    rw [e, List.reverse_append]
    show q ∈ lotsOf (r :: (rs.take N).reverse) ↔ _
    unfold lotsOf
    rw [List.mem_append, List.mem_map]
    constructor
    · rintro (h | ⟨q', h, rfl⟩)
      · obtain ⟨l, h1, h2, h3⟩ := (ih (by omega)).mp h
        exact ⟨l, h1, fun i hi => by have := h2 i hi; omega, h3⟩
      · obtain ⟨l, h1, h2, rfl⟩ := (ih (by omega)).mp h
        refine ⟨N :: l, List.nodup_cons.mpr ⟨fun hm => by have := h2 N hm; omega, h1⟩, fun i hi => ?_, ?_⟩
        · rcases List.mem_cons.mp hi with rfl | hi
          · omega
          · have := h2 i hi; omega
        · unfold numS scS
          rw [sumL_cons, sumL_cons, nmI_at hr, scI_at hr]
          simp only [Prod.mk.injEq]
          constructor <;> omega
    · rintro ⟨l, h1, h2, rfl⟩
      by_cases hm : N ∈ l
      · right
        have hp : l.Perm (N :: l.erase N) := List.perm_cons_erase hm
        refine ⟨(numS rs (l.erase N), scS rs (l.erase N)), (ih (by omega)).mpr ⟨l.erase N, h1.erase N, fun i hi => ?_, rfl⟩, ?_⟩
        · have h3 := h2 i (List.mem_of_mem_erase hi)
          have h4 : i ≠ N := fun e => by
            subst e
            exact h1.not_mem_erase hi
          omega
        · unfold numS scS
          rw [sumL_perm _ hp, sumL_perm _ hp, sumL_cons, sumL_cons, nmI_at hr, scI_at hr]
          simp only [Prod.mk.injEq]
          constructor <;> omega
      · left
        exact (ih (by omega)).mpr ⟨l, h1, fun i hi => by
          have := h2 i hi
          have : i ≠ N := fun e => hm (by rw [← e]; exact hi)
          omega, rfl⟩
end G
namespace G
end G
namespace G
theorem lotsOf_cons {r : Row} {rs : List Row} {q : Int × Int} : q ∈ lotsOf (r :: rs) ↔ q ∈ lotsOf rs ∨ ∃ q' ∈ lotsOf rs, q = (q'.1 + r.num, q'.2 + r.num * r.sc) := by
  show q ∈ lotsOf rs ++ (lotsOf rs).map _ ↔ _
  rw [List.mem_append, List.mem_map]
  exact or_congr Iff.rfl ⟨fun ⟨a, b, c⟩ => ⟨a, b, c.symm⟩, fun ⟨a, b, c⟩ => ⟨a, b, c.symm⟩⟩
theorem lotsOf_perm {rs rs' : List Row} (h : rs.Perm rs') : ∀ q, q ∈ lotsOf rs ↔ q ∈ lotsOf rs' := by
  induction h with
  | nil => intro q; rfl
  | cons x _ ih =>
    intro q
    rw [lotsOf_cons, lotsOf_cons, ih]
    exact or_congr Iff.rfl ⟨fun ⟨a, b, c⟩ => ⟨a, (ih a).mp b, c⟩, fun ⟨a, b, c⟩ => ⟨a, (ih a).mpr b, c⟩⟩
  | swap x y l =>
    have go : ∀ (x y : Row) (q : Int × Int), q ∈ lotsOf (x :: y :: l) → q ∈ lotsOf (y :: x :: l) := fun x y q h => by
      rw [lotsOf_cons] at h ⊢
      rcases h with h | ⟨a, h, rfl⟩
      · rw [lotsOf_cons] at h
        rcases h with h | ⟨a, h, rfl⟩
        · exact .inl (lotsOf_cons.mpr (.inl h))
        · exact .inr ⟨a, lotsOf_cons.mpr (.inl h), rfl⟩
      · rw [lotsOf_cons] at h
        rcases h with h | ⟨b, h, rfl⟩
        · exact .inl (lotsOf_cons.mpr (.inr ⟨a, h, rfl⟩))
        · refine .inr ⟨(b.1 + x.num, b.2 + x.num * x.sc), lotsOf_cons.mpr (.inr ⟨b, h, rfl⟩), ?_⟩
          simp only [Prod.mk.injEq]
          constructor <;> omega
    exact fun q => ⟨go y x q, go x y q⟩
  | trans _ _ ih1 ih2 => exact fun q => (ih1 q).trans (ih2 q)
section
variable {p : Int} {rs rs' : List Row}
def NumNN (rs : List Row) : Prop := ∀ r ∈ rs, 0 ≤ r.num
theorem NumNN.at_ (h : NumNN rs) : ∀ i < rs.length, 0 ≤ nmI rs i := fun i hi => by
  obtain ⟨r, hr, hm⟩ := row_get hi
  rw [nmI_at hr]; exact h r hm
theorem lots_iff {q : Int × Int} : q ∈ lotsOf rs ↔ ∃ l : List Nat, l.Nodup ∧ (∀ i ∈ l, i < rs.length) ∧ q = (numS rs l, scS rs l) := by
  have := lots_mem (rs := rs) (N := rs.length) (Nat.le_refl _) (q := q)
  rw [List.take_length] at this
  rw [← this]
  exact lotsOf_perm (List.reverse_perm rs).symm q
theorem lack_ge (hp : 0 ≤ p) (h : NumNN rs) {q : Int × Int} (hq : q ∈ lotsOf rs) : ownI p q.1 - q.2 ≤ lackI p rs := by
  obtain ⟨l, a, b, rfl⟩ := lots_iff.mp hq
  exact lack_kinds hp h.at_ a b
theorem lack_at (p : Int) (rs : List Row) : ∃ q ∈ lotsOf rs, lackI p rs = ownI p q.1 - q.2 := by
  obtain ⟨l, a, b, e⟩ := lackI_at p rs
  exact ⟨_, lots_iff.mpr ⟨l, a, b, rfl⟩, e⟩
theorem spareI_eq : spareI p rs = (rs.map fun r => r.num * r.sc).sum - ownI p (rs.map (·.num)).sum := by
  rw [nums_sum, scs_sum]; rfl
end
end G
namespace G
theorem pieces_mem {r : LRow} {s left : Int} (hr : LRowB r) (hlo : r.lo ≤ r.hi) (h0 : 0 ≤ left) {q : Row} (h : q ∈ pieces r s (moreI r s left)) : q.nm = r.nm ∧ 1 ≤ q.num ∧ q.num ≤ r.num ∧ r.lo ≤ q.sc ∧ q.sc ≤ r.hi := by
  obtain ⟨h1, h2, h3⟩ := mem_pieces h
  have hm := moreI_bd hr (s := s) h0
  have hl := levI_in hlo (s := s)
  refine ⟨h1, by omega, ?_⟩
  rcases h3 with ⟨a, b⟩ | ⟨a, b⟩
  · rw [a, b]; exact ⟨by omega, hl.1, hl.2⟩
  · rw [a, b]
    have := more_in hlo (s := s) (left := left) (by omega)
    exact ⟨by omega, by omega, by omega⟩
theorem pieces_nd {r : LRow} {s m : Int} : (pieces r s m).Pairwise fun a b => ¬ (a.nm = b.nm ∧ a.sc = b.sc) := by
  unfold pieces
  rw [List.pairwise_map]
  refine List.Pairwise.filter _ ?_
  refine List.pairwise_cons.mpr ⟨fun x hx => ?_, List.pairwise_cons.mpr ⟨fun x hx => by simp at hx, List.Pairwise.nil⟩⟩
  simp only [List.mem_cons, List.not_mem_nil, or_false] at hx
  subst hx
  rintro ⟨_, h⟩
  simp only at h
  omega
def cN (L : List Row) (n : List Nat) : Int := ((L.filter fun q => q.nm == n).map (·.num)).sum
theorem cN_app {L M : List Row} {n : List Nat} : cN (L ++ M) n = cN L n + cN M n := by
  unfold cN
  rw [List.filter_append, List.map_append, List.sum_append]
theorem cN_none {L : List Row} {n : List Nat} (h : ∀ q ∈ L, q.nm ≠ n) : cN L n = 0 := by
  unfold cN
  rw [List.filter_eq_nil_iff.mpr fun q hq => by simpa using h q hq]; rfl
theorem pieces_sum {r : LRow} {s m : Int} (h0 : 0 ≤ m) (h1 : m ≤ r.num) : ((pieces r s m).map (·.num)).sum = r.num := by
  unfold pieces
  rw [List.filter_cons, List.filter_cons, List.filter_nil]
  simp only [decide_eq_true_eq]
  (split <;> split) <;> simp only [List.map_cons, List.map_nil, List.sum_cons, List.sum_nil] <;> omega
theorem pieces_cN {r : LRow} {s m : Int} (h0 : 0 ≤ m) (h1 : m ≤ r.num) : cN (pieces r s m) r.nm = r.num := by
  unfold cN
  rw [List.filter_eq_self.mpr fun q hq => by rw [(mem_pieces hq).1]; simp]
  exact pieces_sum h0 h1
theorem levR_mem {s : Int} : ∀ {ls : List LRow} {left : Int}, (∀ r ∈ ls, LRowB r) → (∀ r ∈ ls, r.lo ≤ r.hi) → 0 ≤ left → ∀ q ∈ levR s left ls, ∃ r ∈ ls, q.nm = r.nm ∧ 1 ≤ q.num ∧ q.num ≤ r.num ∧ r.lo ≤ q.sc ∧ q.sc ≤ r.hi
  | [], _, _, _, _ => by simp [levR]
  | r :: ls, left, hb, hl, h0 => fun q hq => by
    have hm := moreI_bd (hb r (by simp)) (s := s) h0
    simp only [levR, List.mem_append] at hq
    rcases hq with hq | hq
    · exact ⟨r, by simp, pieces_mem (hb r (by simp)) (hl r (by simp)) h0 hq⟩
    · obtain ⟨x, hx, h⟩ := levR_mem (fun x hx => hb x (by simp [hx])) (fun x hx => hl x (by simp [hx])) (left := left - moreI r s left) (by omega) q hq
      exact ⟨x, by simp [hx], h⟩
theorem levR_nd {s : Int} : ∀ {ls : List LRow} {left : Int}, (∀ r ∈ ls, LRowB r) → (∀ r ∈ ls, r.lo ≤ r.hi) → (ls.map (·.nm)).Nodup → 0 ≤ left → (levR s left ls).Pairwise fun a b => ¬ (a.nm = b.nm ∧ a.sc = b.sc)
  | [], _, _, _, _, _ => List.Pairwise.nil
  | r :: ls, left, hb, hl, hn, h0 => by
    have hm := moreI_bd (hb r (by simp)) (s := s) h0
    rw [List.map_cons, List.nodup_cons] at hn
    show (pieces r s (moreI r s left) ++ levR s (left - moreI r s left) ls).Pairwise _
    refine List.pairwise_append.mpr ⟨pieces_nd, levR_nd (fun x hx => hb x (by simp [hx])) (fun x hx => hl x (by simp [hx])) hn.2 (by omega), fun a ha b hb' => ?_⟩
    obtain ⟨x, hx, e, _⟩ := levR_mem (fun x hx => hb x (by simp [hx])) (fun x hx => hl x (by simp [hx])) (left := left - moreI r s left) (by omega) b hb'
    rintro ⟨e1, _⟩
    rw [(mem_pieces ha).1, e] at e1
    exact hn.1 (List.mem_map.mpr ⟨x, hx, e1.symm⟩)
theorem levR_cN {s : Int} : ∀ {ls : List LRow} {left : Int}, (∀ r ∈ ls, LRowB r) → (∀ r ∈ ls, r.lo ≤ r.hi) → (ls.map (·.nm)).Nodup → 0 ≤ left → ∀ r ∈ ls, cN (levR s left ls) r.nm = r.num
  | [], _, _, _, _, _ => by simp
  | r :: ls, left, hb, hl, hn, h0 => fun x hx => by
    have hm := moreI_bd (hb r (by simp)) (s := s) h0
    rw [List.map_cons, List.nodup_cons] at hn
    have hb' : ∀ r ∈ ls, LRowB r := fun x hx => hb x (by simp [hx])
    have hl' : ∀ r ∈ ls, r.lo ≤ r.hi := fun x hx => hl x (by simp [hx])
    show cN (pieces r s (moreI r s left) ++ levR s (left - moreI r s left) ls) x.nm = x.num
    rw [cN_app]
    rcases List.mem_cons.mp hx with rfl | hx
    · rw [pieces_cN hm.1 hm.2.2, cN_none fun q hq e => ?_, Int.add_zero]
      obtain ⟨y, hy, e', _⟩ := levR_mem hb' hl' (left := left - moreI x s left) (by omega) q hq
      exact hn.1 (List.mem_map.mpr ⟨y, hy, by rw [← e', e]⟩)
    · rw [levR_cN hb' hl' hn.2 (by omega) x hx, cN_none fun q hq e => ?_, Int.zero_add]
      rw [(mem_pieces hq).1] at e
      exact hn.1 (List.mem_map.mpr ⟨x, hx, e.symm⟩)
theorem levR_nums {s : Int} : ∀ {ls : List LRow} {left : Int}, (∀ r ∈ ls, LRowB r) → 0 ≤ left → ((levR s left ls).map (·.num)).sum = (ls.map (·.num)).sum
  | [], _, _, _ => rfl
  | r :: ls, left, hb, h0 => by
    have hm := moreI_bd (hb r (by simp)) (s := s) h0
    show ((pieces r s (moreI r s left) ++ levR s (left - moreI r s left) ls).map (·.num)).sum = _
    rw [List.map_append, List.sum_append, pieces_sum hm.1 hm.2.2, levR_nums (fun x hx => hb x (by simp [hx])) (by omega)]; simp
/-- what fills a loose list -/
structure FilledOk (p : Int) (ls : List LRow) (L : List Row) : Prop where
  fl : Fills ls L
  lack : lackI p L = 0
  spare : spareI p L = 0
  sums : (L.map (·.num)).sum = (ls.map (·.num)).sum
theorem filled_ok {p : Int} {ls : List LRow} {L : List Row} (h : LOk ls) (ho : IsFilled p ls (some L)) : FilledOk p ls L := by
  have eo : optF (some L) = .tup (L.map encR) := rfl
  unfold IsFilled FilledV at ho
  rw [eo] at ho
  split at ho
  · exact absurd ho (by simp)
  · rename_i hlo
    split at ho
    · exact absurd ho (by simp)
    · obtain ⟨s, hs, e⟩ := ho
      split at e
      · rename_i hz
        have hlo' : ∀ r ∈ ls, r.lo ≤ r.hi := fun r hr => by
          have := Bool.eq_false_or_eq_true (ls.all fun x => decide (x.lo ≤ x.hi))
          rcases this with this | this
          · exact of_decide_eq_true (List.all_eq_true.mp this r hr)
          · exact absurd this hlo
        have e : L = levR s (wholeI p ls - totI ls s) ls := by
          have hinj : ∀ a b : List Row, a.map encR = b.map encR → a = b := fun a => by
            induction a with
            | nil => intro b hb; cases b with
              | nil => rfl
              | cons y b => exact absurd hb (by simp)
            | cons x a ih =>
              intro b hb
              cases b with
              | nil => exact absurd hb (by simp)
              | cons y b =>
                rw [List.map_cons, List.map_cons, List.cons.injEq] at hb
                rw [ih b hb.2]
                have := hb.1
                cases x; cases y
                simp only [encR, D.tup.injEq, List.cons.injEq, D.str.injEq, D.int.injEq, and_true] at this
                obtain ⟨rfl, rfl, rfl⟩ := this
                rfl
          simp only [D.tup.injEq] at e
          exact hinj _ _ e
        have left0 : 0 ≤ wholeI p ls - totI ls s := by have := hs.le; omega
        refine ⟨⟨fun q hq => ?_, ?_, fun i hi => ?_, ?_⟩, ?_, ?_, ?_⟩
        · rw [e] at hq
          obtain ⟨r, hr, h1, h2⟩ := levR_mem h.ok hlo' left0 q hq
          obtain ⟨i, hi, rfl⟩ := List.getElem_of_mem hr
          exact ⟨i, hi, by rw [lrAt_eq hi]; exact h1.symm, by rw [lrAt_eq hi]; exact h2⟩
        · rw [e]; exact levR_nd h.ok hlo' h.nd left0
        · have := levR_cN (s := s) h.ok hlo' h.nd left0 (lrAt ls i) (by rw [lrAt_eq hi]; exact List.getElem_mem hi)
          rw [← e] at this
          exact this
        · rw [e]
          have := (levR_b h.ok hs.s0 left0).1
          have := h.l6
          omega
        · rw [e]; exact hz.2
        · rw [e]; exact hz.1
        · rw [e]; exact levR_nums h.ok left0
      · exact absurd e (by simp)
theorem rowF_lack {p : Int} {ls : List LRow} {L : List Row} : lackI p ((L.map (toF ls)).map rowF) = lackI p L ∧ spareI p ((L.map (toF ls)).map rowF) = spareI p L := by
  have e : (L.map (toF ls)).map rowF = L.map fun q => (⟨[], q.num, q.sc⟩ : Row) := by
    rw [List.map_map]; rfl
  have n : nmI (L.map fun q => (⟨[], q.num, q.sc⟩ : Row)) = nmI L := by
    funext i
    unfold nmI
    rw [List.getElem?_map]
    cases L[i]? <;> rfl
  have s : scI (L.map fun q => (⟨[], q.num, q.sc⟩ : Row)) = scI L := by
    funext i
    unfold scI
    rw [List.getElem?_map]
    cases L[i]? <;> rfl
  have len : (L.map fun q => (⟨[], q.num, q.sc⟩ : Row)).length = L.length := by simp
  have or : ordL (L.map fun q => (⟨[], q.num, q.sc⟩ : Row)) = ordL L := by unfold ordL; rw [s, len]
  have go : ∀ (r : List Nat) (N T : Int) (ch : List Nat), ladGo (L.map fun q => (⟨[], q.num, q.sc⟩ : Row)) N T ch r = ladGo L N T ch r := fun r => by
    induction r with
    | nil => intros; rfl
    | cons i r ih => intro N T ch; unfold ladGo; rw [ih, n, s]
  rw [e]
  constructor
  · unfold lackI lackP ladL
    rw [go, or]
  · unfold spareI scS numS
    rw [n, s, len]
section
variable {Γ : Ctx} {fd fl fp fs fe ff fg fo : Fd} [FrC]
def SpFilling (f : Fd) : Prop := ∀ (p : Int) (ls : List LRow) (o : Option (List Row)) (b : Bool) st, 1 ≤ p → p ≤ 9 → LOk ls → IsFilled p ls o → b = o.isSome → OP (fun r st' => r = .bl true ∧ ∃ ex, st' = st ++ ex) (f [.int p, .lst (ls.map encW), .bl b] st)
theorem repr_tf {b : Bool} {st : Store} : bi .repr st [.bl b] = some (.str (if b then [84, 114, 117, 101] else [70, 97, 108, 115, 101])) := by
  cases b
  · exact repr_eq (b := 60) (d := .bl false) rfl (.bl _) (by omega) rfl
  · exact repr_eq (b := 60) (d := .bl true) rfl (.bl _) (by omega) rfl
theorem isnot_lst {l : List D} {st : Store} : op2 .isnot st (.lst l) .non = some (.bl true) := rfl
theorem sp_filling (hp : SpLPoss fp) (hf : SpFill ff) (hs : SpShaped fs) (he : SpEnough fe) : SpFilling (runF 3 5 (m_filling Γ fp ff fs fe)) := by
  intro p ls o b st h1 h9 h ho hb
  refine OP_run rfl ?_
  delta m_filling
  subst hb
  simp! only [hp p ls o _ h1 h9 h ho, repr_tf]
  cases o with
  | none =>
    simp! only [hf p ls _ _ h1 h9 h ho, optF, Option.isSome_none]
    exact ⟨[], by simp⟩
  | some L =>
    have hk := filled_ok h ho
    simp! only [hf p ls _ _ h1 h9 h ho, optF, Option.isSome_some]
    refine (hs ls L _ h hk.fl).mono ?_
    rintro _ st' ⟨⟨o, rfl⟩, rfl⟩
    have hlack := rowF_lack (p := p) (ls := ls) (L := L)
    have := he p (L.map (toF ls)) (st ++ [o]) h1 h9 (by have := hk.fl.len; simp; omega) (fun q hq => by
      obtain ⟨x, hx, rfl⟩ := List.mem_map.mp hq
      obtain ⟨i, hi, _, a1, a2, a3, a4⟩ := hk.fl.mem x hx
      have hb := h.ok (lrAt ls i) (by rw [lrAt_eq hi]; exact List.getElem_mem hi)
      have := hb.n2; have := hb.l1; have := hb.h2
      exact ⟨by show 0 ≤ x.num; omega, by show x.num ≤ _; omega, by show 0 ≤ x.sc; omega, by show x.sc ≤ _; omega⟩) (by rw [hlack.1]; exact hk.lack) (by rw [hlack.2]; exact hk.spare)
    simp! only [isnot_lst, this]
    exact ⟨[o], rfl⟩
def SpLoosened (f : Fd) : Prop := ∀ (l n : Nat) (rs : List Row) (st : Store), Wl l n st → n + 100 ≤ 1000000000 → RowsOk rs → ScS rs → OP (fun r st' => ∃ ls : List LRow, r = .lst (ls.map encW) ∧ LOk ls ∧ ls.length = rs.length ∧ Wl l (n + 100) st') (f [.loc l, .lst (rs.map encR)] st)
end
end G
namespace G
theorem lotsOf_app {A B : List Row} {q : Int × Int} : q ∈ lotsOf (A ++ B) ↔ ∃ a ∈ lotsOf A, ∃ b ∈ lotsOf B, q = (a.1 + b.1, a.2 + b.2) := by
  induction A generalizing q with
  | nil =>
    constructor
    · intro h; exact ⟨(0, 0), by simp [lotsOf], q, h, by simp⟩
    · rintro ⟨a, ha, b, hb, rfl⟩
      simp [lotsOf] at ha
      subst ha
      simpa using hb
  | cons r A ih =>
    rw [List.cons_append, lotsOf_cons]
    constructor
    · rintro (h | ⟨x, h, rfl⟩)
      · obtain ⟨a, ha, b, hb, rfl⟩ := ih.mp h
        exact ⟨a, lotsOf_cons.mpr (.inl ha), b, hb, rfl⟩
      · obtain ⟨a, ha, b, hb, rfl⟩ := ih.mp h
        exact ⟨_, lotsOf_cons.mpr (.inr ⟨a, ha, rfl⟩), b, hb, by simp only [Prod.mk.injEq]; constructor <;> omega⟩
    · rintro ⟨a, ha, b, hb, rfl⟩
      rcases lotsOf_cons.mp ha with ha | ⟨x, hx, rfl⟩
      · exact .inl (ih.mpr ⟨a, ha, b, hb, rfl⟩)
      · exact .inr ⟨(x.1 + b.1, x.2 + b.2), ih.mpr ⟨x, hx, b, hb, rfl⟩, by simp only [Prod.mk.injEq]; constructor <;> omega⟩
def totR (L : List Row) : Int := (L.map fun r => r.num * r.sc).sum
def numR (L : List Row) : Int := (L.map (·.num)).sum
theorem lotsOf_all : ∀ L : List Row, (numR L, totR L) ∈ lotsOf L
  | [] => by simp [lotsOf, numR, totR]
  | r :: L => lotsOf_cons.mpr (.inr ⟨_, lotsOf_all L, by simp [numR, totR, Int.add_comm]⟩)
theorem lotsOf_none : ∀ L : List Row, (0, 0) ∈ lotsOf L
  | [] => by simp [lotsOf]
  | r :: L => lotsOf_cons.mpr (.inl (lotsOf_none L))
def numW (ls : List LRow) : Int := (ls.map (·.num)).sum
/-- the lots of whole kinds: players, least and greatest scores -/
def LotW : List LRow → Int × Int × Int → Prop
  | [], q => q = (0, 0, 0)
  | r :: rs, q => LotW rs q ∨ ∃ x, LotW rs x ∧ q = (x.1 + r.num, x.2.1 + r.num * r.lo, x.2.2 + r.num * r.hi)
theorem LotW.none : ∀ ls : List LRow, LotW ls (0, 0, 0)
  | [] => rfl
  | _ :: ls => .inl (LotW.none ls)
theorem LotW.all : ∀ ls : List LRow, LotW ls (numW ls, (ls.map fun r => r.num * r.lo).sum, (ls.map fun r => r.num * r.hi).sum)
  | [] => rfl
  | r :: ls => .inr ⟨_, LotW.all ls, by simp [numW, Int.add_comm]⟩
theorem pieces_two {r : LRow} {s more : Int} : (pieces r s more = [] ∧ r.num - more ≤ 0 ∧ more ≤ 0) ∨ (pieces r s more = [⟨r.nm, r.num - more, levI r s⟩] ∧ 0 < r.num - more ∧ more ≤ 0) ∨ (pieces r s more = [⟨r.nm, more, levI r s + 1⟩] ∧ r.num - more ≤ 0 ∧ 0 < more) ∨ (pieces r s more = [⟨r.nm, r.num - more, levI r s⟩, ⟨r.nm, more, levI r s + 1⟩] ∧ 0 < r.num - more ∧ 0 < more) := by
  unfold pieces
  rw [List.filter_cons, List.filter_cons, List.filter_nil]
  simp only [decide_eq_true_eq]
  (split <;> split) <;> simp <;> omega
theorem pieces_tot {r : LRow} {s m : Int} (h0 : 0 ≤ m) (h1 : m ≤ r.num) : numR (pieces r s m) = r.num ∧ totR (pieces r s m) = r.num * levI r s + m := by
  refine ⟨pieces_sum h0 h1, ?_⟩
  rcases pieces_two (r := r) (s := s) (more := m) with ⟨e, a, b⟩ | ⟨e, a, b⟩ | ⟨e, a, b⟩ | ⟨e, a, b⟩ <;> rw [e] <;> simp only [totR, List.map_cons, List.map_nil, List.sum_cons, List.sum_nil]
  · have : r.num = 0 := by omega
    have : m = 0 := by omega
    subst this
    rw [‹r.num = 0›]; simp
  · have : m = 0 := by omega
    subst this; simp
  · have : m = r.num := by omega
    subst this
    grind
  · grind
theorem lotsOf_bd {s t : Int} : ∀ {L : List Row}, (∀ q ∈ L, 0 ≤ q.num ∧ s ≤ q.sc ∧ q.sc ≤ t) → ∀ q ∈ lotsOf L, 0 ≤ q.1 ∧ q.1 ≤ numR L ∧ s * q.1 ≤ q.2 ∧ q.2 ≤ t * q.1 ∧ s * (numR L - q.1) ≤ totR L - q.2 ∧ totR L - q.2 ≤ t * (numR L - q.1)
  | [], _ => fun q hq => by
    simp [lotsOf] at hq
    subst hq
    simp [numR, totR]
  | r :: L, h => fun q hq => by
    have hr := h r (by simp)
    have a1 : r.num * s ≤ r.num * r.sc := Int.mul_le_mul_of_nonneg_left hr.2.1 hr.1
    have a2 : r.num * r.sc ≤ r.num * t := Int.mul_le_mul_of_nonneg_left hr.2.2 hr.1
    have e1 : numR (r :: L) = r.num + numR L := rfl
    have e2 : totR (r :: L) = r.num * r.sc + totR L := rfl
    rw [e1, e2]
    rcases lotsOf_cons.mp hq with hq | ⟨x, hq2, rfl⟩
    · obtain ⟨b1, b2, b3, b4, b5, b6⟩ := lotsOf_bd (L := L) (fun y hy => h y (List.mem_cons_of_mem _ hy)) q hq
      refine ⟨b1, by omega, b3, b4, ?_, ?_⟩
      · have : s * (r.num + numR L - q.1) = r.num * s + s * (numR L - q.1) := by grind
        omega
      · have : t * (r.num + numR L - q.1) = r.num * t + t * (numR L - q.1) := by grind
        omega
    · obtain ⟨b1, b2, b3, b4, b5, b6⟩ := lotsOf_bd (L := L) (fun y hy => h y (List.mem_cons_of_mem _ hy)) x hq2
      simp only
      refine ⟨by omega, by omega, ?_, ?_, ?_, ?_⟩
      · have : s * (x.1 + r.num) = s * x.1 + r.num * s := by grind
        omega
      · have : t * (x.1 + r.num) = t * x.1 + r.num * t := by grind
        omega
      · have : s * (r.num + numR L - (x.1 + r.num)) = s * (numR L - x.1) := by grind
        omega
      · have : t * (r.num + numR L - (x.1 + r.num)) = t * (numR L - x.1) := by grind
        omega
theorem numR_app {A B : List Row} : numR (A ++ B) = numR A + numR B := by unfold numR; rw [List.map_append, List.sum_append]
theorem totR_app {A B : List Row} : totR (A ++ B) = totR A + totR B := by unfold totR; rw [List.map_append, List.sum_append]
/-- whole lots of kinds, by what fills them -/
theorem lots_of_W {s : Int} : ∀ {ls : List LRow} {left : Int}, (∀ r ∈ ls, LRowB r) → (∀ r ∈ ls, r.lo ≤ r.hi) → 0 ≤ left → ∀ q, LotW ls q → ∃ t, (q.1, t) ∈ lotsOf (levR s left ls) ∧ (numW ls - q.1, totR (levR s left ls) - t) ∈ lotsOf (levR s left ls) ∧ q.2.1 ≤ t ∧ t ≤ q.2.2
  | [], _, _, _, _ => fun q hq => by
    have : q = (0, 0, 0) := hq
    subst this
    exact ⟨0, by simp [levR, lotsOf], by simp [levR, lotsOf, numW, totR], by simp, by simp⟩
  | r :: ls, left, hb, hl, h0 => fun q hq => by
    have hm := moreI_bd (hb r (by simp)) (s := s) h0
    have hp := pieces_tot (r := r) (s := s) (m := moreI r s left) hm.1 hm.2.2
    have hpb : ∀ q ∈ pieces r s (moreI r s left), 0 ≤ q.num ∧ r.lo ≤ q.sc ∧ q.sc ≤ r.hi := fun q hq => by
      have := pieces_mem (hb r (by simp)) (hl r (by simp)) h0 hq
      exact ⟨by omega, this.2.2.2⟩
    have hpt := lotsOf_bd hpb _ (lotsOf_all _)
    simp only [hp.1] at hpt
    have e : levR s left (r :: ls) = pieces r s (moreI r s left) ++ levR s (left - moreI r s left) ls := rfl
    have eN : numW (r :: ls) = r.num + numW ls := rfl
    have ih := lots_of_W (s := s) (ls := ls) (left := left - moreI r s left) (fun x hx => hb x (by simp [hx])) (fun x hx => hl x (by simp [hx])) (by omega)
    have all := lotsOf_all (pieces r s (moreI r s left))
    have non := lotsOf_none (pieces r s (moreI r s left))
    rw [hp.1] at all
    rw [e, eN, totR_app]
    rcases hq with hq | ⟨x, hq, rfl⟩
    · obtain ⟨t, b1, b2, b3, b4⟩ := ih q hq
      exact ⟨t, lotsOf_app.mpr ⟨_, non, _, b1, by simp⟩, lotsOf_app.mpr ⟨_, all, _, b2, by simp only [Prod.mk.injEq]; constructor <;> omega⟩, b3, b4⟩
    · obtain ⟨t, b1, b2, b3, b4⟩ := ih x hq
      have c1 : r.num * r.lo = r.lo * r.num := Int.mul_comm _ _
      have c2 : r.num * r.hi = r.hi * r.num := Int.mul_comm _ _
      refine ⟨t + totR (pieces r s (moreI r s left)), lotsOf_app.mpr ⟨_, all, _, b1, by simp only [Prod.mk.injEq]; constructor <;> omega⟩, lotsOf_app.mpr ⟨_, non, _, b2, by simp only [Prod.mk.injEq]; constructor <;> omega⟩, ?_, ?_⟩ <;> simp only <;> omega
theorem LotW.bd : ∀ {ls : List LRow}, (∀ r ∈ ls, LRowB r) → ∀ q, LotW ls q → 0 ≤ q.1 ∧ q.1 ≤ numW ls
  | [], _ => fun q hq => by
    have : q = (0, 0, 0) := hq
    subst this
    simp [numW]
  | r :: ls, hb => fun q hq => by
    have := (hb r (by simp)).n1
    have eN : numW (r :: ls) = r.num + numW ls := rfl
    rcases hq with hq | ⟨x, hq, rfl⟩
    · have := LotW.bd (fun x hx => hb x (by simp [hx])) q hq
      omega
    · have := LotW.bd (fun x hx => hb x (by simp [hx])) x hq
      simp only
      omega
theorem lotsOf_one {q : Int × Int} {r : Row} : q ∈ lotsOf [r] ↔ q = (0, 0) ∨ q = (r.num, r.num * r.sc) := by
  rw [lotsOf_cons]; simp [lotsOf]
theorem lots_to_W {s : Int} : ∀ {ls : List LRow} {left : Int}, (∀ r ∈ ls, LRowB r) → (∀ r ∈ ls, r.lo ≤ r.hi) → 0 ≤ left → ∀ q ∈ lotsOf (levR s left ls), (∃ a, LotW ls a ∧ a.1 ≤ q.1 ∧ a.2.2 + s * (q.1 - a.1) ≤ q.2) ∧ (∃ z, LotW ls z ∧ z.1 ≤ numW ls - q.1 ∧ totR (levR s left ls) - q.2 ≤ z.2.1 + (s + 1) * (numW ls - q.1 - z.1))
  | [], _, _, _, _ => fun q hq => by
    simp [levR, lotsOf] at hq
    subst hq
    exact ⟨⟨_, rfl, by simp, by simp⟩, ⟨_, rfl, by simp [numW], by simp [levR, totR, numW]⟩⟩
  | r :: ls, left, hb, hl, h0 => fun q hq => by
    have hr := hb r (by simp)
    have hlr := hl r (by simp)
    have hm := moreI_bd hr (s := s) h0
    have hp := pieces_tot (r := r) (s := s) (m := moreI r s left) hm.1 hm.2.2
    have hpm : ∀ q ∈ pieces r s (moreI r s left), 0 ≤ q.num ∧ levI r s ≤ q.sc ∧ q.sc ≤ levI r s + 1 := fun q hq => by
      obtain ⟨_, h1, h2⟩ := mem_pieces hq
      exact ⟨by omega, by omega, by omega⟩
    have e : levR s left (r :: ls) = pieces r s (moreI r s left) ++ levR s (left - moreI r s left) ls := rfl
    have eN : numW (r :: ls) = r.num + numW ls := rfl
    rw [e] at hq
    obtain ⟨x, hx, y, hy, rfl⟩ := lotsOf_app.mp hq
    obtain ⟨⟨a, a1, a2, a3⟩, ⟨z, z1, z2, z3⟩⟩ := lots_to_W (s := s) (ls := ls) (left := left - moreI r s left) (fun x hx => hb x (by simp [hx])) (fun x hx => hl x (by simp [hx])) (by omega) y hy
    have xb := lotsOf_bd hpm x hx
    rw [hp.1] at xb
    obtain ⟨x1, x2, x3, x4, x5, x6⟩ := xb
    have hn1 := hr.n1
    rw [e, eN, totR_app]
    simp only
    -- the pieces of a row that has one score
    have single : moreI r s left = 0 → pieces r s (moreI r s left) = [⟨r.nm, r.num, levI r s⟩] := fun h => by
      rcases pieces_two (r := r) (s := s) (more := moreI r s left) with ⟨e, a, b⟩ | ⟨e, a, b⟩ | ⟨e, a, b⟩ | ⟨e, a, b⟩
      · omega
      · rw [e, h]; simp
      · omega
      · omega
    constructor
    · by_cases hc : r.hi ≤ s
      · have h1 : levI r s = r.hi := by unfold levI; (repeat' split) <;> omega
        have h2 : moreI r s left = 0 := by
          unfold moreI
          rw [if_neg]
          unfold levI; (repeat' split) <;> omega
        have hx' := hx
        rw [single h2, h1] at hx'
        rcases lotsOf_one.mp hx' with rfl | rfl
        · refine ⟨a, .inl a1, by simp only; omega, ?_⟩
          simp only
          rw [Int.zero_add, Int.zero_add]; exact a3
        · refine ⟨_, .inr ⟨a, a1, rfl⟩, by simp only; omega, ?_⟩
          simp only
          rw [show r.num + y.1 - (a.1 + r.num) = y.1 - a.1 by omega]
          omega
      · have h1 : s ≤ levI r s := by unfold levI; (repeat' split) <;> omega
        have h3 : s * x.1 ≤ levI r s * x.1 := Int.mul_le_mul_of_nonneg_right h1 x1
        refine ⟨a, .inl a1, by omega, ?_⟩
        have : s * (x.1 + y.1 - a.1) = s * x.1 + s * (y.1 - a.1) := by grind
        omega
    · by_cases hc : s + 1 ≤ r.lo
      · have h1 : levI r s = r.lo := by unfold levI; (repeat' split) <;> omega
        have h2 : moreI r s left = 0 := by
          unfold moreI
          rw [if_neg]
          unfold levI; (repeat' split) <;> omega
        have ht := hp.2
        rw [h2, h1, Int.add_zero] at ht
        have hx' := hx
        rw [single h2, h1] at hx'
        rw [h2, ht]
        rw [h2] at z3
        rcases lotsOf_one.mp hx' with rfl | rfl
        · refine ⟨_, .inr ⟨z, z1, rfl⟩, by simp only; omega, ?_⟩
          simp only
          rw [show r.num + numW ls - (0 + y.1) - (z.1 + r.num) = numW ls - y.1 - z.1 by omega]
          omega
        · refine ⟨z, .inl z1, by simp only; omega, ?_⟩
          simp only
          rw [show r.num + numW ls - (r.num + y.1) - z.1 = numW ls - y.1 - z.1 by omega]
          omega
      · have h1 : levI r s ≤ s := by unfold levI; (repeat' split) <;> omega
        have h3 : (levI r s + 1) * (r.num - x.1) ≤ (s + 1) * (r.num - x.1) := Int.mul_le_mul_of_nonneg_right (by omega) (by omega)
        refine ⟨z, .inl z1, by omega, ?_⟩
        have : (s + 1) * (r.num + numW ls - (x.1 + y.1) - z.1) = (s + 1) * (r.num - x.1) + (s + 1) * (numW ls - y.1 - z.1) := by grind
        omega
/-- which lots of whole kinds allow a league -/
def CanW (p : Int) (ls : List LRow) : Prop := (∀ r ∈ ls, r.lo ≤ r.hi) ∧ ∀ q, LotW ls q → ownI p q.1 ≤ q.2.2 ∧ q.2.1 ≤ ownI p (numW ls) - ownI p (numW ls - q.1)
theorem filled_some {p : Int} {ls : List LRow} {L : List Row} (ho : IsFilled p ls (some L)) : (∀ r ∈ ls, r.lo ≤ r.hi) ∧ ∃ s, LastP ls (wholeI p ls) s ∧ L = levR s (wholeI p ls - totI ls s) ls := by
  have eo : optF (some L) = .tup (L.map encR) := rfl
  unfold IsFilled FilledV at ho
  rw [eo] at ho
  split at ho
  · exact absurd ho (by simp)
  · rename_i hlo
    split at ho
    · exact absurd ho (by simp)
    · obtain ⟨s, hs, e⟩ := ho
      split at e
      · rename_i hz
        refine ⟨fun r hr => ?_, s, hs, ?_⟩
        · have := Bool.eq_false_or_eq_true (ls.all fun x => decide (x.lo ≤ x.hi))
          rcases this with this | this
          · exact of_decide_eq_true (List.all_eq_true.mp this r hr)
          · exact absurd this hlo
        · have hinj : ∀ a b : List Row, a.map encR = b.map encR → a = b := fun a => by
            induction a with
            | nil => intro b hb; cases b with
              | nil => rfl
              | cons y b => exact absurd hb (by simp)
            | cons x a ih =>
              intro b hb
              cases b with
              | nil => exact absurd hb (by simp)
              | cons y b =>
                rw [List.map_cons, List.map_cons, List.cons.injEq] at hb
                rw [ih b hb.2]
                have := hb.1
                cases x; cases y
                simp only [encR, D.tup.injEq, List.cons.injEq, D.str.injEq, D.int.injEq, and_true] at this
                obtain ⟨rfl, rfl, rfl⟩ := this
                rfl
          simp only [D.tup.injEq] at e
          exact hinj _ _ e
      · exact absurd e (by simp)
theorem canW_of_filled {p : Int} {ls : List LRow} {L : List Row} (hp : 0 ≤ p) (h : LOk ls) (ho : IsFilled p ls (some L)) : CanW p ls := by
  obtain ⟨hlo, s, hs, e⟩ := filled_some ho
  have hk := filled_ok h ho
  have left0 : 0 ≤ wholeI p ls - totI ls s := by have := hs.le; omega
  have hnn : NumNN L := fun q hq => by
    rw [e] at hq
    obtain ⟨r, _, _, h2, _⟩ := levR_mem h.ok hlo left0 q hq
    omega
  refine ⟨hlo, fun q hq => ?_⟩
  obtain ⟨t, b1, b2, b3, b4⟩ := lots_of_W (s := s) h.ok hlo left0 q hq
  rw [← e] at b1 b2
  have l1 := lack_ge hp hnn b1
  have l2 := lack_ge hp hnn b2
  rw [hk.lack] at l1 l2
  have sp := hk.spare
  rw [spareI_eq, hk.sums] at sp
  have sp : totR L - ownI p (numW ls) = 0 := sp
  simp only at l1 l2
  constructor <;> omega
/-- the total of what is levelled -/
theorem levR_tot {s : Int} : ∀ {ls : List LRow} {left : Int}, (∀ r ∈ ls, LRowB r) → 0 ≤ left → left ≤ totI ls (s + 1) - totI ls s → totR (levR s left ls) = totI ls s + left
  | [], left, _, h0, h1 => by
    have : totI ([] : List LRow) (s + 1) - totI ([] : List LRow) s = 0 := rfl
    have e : totI ([] : List LRow) s = 0 := rfl
    rw [e]
    simp [levR, totR]; omega
  | r :: ls, left, hb, h0, h1 => by
    have hr := hb r (by simp)
    have hm := moreI_bd hr (s := s) h0
    have hp := pieces_tot (r := r) (s := s) (m := moreI r s left) hm.1 hm.2.2
    have e : levR s left (r :: ls) = pieces r s (moreI r s left) ++ levR s (left - moreI r s left) ls := rfl
    have e1 : ∀ s, totI (r :: ls) s = r.num * levI r s + totI ls s := fun _ => rfl
    rw [e1, e1] at h1
    have hmono := totI_mono (rs := ls) (fun x hx => hb x (by simp [hx])) (s := s) (t := s + 1) (by omega)
    have := hr.n1
    have h2 : left - moreI r s left ≤ totI ls (s + 1) - totI ls s := by
      unfold moreI
      by_cases hc : levI r (s + 1) > levI r s
      · rw [if_pos hc]
        have e3 : levI r (s + 1) = levI r s + 1 := by have := levI_step (r := r) (s := s); omega
        rw [e3, Int.mul_add, Int.mul_one] at h1
        split <;> omega
      · rw [if_neg hc]
        have e3 : levI r (s + 1) = levI r s := by have := levI_mono (r := r) (s := s) (t := s + 1) (by omega); omega
        rw [e3] at h1
        omega
    rw [e, e1, totR_app, hp.2, levR_tot (fun x hx => hb x (by simp [hx])) (by omega) h2]
    omega
theorem totI_zero {ls : List LRow} (hb : ∀ r ∈ ls, LRowB r) : totI ls 0 = (ls.map fun r => r.num * r.lo).sum := by
  unfold totI
  congr 1
  apply List.map_congr_left
  intro r hr
  have hx := hb r hr
  have := hx.l1; have := hx.h1
  have : levI r 0 = r.lo := by unfold levI; (repeat' split) <;> omega
  rw [this]
theorem totI_top {ls : List LRow} (hb : ∀ r ∈ ls, LRowB r) (hl : ∀ r ∈ ls, r.lo ≤ r.hi) : totI ls (10 ^ 33) = (ls.map fun r => r.num * r.hi).sum := by
  unfold totI
  congr 1
  apply List.map_congr_left
  intro r hr
  have h1 := hl r hr
  have := hb r hr
  have h2 := this.h2
  have : levI r (10 ^ 33) = r.hi := by
    unfold levI
    (repeat' split) <;> omega
  rw [this]
theorem own_up {p a n s : Int} (hp : 0 ≤ p) (h1 : a ≤ n) (h2 : p * (n - 1) ≤ s) : ownI p n ≤ ownI p a + s * (n - a) := by
  have o1 := own2 p n
  have o2 := own2 p a
  have e : p * n * (n - 1) - p * a * (a - 1) = p * ((n - a) * (n + a - 1)) := by grind
  by_cases hc : a = n
  · subst hc; simp
  · have h3 : (n - a) * (n + a - 1) ≤ (n - a) * (2 * (n - 1)) := Int.mul_le_mul_of_nonneg_left (by omega) (by omega)
    have h4 : p * ((n - a) * (n + a - 1)) ≤ p * ((n - a) * (2 * (n - 1))) := Int.mul_le_mul_of_nonneg_left h3 hp
    have h5 : p * (n - 1) * (n - a) ≤ s * (n - a) := Int.mul_le_mul_of_nonneg_right h2 (by omega)
    have e2 : p * ((n - a) * (2 * (n - 1))) = 2 * (p * (n - 1) * (n - a)) := by grind
    omega
theorem own_dn {p n E s : Int} (hp : 0 ≤ p) (h1 : n ≤ E) (h2 : s ≤ p * n) : ownI p n + s * (E - n) ≤ ownI p E := by
  have o1 := own2 p n
  have o2 := own2 p E
  have e : p * E * (E - 1) - p * n * (n - 1) = p * ((E - n) * (E + n - 1)) := by grind
  by_cases hc : n = E
  · subst hc; simp
  · have h3 : (E - n) * (2 * n) ≤ (E - n) * (E + n - 1) := Int.mul_le_mul_of_nonneg_left (by omega) (by omega)
    have h4 : p * ((E - n) * (2 * n)) ≤ p * ((E - n) * (E + n - 1)) := Int.mul_le_mul_of_nonneg_left h3 hp
    have h5 : s * (E - n) ≤ p * n * (E - n) := Int.mul_le_mul_of_nonneg_right h2 (by omega)
    have e2 : p * ((E - n) * (2 * n)) = 2 * (p * n * (E - n)) := by grind
    omega
theorem filled_of_canW {p : Int} {ls : List LRow} {o : Option (List Row)} (hp : 0 ≤ p) (hb : ∀ r ∈ ls, LRowB r) (ho : IsFilled p ls o) (hc : CanW p ls) : o.isSome = true := by
  cases o with
  | some L => rfl
  | none =>
    exfalso
    have eo : optF none = .non := rfl
    have hall : (ls.all fun x => decide (x.lo ≤ x.hi)) = true := List.all_eq_true.mpr fun r hr => decide_eq_true (hc.1 r hr)
    have hA := hc.2 _ (LotW.all ls)
    simp only [Int.sub_self, own_zero] at hA
    rw [← totI_zero hb, ← totI_top hb hc.1] at hA
    have eW : wholeI p ls = ownI p (numW ls) := rfl
    unfold IsFilled FilledV at ho
    rw [eo] at ho
    split at ho
    · rename_i z; rw [hall] at z; exact absurd z (by simp)
    · split at ho
      · rename_i z
        exact z ⟨by rw [eW]; omega, by rw [eW]; omega⟩
      · obtain ⟨s, hs, e⟩ := ho
        have left0 : 0 ≤ wholeI p ls - totI ls s := by have := hs.le; omega
        have left1 : wholeI p ls - totI ls s ≤ totI ls (s + 1) - totI ls s := by
          by_cases h : s < 10 ^ 33
          · have := hs.gt h; omega
          · have : s = 10 ^ 33 := by have := hs.s1; omega
            have := totI_mono hb (s := s) (t := s + 1) (by omega)
            have h2 := hA.1
            rw [← ‹s = 10 ^ 33›] at h2
            rw [eW]; omega
        have ht := levR_tot hb left0 left1
        have hn := levR_nums (s := s) hb left0
        rw [if_pos] at e
        · exact absurd e (by simp)
        · constructor
          · rw [spareI_eq, hn]
            show totR _ - wholeI p ls = 0
            omega
          · have h0 := lackI_nonneg p (levR s (wholeI p ls - totI ls s) ls)
            obtain ⟨q, hq, el⟩ := lack_at p (levR s (wholeI p ls - totI ls s) ls)
            obtain ⟨⟨a, a1, a2, a3⟩, ⟨z, z1, z2, z3⟩⟩ := lots_to_W hb hc.1 left0 q hq
            have ca := (hc.2 a a1).1
            have cz := (hc.2 z z1).2
            by_cases hcs : p * (q.1 - 1) ≤ s
            · have := own_up hp a2 hcs
              omega
            · have e3 : p * (q.1 - 1) = p * q.1 - p := by rw [Int.mul_sub, Int.mul_one]
              by_cases hp0 : p = 0
              · subst hp0
                have : s < 0 := by omega
                have := hs.s0
                omega
              · have := own_dn (E := numW ls - z.1) (s := s + 1) hp (by omega) (show s + 1 ≤ p * q.1 by omega)
                have e4 : numW ls - z.1 - q.1 = numW ls - q.1 - z.1 := by omega
                rw [e4] at this
                rw [ht] at z3
                rw [← eW] at cz
                omega
theorem filled_iff {p : Int} {ls : List LRow} {o : Option (List Row)} (hp : 0 ≤ p) (h : LOk ls) (ho : IsFilled p ls o) : o.isSome = true ↔ CanW p ls := by
  constructor
  · intro hs
    cases o with
    | none => exact absurd hs (by simp)
    | some L => exact canW_of_filled hp h ho
  · exact filled_of_canW hp h.ok ho
end G
namespace G
section
variable {Γ : Ctx} {fd fl fp fs fe ff fg fo fi : Fd} [FrC]
theorem LOk.of {ls : List LRow} {rs : List Row} (h : RowsOk rs) (hn : ls.map (·.nm) = rs.map (·.nm)) (hb : ∀ q ∈ ls, LRowB q) : LOk ls := by
  have hl : ls.length = rs.length := by have := congrArg List.length hn; simpa using this
  refine ⟨by rw [hl]; exact h.l1, by rw [hl]; exact h.l6, fun q hq => ?_, hb, by rw [hn]; exact h.nd⟩
  have : q.nm ∈ ls.map (·.nm) := List.mem_map.mpr ⟨q, hq, rfl⟩
  rw [hn] at this
  obtain ⟨r, hr, e⟩ := List.mem_map.mp this
  rw [← e]; exact (h.ok r hr).nm
theorem sp_loosened (hd : SpDip fd) : SpLoosened (runF 2 11 (m_loosened Γ fd)) := by
  intro l n rs st hw hn hrs hsc
  have l6 := hrs.l6
  refine OP_run rfl ?_
  delta m_loosened
  simp! only []
  refine forL_invL (enc := encR) (fun (pre : List Row) env st' => ∃ (qs : List LRow) (s3 s4 s5 s6 s7 s8 s9 s10 : Sl), env = [.v (.loc l), .v (.lst (rs.map encR)), .own (qs.map encW), s3, s4, s5, s6, s7, s8, s9, s10] ∧ qs.map (·.nm) = pre.map (·.nm) ∧ (∀ q ∈ qs, LRowB q) ∧ Wl l (n + 3 * pre.length) st') ⟨[], _, _, _, _, _, _, _, _, rfl, rfl, by simp, hw⟩ ?_ ?_
  · rintro pre r post env st1 e ⟨qs, s3, s4, s5, s6, s7, s8, s9, s10, rfl, hqn, hqb, hw1⟩
    have hr : r ∈ rs := by rw [e]; simp
    have hro := hrs.ok r hr
    have h32 := hsc r hr
    have r1 := hro.n1; have r2 := hro.n2; have r3 := hro.s1
    have hpl : pre.length < 6 := by
      have := congrArg List.length e
      simp at this
      omega
    have hql : qs.length = pre.length := by have := congrArg List.length hqn; simpa using this
    have hlim : (qs.map encW).length < LIM := Nat.lt_of_lt_of_le (Nat.lt_succ_self _) (lim_ge (by rw [List.length_map]; omega))
    unfold encR
    refine ⟨_, by simp! only []; rfl, ?_⟩
    simp! only []
    refine (hd l _ 7 st1 hw1 (by omega) (by omega) (by omega)).mono ?_
    rintro _ st2 ⟨k, rfl, hk0, hk1, hw2⟩
    simp! only []
    refine (hd l _ 1000000 st2 hw2 (by omega) (by omega) (by omega)).mono ?_
    rintro _ st3 ⟨a, rfl, ha0, ha1, hw3⟩
    simp! only []
    refine (hd l _ 3 st3 hw3 (by omega) (by omega) (by omega)).mono ?_
    rintro _ st4 ⟨b, rfl, hb0, hb1, hw4⟩
    have done : ∀ (lo hi : Int) (t3 t4 t5 t6 t7 t8 t9 t10 : Sl), 0 ≤ lo → lo ≤ 10 ^ 33 → 0 ≤ hi → hi ≤ 10 ^ 33 → ∃ (qs' : List LRow) (u3 u4 u5 u6 u7 u8 u9 u10 : Sl), [Sl.v (.loc l), .v (.lst (rs.map fun r => .tup [.str r.nm, .int r.num, .int r.sc])), .own (qs.map encW ++ [.tup [.str r.nm, .int r.num, .int lo, .int hi]]), t3, t4, t5, t6, t7, t8, t9, t10] = [.v (.loc l), .v (.lst (rs.map fun r => .tup [.str r.nm, .int r.num, .int r.sc])), .own (qs'.map encW), u3, u4, u5, u6, u7, u8, u9, u10] ∧ qs'.map (·.nm) = (pre ++ [r]).map (·.nm) ∧ (∀ q ∈ qs', LRowB q) ∧ Wl l (n + 3 * (pre ++ [r]).length) st4 := fun lo hi t3 t4 t5 t6 t7 t8 t9 t10 a1 a2 a3 a4 =>
      ⟨qs ++ [⟨r.nm, r.num, lo, hi⟩], _, _, _, _, _, _, _, _, by rw [List.map_append]; rfl, by rw [List.map_append, List.map_append, hqn]; rfl, fun q hq => by
        rcases List.mem_append.mp hq with hq | hq
        · exact hqb q hq
        · simp only [List.mem_cons, List.not_mem_nil, or_false] at hq
          subst hq
          exact ⟨r1, r2, a1, a2, a3, a4⟩, hw4.up (by simp; omega)⟩
    have m1 : okMul r.sc (1 + b) = true := okMul_of (by omega) (by omega) (by omega) (by omega)
    have m2 : okDiv (1 + b) = true := okDiv_of (by omega) (by omega)
    have d0 : 0 ≤ r.sc / (1 + b) := Int.ediv_nonneg r3 (by omega)
    have d1 : r.sc / (1 + b) ≤ r.sc := Int.ediv_le_self _ r3
    have d2 : r.sc * (1 + b) ≤ r.sc * 3 := Int.mul_le_mul_of_nonneg_left (by omega) r3
    have d3 : 0 ≤ r.sc * (1 + b) := Int.mul_nonneg r3 (by omega)
    obtain rfl | rfl | rfl | rfl | rfl | rfl | rfl : k = 0 ∨ k = 1 ∨ k = 2 ∨ k = 3 ∨ k = 4 ∨ k = 5 ∨ k = 6 := by omega
    all_goals
      simp! only [m1, m2, hlim]
      refine done _ _ _ _ _ _ _ _ _ _ ?_ ?_ ?_ ?_ <;> (try split) <;> omega
  · rintro env st1 ⟨qs, s3, s4, s5, s6, s7, s8, s9, s10, rfl, hqn, hqb, hw1⟩
    simp! only []
    exact ⟨qs, rfl, LOk.of hrs hqn hqb, by have := congrArg List.length hqn; simpa using this, hw1.up (by omega)⟩
end
end G
namespace G
end G
namespace G
/-- wider ranges -/
def WiderR (a b : LRow) : Prop := b.num = a.num ∧ b.lo ≤ a.lo ∧ a.hi ≤ b.hi
inductive Wider : List LRow → List LRow → Prop
  | nil : Wider [] []
  | cons {a b : LRow} {l m : List LRow} : WiderR a b → Wider l m → Wider (a :: l) (b :: m)
theorem Wider.numW {l m : List LRow} (h : Wider l m) : numW m = numW l := by
  induction h with
  | nil => rfl
  | @cons a b l m h _ ih =>
    show b.num + G.numW m = a.num + G.numW l
    rw [h.1, ih]
theorem Wider.lot {l m : List LRow} (h : Wider l m) (hb : ∀ r ∈ l, LRowB r) : ∀ q, LotW m q → ∃ x, LotW l x ∧ x.1 = q.1 ∧ q.2.1 ≤ x.2.1 ∧ x.2.2 ≤ q.2.2 := by
  induction h with
  | nil => intro q hq; exact ⟨q, hq, rfl, Int.le_refl _, Int.le_refl _⟩
  | @cons a b l m h _ ih =>
    have ih := ih fun x hx => hb x (by simp [hx])
    have h1 := (hb a (by simp)).n1
    rintro q (hq | ⟨y, hq, rfl⟩)
    · obtain ⟨x, a1, a2⟩ := ih q hq
      exact ⟨x, .inl a1, a2⟩
    · obtain ⟨x, a1, a2, a3, a4⟩ := ih y hq
      refine ⟨_, .inr ⟨x, a1, rfl⟩, by simp only; rw [a2, h.1], ?_, ?_⟩
      · have := Int.mul_le_mul_of_nonneg_left h.2.1 (show 0 ≤ a.num by omega)
        simp only [h.1]; omega
      · have := Int.mul_le_mul_of_nonneg_left h.2.2 (show 0 ≤ a.num by omega)
        simp only [h.1]; omega
theorem Wider.ord {l m : List LRow} (h : Wider l m) (hl : ∀ r ∈ l, r.lo ≤ r.hi) : ∀ r ∈ m, r.lo ≤ r.hi := by
  induction h with
  | nil => simp
  | @cons a b l m h _ ih =>
    intro r hr
    rcases List.mem_cons.mp hr with rfl | hr
    · have := hl a (by simp); have := h.2; omega
    · exact ih (fun x hx => hl x (by simp [hx])) r hr
theorem Wider.can {p : Int} {l m : List LRow} (h : Wider l m) (hb : ∀ r ∈ l, LRowB r) (hc : CanW p l) : CanW p m := by
  refine ⟨h.ord hc.1, fun q hq => ?_⟩
  obtain ⟨x, a1, a2, a3, a4⟩ := h.lot hb q hq
  have := hc.2 x a1
  rw [h.numW, ← a2]
  omega
/-- groups of rows that fill the kinds -/
structure GrpR (r : LRow) (P : List Row) : Prop where
  num : numR P = r.num
  ok : ∀ q ∈ P, 0 ≤ q.num ∧ r.lo ≤ q.sc ∧ q.sc ≤ r.hi
inductive Grp : List LRow → List Row → Prop
  | nil : Grp [] []
  | cons {r : LRow} {ls : List LRow} {P L : List Row} : GrpR r P → Grp ls L → Grp (r :: ls) (P ++ L)
theorem Grp.nums {ls : List LRow} {L : List Row} (h : Grp ls L) : numR L = numW ls := by
  induction h with
  | nil => rfl
  | @cons r ls P L h _ ih =>
    rw [numR_app, h.num, ih]; rfl
theorem Grp.lots {ls : List LRow} {L : List Row} (h : Grp ls L) : ∀ q, LotW ls q → ∃ t, (q.1, t) ∈ lotsOf L ∧ (numW ls - q.1, totR L - t) ∈ lotsOf L ∧ q.2.1 ≤ t ∧ t ≤ q.2.2 := by
  induction h with
  | nil =>
    intro q hq
    have : q = (0, 0, 0) := hq
    subst this
    exact ⟨0, by simp [lotsOf], by simp [lotsOf, numW, totR], by simp, by simp⟩
  | @cons r ls P L h _ ih =>
    intro q hq
    have hpt := lotsOf_bd (fun q hq => h.ok q hq) _ (lotsOf_all _)
    simp only [h.num] at hpt
    have eN : numW (r :: ls) = r.num + numW ls := rfl
    have all := lotsOf_all P
    have non := lotsOf_none P
    rw [h.num] at all
    rw [eN, totR_app]
    rcases hq with hq | ⟨x, hq, rfl⟩
    · obtain ⟨t, b1, b2, b3, b4⟩ := ih q hq
      exact ⟨t, lotsOf_app.mpr ⟨_, non, _, b1, by simp⟩, lotsOf_app.mpr ⟨_, all, _, b2, by simp only [Prod.mk.injEq]; constructor <;> omega⟩, b3, b4⟩
    · obtain ⟨t, b1, b2, b3, b4⟩ := ih x hq
      have c1 : r.num * r.lo = r.lo * r.num := Int.mul_comm _ _
      have c2 : r.num * r.hi = r.hi * r.num := Int.mul_comm _ _
      refine ⟨t + totR P, lotsOf_app.mpr ⟨_, all, _, b1, by simp only [Prod.mk.injEq]; constructor <;> omega⟩, lotsOf_app.mpr ⟨_, non, _, b2, by simp only [Prod.mk.injEq]; constructor <;> omega⟩, ?_, ?_⟩ <;> simp only <;> omega
theorem Grp.nn {ls : List LRow} {L : List Row} (h : Grp ls L) : NumNN L := by
  induction h with
  | nil => intro r hr; exact absurd hr (by simp)
  | @cons r ls P L h _ ih =>
    intro q hq
    rcases List.mem_append.mp hq with hq | hq
    · exact (h.ok q hq).1
    · exact ih q hq
theorem Grp.can {p : Int} {ls : List LRow} {L : List Row} (h : Grp ls L) (hp : 0 ≤ p) (hlo : ∀ r ∈ ls, r.lo ≤ r.hi) (hl : lackI p L = 0) (hs : spareI p L = 0) : CanW p ls := by
  refine ⟨hlo, fun q hq => ?_⟩
  obtain ⟨t, b1, b2, b3, b4⟩ := h.lots q hq
  have l1 := lack_ge hp h.nn b1
  have l2 := lack_ge hp h.nn b2
  rw [hl] at l1 l2
  rw [spareI_eq] at hs
  have hs : totR L - ownI p (numR L) = 0 := hs
  rw [h.nums] at hs
  simp only at l1 l2
  constructor <;> omega
def unN (r : LRow) : Int × Int × Int := (r.num, r.lo, r.hi)
theorem LotW.unN : ∀ {l m : List LRow}, l.map G.unN = m.map G.unN → ∀ q, LotW l q → LotW m q
  | [], [], _ => fun q hq => hq
  | [], _ :: _, h => absurd h (by simp)
  | _ :: _, [], h => absurd h (by simp)
  | a :: l, b :: m, h => fun q hq => by
    rw [List.map_cons, List.map_cons, List.cons.injEq] at h
    have h1 : (a.num, a.lo, a.hi) = (b.num, b.lo, b.hi) := h.1
    simp only [Prod.mk.injEq] at h1
    rcases hq with hq | ⟨x, hq, rfl⟩
    · exact .inl (LotW.unN h.2 q hq)
    · exact .inr ⟨x, LotW.unN h.2 x hq, by rw [h1.1, h1.2.1, h1.2.2]⟩
theorem CanW.unN {p : Int} {l m : List LRow} (h : l.map G.unN = m.map G.unN) : CanW p l → CanW p m := by
  rintro ⟨a, b⟩
  have e : numW m = numW l := by
    have : ∀ l : List LRow, numW l = ((l.map G.unN).map (·.1)).sum := fun l => by rw [List.map_map]; rfl
    rw [this, this, h]
  refine ⟨fun r hr => ?_, fun q hq => ?_⟩
  · have : G.unN r ∈ m.map G.unN := List.mem_map.mpr ⟨r, hr, rfl⟩
    rw [← h] at this
    obtain ⟨x, hx, e⟩ := List.mem_map.mp this
    have e : (x.num, x.lo, x.hi) = (r.num, r.lo, r.hi) := e
    simp only [Prod.mk.injEq] at e
    have := a x hx
    omega
  · rw [e]; exact b q (LotW.unN h.symm q hq)
/-- turned about -/
def mirL (w : Int) (r : LRow) : LRow := ⟨r.nm, r.num, w - r.hi, w - r.lo⟩
theorem LotW.mir {w : Int} : ∀ {l : List LRow} {q : Int × Int × Int}, LotW (l.map (mirL w)) q → LotW l (q.1, q.1 * w - q.2.2, q.1 * w - q.2.1)
  | [], q, hq => by
    have : q = (0, 0, 0) := hq
    subst this
    simp [LotW]
  | r :: l, q, hq => by
    rcases hq with hq | ⟨x, hq, rfl⟩
    · exact .inl (LotW.mir hq)
    · refine .inr ⟨_, LotW.mir hq, ?_⟩
      simp only [mirL, Prod.mk.injEq]
      refine ⟨trivial, ?_, ?_⟩ <;> grind
theorem mir_own {p N n : Int} : ownI p N - ownI p (N - n) = n * (p * (N - 1)) - ownI p n := by
  have a := own2 p N
  have b := own2 p (N - n)
  have c := own2 p n
  have d : p * N * (N - 1) - p * (N - n) * (N - n - 1) = 2 * (n * (p * (N - 1))) - p * n * (n - 1) := by grind
  omega
theorem mir_num {w : Int} {l : List LRow} : numW (l.map (mirL w)) = numW l := by
  unfold numW
  rw [List.map_map]; rfl
theorem CanW.mir {p : Int} {l : List LRow} (h : CanW p l) : CanW p (l.map (mirL (p * (numW l - 1)))) := by
  refine ⟨fun r hr => ?_, fun q hq => ?_⟩
  · obtain ⟨x, hx, rfl⟩ := List.mem_map.mp hr
    have := h.1 x hx
    simp only [mirL]; omega
  · have := h.2 _ (LotW.mir hq)
    simp only at this
    rw [mir_num]
    have e := mir_own (p := p) (N := numW l) (n := q.1)
    omega
theorem mir_mir {w : Int} {l : List LRow} : (l.map (mirL w)).map (mirL w) = l := by
  rw [List.map_map]
  conv => rhs; rw [← List.map_id l]
  apply List.map_congr_left
  intro r _
  show mirL w (mirL w r) = r
  simp only [mirL]
  rw [show w - (w - r.lo) = r.lo by omega, show w - (w - r.hi) = r.hi by omega]
theorem CanW.mir_iff {p : Int} {l : List LRow} : CanW p (l.map (mirL (p * (numW l - 1)))) ↔ CanW p l := by
  refine ⟨fun h => ?_, CanW.mir⟩
  have := h.mir
  rw [mir_num, mir_mir] at this
  exact this
/-- divided -/
theorem CanW.div {p : Int} {x y z : LRow} {l : List LRow} (hp : 0 ≤ p) (hy : 0 ≤ y.num) (hz : 0 ≤ z.num) (hn : x.num = y.num + z.num) (ly : y.lo = x.lo) (lz : z.lo = x.lo) (uy : y.hi = x.hi) (uz : z.hi = x.hi) : CanW p (z :: y :: l) ↔ CanW p (x :: l) := by
  have eN : numW (z :: y :: l) = numW (x :: l) := by
    show z.num + (y.num + numW l) = x.num + numW l
    omega
  unfold CanW
  rw [eN]
  constructor
  · rintro ⟨a, b⟩
    refine ⟨fun r hr => ?_, fun q hq => ?_⟩
    · rcases List.mem_cons.mp hr with rfl | hr
      · have := a z (by simp); omega
      · exact a r (by simp [hr])
    · rcases hq with hq | ⟨w, hq, rfl⟩
      · exact b q (.inl (.inl hq))
      · have := b _ (.inr ⟨_, .inr ⟨w, hq, rfl⟩, rfl⟩)
        simp only at this ⊢
        rw [ly, lz, uy, uz] at this
        have e1 : w.1 + y.num + z.num = w.1 + x.num := by omega
        have e2 : w.2.1 + y.num * x.lo + z.num * x.lo = w.2.1 + x.num * x.lo := by rw [hn, Int.add_mul]; omega
        have e3 : w.2.2 + y.num * x.hi + z.num * x.hi = w.2.2 + x.num * x.hi := by rw [hn, Int.add_mul]; omega
        rw [e1, e2, e3] at this
        exact this
  · rintro ⟨a, b⟩
    have key : ∀ (w : Int × Int × Int) (m : Int), LotW l w → 0 ≤ m → m ≤ x.num → ownI p (w.1 + m) ≤ w.2.2 + m * x.hi ∧ w.2.1 + m * x.lo ≤ ownI p (numW (x :: l)) - ownI p (numW (x :: l) - (w.1 + m)) := fun w m hw h0 h1 => by
      have u := b w (.inl hw)
      have v := b _ (.inr ⟨w, hw, rfl⟩)
      simp only at v
      constructor
      · have c := own_convex (s := x.hi) hp (show w.1 ≤ w.1 + m by omega) (show w.1 + m ≤ w.1 + x.num by omega)
        have e1 : (w.1 + m) * x.hi = w.1 * x.hi + m * x.hi := Int.add_mul _ _ _
        have e2 : (w.1 + x.num) * x.hi = w.1 * x.hi + x.num * x.hi := Int.add_mul _ _ _
        omega
      · generalize numW (x :: l) = N at u v ⊢
        have c := own_convex (s := x.lo) hp (show N - (w.1 + x.num) ≤ N - (w.1 + m) by omega) (show N - (w.1 + m) ≤ N - w.1 by omega)
        have e1 : (N - (w.1 + m)) * x.lo = (N - w.1) * x.lo - m * x.lo := by grind
        have e2 : (N - (w.1 + x.num)) * x.lo = (N - w.1) * x.lo - x.num * x.lo := by grind
        omega
    refine ⟨fun r hr => ?_, fun q hq => ?_⟩
    · have := a x (by simp)
      rcases List.mem_cons.mp hr with rfl | hr
      · omega
      · rcases List.mem_cons.mp hr with rfl | hr
        · omega
        · exact a r (by simp [hr])
    · rcases hq with hq | ⟨w, hq, rfl⟩
      · rcases hq with hq | ⟨w, hq, rfl⟩
        · exact b q (.inl hq)
        · have := key w y.num hq hy (by omega)
          simp only [ly, uy]
          exact this
      · rcases hq with hq | ⟨w, hq, rfl⟩
        · have := key w z.num hq hz (by omega)
          simp only [lz, uz]
          exact this
        · have := key w (y.num + z.num) hq (by omega) (by omega)
          simp only [ly, uy, lz, uz]
          rw [Int.add_mul, Int.add_mul] at this
          have e1 : w.1 + (y.num + z.num) = w.1 + y.num + z.num := by omega
          rw [e1] at this
          omega
end G
namespace G
end G
namespace G
def mirR (B : Int) (rs : List Row) : List Row := rs.map fun r => ⟨r.nm, r.num, B - r.sc⟩
section
variable {p B : Int} {rs : List Row}
theorem mirR_at {i : Nat} (hi : i < rs.length) : nmI (mirR B rs) i = nmI rs i ∧ scI (mirR B rs) i = B - scI rs i := by
  unfold nmI scI mirR
  rw [List.getElem?_map, List.getElem?_eq_getElem hi]
  exact ⟨rfl, rfl⟩
theorem mirR_num {l : List Nat} (hm : ∀ i ∈ l, i < rs.length) : numS (mirR B rs) l = numS rs l := sumL_congr fun i hi => (mirR_at (hm i hi)).1
theorem mirR_sc {l : List Nat} (hm : ∀ i ∈ l, i < rs.length) : scS (mirR B rs) l = B * numS rs l - scS rs l := by
  have : scS (mirR B rs) l = sumL (fun i => B * nmI rs i + (-1) * (nmI rs i * scI rs i)) l := sumL_congr fun i hi => by
    rw [(mirR_at (hm i hi)).1, (mirR_at (hm i hi)).2]; grind
  rw [this, sumL_add, sumL_mul, sumL_mul]
  unfold numS scS
  omega
/-- the others -/
def cmpl (n : Nat) (l : List Nat) : List Nat := (List.range n).filter fun i => !decide (i ∈ l)
theorem cmpl_ok (n : Nat) (l : List Nat) : (cmpl n l).Nodup ∧ ∀ i ∈ cmpl n l, i < n :=
  ⟨List.nodup_range.sublist List.filter_sublist, fun i hi => by simpa using (List.mem_filter.mp hi).1⟩
theorem cmpl_sum (f : Nat → Int) {n : Nat} {l : List Nat} (hl : l.Nodup) (hm : ∀ i ∈ l, i < n) : sumL f l + sumL f (cmpl n l) = sumL f (List.range n) := by
  have hperm : ((List.range n).filter fun i => decide (i ∈ l)).Perm l := by
    refine (List.perm_ext_iff_of_nodup (List.nodup_range.sublist List.filter_sublist) hl).mpr fun i => ?_
    simp only [List.mem_filter, List.mem_range, decide_eq_true_eq]
    exact ⟨fun h => h.2, fun h => ⟨hm i h, h⟩⟩
  rw [← sumL_perm f hperm]
  unfold cmpl
  have : ∀ q : List Nat, sumL f (q.filter fun i => decide (i ∈ l)) + sumL f (q.filter fun i => !decide (i ∈ l)) = sumL f q := fun q => by
    induction q with
    | nil => rfl
    | cons x q ih =>
      rw [sumL_cons, List.filter_cons, List.filter_cons]
      by_cases h : x ∈ l
      · simp [h, sumL_cons]; omega
      · simp [h, sumL_cons]; omega
  exact this _
theorem mir_lot {l : List Nat} (hl : l.Nodup) (hm : ∀ i ∈ l, i < rs.length) (hB : B = p * (numS rs (List.range rs.length) - 1)) :
    ownI p (numS (mirR B rs) l) - scS (mirR B rs) l = (ownI p (numS rs (cmpl rs.length l)) - scS rs (cmpl rs.length l)) + spareI p rs := by
  rw [mirR_num hm, mirR_sc hm]
  have e1 := cmpl_sum (nmI rs) hl hm
  have e2 := cmpl_sum (fun i => nmI rs i * scI rs i) hl hm
  have e1 : numS rs l + numS rs (cmpl rs.length l) = numS rs (List.range rs.length) := e1
  have e2 : scS rs l + scS rs (cmpl rs.length l) = scS rs (List.range rs.length) := e2
  unfold spareI
  rw [← e2, ← e1, own_add]
  rw [← e1] at hB
  generalize numS rs l = a at *
  generalize numS rs (cmpl rs.length l) = b at *
  have h1 := own2 p a
  subst hB
  have : 2 * (p * (a + b - 1) * a) = 2 * (p * a * (a - 1)) + 2 * (p * a * b) := by grind
  omega
theorem mir_lack (hp : 0 ≤ p) (h : ∀ i < rs.length, 0 ≤ nmI rs i) (hB : B = p * (numS rs (List.range rs.length) - 1)) : lackI p (mirR B rs) = lackI p rs + spareI p rs ∧ spareI p (mirR B rs) = 0 - spareI p rs := by
  have hlen : (mirR B rs).length = rs.length := by simp [mirR]
  have hr : ∀ i ∈ List.range rs.length, i < rs.length := fun i hi => by simpa using hi
  have hc0 : cmpl rs.length (List.range rs.length) = [] := by
    unfold cmpl
    exact List.filter_eq_nil_iff.mpr fun i hi => by simpa using hi
  have hfull := mir_lot List.nodup_range hr hB
  rw [hc0] at hfull
  have z1 : numS rs [] = 0 := rfl
  have z2 : scS rs [] = 0 := rfl
  rw [z1, z2, own_zero] at hfull
  have hsp : spareI p (mirR B rs) = 0 - spareI p rs := by
    show scS (mirR B rs) (List.range (mirR B rs).length) - ownI p (numS (mirR B rs) (List.range (mirR B rs).length)) = _
    rw [hlen]; omega
  have hge : 0 ≤ lackI p rs + spareI p rs := by
    have := lack_kinds hp h List.nodup_range hr
    unfold spareI
    omega
  refine ⟨Int.le_antisymm (lackI_le hge fun l hl hi => ?_) ?_, hsp⟩
  · rw [hlen] at hi
    rw [mir_lot hl hi hB]
    obtain ⟨c1, c2⟩ := cmpl_ok rs.length l
    have := lack_kinds hp h c1 c2
    omega
  · obtain ⟨l, a1, a2, e⟩ := lackI_at p rs
    obtain ⟨c1, c2⟩ := cmpl_ok rs.length l
    have hm : ∀ i < (mirR B rs).length, 0 ≤ nmI (mirR B rs) i := fun i hi => by rw [hlen] at hi; rw [(mirR_at hi).1]; exact h i hi
    have := lack_kinds hp hm c1 fun i hi => by rw [hlen]; exact c2 i hi
    rw [mir_lot c1 c2 hB] at this
    have hcc : (cmpl rs.length (cmpl rs.length l)).Perm l := by
      refine (List.perm_ext_iff_of_nodup (cmpl_ok _ _).1 a1).mpr fun i => ?_
      unfold cmpl
      simp only [List.mem_filter, List.mem_range, Bool.not_eq_true', decide_eq_false_iff_not]
      constructor
      · rintro ⟨h1, h2⟩
        apply Classical.byContradiction
        intro h3
        exact h2 ⟨h1, h3⟩
      · intro h1
        exact ⟨a2 i h1, fun h2 => h2.2 h1⟩
    rw [show numS rs (cmpl rs.length (cmpl rs.length l)) = numS rs l from sumL_perm _ hcc, show scS rs (cmpl rs.length (cmpl rs.length l)) = scS rs l from sumL_perm _ hcc] at this
    omega
end
end G
namespace G
theorem lack_nums {p : Int} {L M : List Row} (h : L.map (fun q => (q.num, q.sc)) = M.map fun q => (q.num, q.sc)) : lackI p L = lackI p M ∧ spareI p L = spareI p M := by
  have e : ∀ L : List Row, (L.map (toF [])).map rowF = (L.map fun q => (q.num, q.sc)).map fun x => (⟨[], x.1, x.2⟩ : Row) := fun L => by
    rw [List.map_map, List.map_map]; rfl
  have a := rowF_lack (p := p) (ls := []) (L := L)
  have b := rowF_lack (p := p) (ls := []) (L := M)
  rw [e, h, ← e M] at a
  exact ⟨a.1.symm.trans b.1, a.2.symm.trans b.2⟩
structure Turn (w : Int) (ls ms : List LRow) : Prop where
  len : ms.length = ls.length
  num : ∀ i, i < ls.length → (lrAt ms i).num = (lrAt ls i).num
  lo : ∀ i, i < ls.length → (lrAt ms i).lo = w - (lrAt ls i).hi
  hi : ∀ i, i < ls.length → (lrAt ms i).hi = w - (lrAt ls i).lo
theorem Turn.symm {w : Int} {ls ms : List LRow} (h : Turn w ls ms) : Turn w ms ls :=
  ⟨h.len.symm, fun i hi => (h.num i (by rw [← h.len]; exact hi)).symm, fun i hi => by have := h.hi i (by rw [← h.len]; exact hi); omega, fun i hi => by have := h.lo i (by rw [← h.len]; exact hi); omega⟩
def turnR (w : Int) (ls ms : List LRow) (q : Row) : Row := ⟨(lrAt ms (ixOf ls q.nm)).nm, q.num, w - q.sc⟩
theorem Turn.fills {w : Int} {ls ms : List LRow} {L : List Row} (h : Turn w ls ms) (nl : (ls.map (·.nm)).Nodup) (nm : (ms.map (·.nm)).Nodup) (hf : Fills ls L) : Fills ms (L.map (turnR w ls ms)) := by
  have ix : ∀ q ∈ L, ∃ i, i < ls.length ∧ (lrAt ls i).nm = q.nm ∧ ixOf ls q.nm = i := fun q hq => by
    obtain ⟨i, hi, en, _⟩ := hf.mem q hq
    exact ⟨i, hi, en, by rw [← en]; exact ixOf_at nl hi⟩
  refine ⟨fun q' hq' => ?_, ?_, fun i hi => ?_, by rw [List.length_map]; exact hf.len⟩
  · obtain ⟨q, hq, rfl⟩ := List.mem_map.mp hq'
    obtain ⟨i, hi, en, a1, a2, a3, a4⟩ := hf.mem q hq
    have ex : ixOf ls q.nm = i := by rw [← en]; exact ixOf_at nl hi
    refine ⟨i, by rw [h.len]; exact hi, by show _ = (lrAt ms (ixOf ls q.nm)).nm; rw [ex], a1, by rw [h.num i hi]; exact a2, ?_, ?_⟩
    · rw [h.lo i hi]; show w - _ ≤ w - q.sc; omega
    · rw [h.hi i hi]; show w - q.sc ≤ w - _; omega
  · rw [List.pairwise_map]
    refine hf.nd.imp_of_mem fun {a b} ha hb hn hc => hn ?_
    obtain ⟨i, hi, ei, xi⟩ := ix a ha
    obtain ⟨j, hj, ej, xj⟩ := ix b hb
    have hc1 : (lrAt ms (ixOf ls a.nm)).nm = (lrAt ms (ixOf ls b.nm)).nm := hc.1
    have hc2 : w - a.sc = w - b.sc := hc.2
    rw [xi, xj] at hc1
    have e1 := ixOf_at nm (i := i) (by rw [h.len]; exact hi)
    have e2 := ixOf_at nm (i := j) (by rw [h.len]; exact hj)
    rw [hc1, e2] at e1
    subst e1
    exact ⟨by rw [← ei, ← ej], by omega⟩
  · have hi' : i < ls.length := by rw [← h.len]; exact hi
    unfold cntI
    rw [List.filter_map, List.map_map, h.num i hi', ← hf.cnt i hi']
    unfold cntI
    have : L.filter ((fun q => q.nm == (lrAt ms i).nm) ∘ turnR w ls ms) = L.filter fun q => q.nm == (lrAt ls i).nm := by
      apply List.filter_congr
      intro q hq
      obtain ⟨j, hj, ej, xj⟩ := ix q hq
      show ((lrAt ms (ixOf ls q.nm)).nm == (lrAt ms i).nm) = (q.nm == (lrAt ls i).nm)
      rw [xj, ← ej]
      by_cases hji : j = i
      · subst hji; rw [beq_self_eq_true, beq_self_eq_true]
      · have n1 : ¬ (lrAt ms j).nm = (lrAt ms i).nm := fun e => by
          have e1 := ixOf_at nm (i := j) (by rw [h.len]; exact hj)
          rw [e, ixOf_at nm hi] at e1
          exact hji e1.symm
        have n2 : ¬ (lrAt ls j).nm = (lrAt ls i).nm := fun e => by
          have e1 := ixOf_at nl hj
          rw [e, ixOf_at nl hi'] at e1
          exact hji e1.symm
        rw [beq_eq_false_iff_ne.mpr n1, beq_eq_false_iff_ne.mpr n2]
    rw [this]; rfl
theorem Turn.numW {w : Int} {ls ms : List LRow} (h : Turn w ls ms) : G.numW ms = G.numW ls := by
  unfold G.numW
  rw [map_rng ms ⟨[], 0, 0, 0⟩, map_rng ls ⟨[], 0, 0, 0⟩, h.len]
  congr 1
  exact List.map_congr_left fun i hi => h.num i (by simpa using hi)
theorem Turn.can {p : Int} {ls ms : List LRow} (h : Turn (p * (G.numW ls - 1)) ls ms) : CanW p ms ↔ CanW p ls := by
  have e : ms.map unN = (ls.map (mirL (p * (G.numW ls - 1)))).map unN := by
    rw [List.map_map, map_rng ms ⟨[], 0, 0, 0⟩, map_rng ls ⟨[], 0, 0, 0⟩, h.len]
    apply List.map_congr_left
    intro i hi
    have hi : i < ls.length := by simpa using hi
    have a := h.num i hi
    have b := h.lo i hi
    have c := h.hi i hi
    show ((lrAt ms i).num, (lrAt ms i).lo, (lrAt ms i).hi) = ((lrAt ls i).num, _ - (lrAt ls i).hi, _ - (lrAt ls i).lo)
    rw [a, b, c]
  exact ⟨fun z => CanW.mir_iff.mp (CanW.unN e z), fun z => CanW.unN e.symm (CanW.mir_iff.mpr z)⟩
theorem Turn.lack {p : Int} {ls ms : List LRow} {L : List Row} (hp : 0 ≤ p) (hf : FilledOk p ls L) (hn : ∀ q ∈ L, 0 ≤ q.num) : lackI p (L.map (turnR (p * (G.numW ls - 1)) ls ms)) = 0 ∧ spareI p (L.map (turnR (p * (G.numW ls - 1)) ls ms)) = 0 := by
  have e := lack_nums (p := p) (L := L.map (turnR (p * (G.numW ls - 1)) ls ms)) (M := mirR (p * (G.numW ls - 1)) L) (by unfold mirR; rw [List.map_map, List.map_map]; rfl)
  have hs : numS L (List.range L.length) = G.numW ls := by
    rw [← nums_sum]; exact hf.sums
  have := mir_lack (p := p) (rs := L) (B := p * (G.numW ls - 1)) hp (NumNN.at_ hn) (by rw [hs])
  rw [e.1, e.2, this.1, this.2, hf.lack, hf.spare]
  exact ⟨rfl, rfl⟩
end G
namespace G
section
variable {Γ : Ctx} {fd fl fp fs fe ff fg fo fi fc fn ft fr0 : Fd}
def SpTurned (f : Fd) : Prop := ∀ (p : Int) (ls ms : List LRow) (L : List Row) (w : Int) st, 1 ≤ p → p ≤ 9 → LOk ls → LOk ms → w = p * (numW ls - 1) → Turn w ls ms → IsFilled p ls (some L) → OP (fun r st' => r = .bl true ∧ ∃ ex, st' = st ++ ex) (f [.int p, .lst (ls.map encW), .lst (ms.map encW), .int w] st)
theorem is_lst {l : List D} {st : Store} : op2 .is st (.lst l) .non = some (.bl false) := rfl
theorem sp_turned (hs : SpShaped fs) (hf : SpFill ff) (he : SpEnough fe) : SpTurned (runF 4 10 (m_turned Γ fs ff fe)) := by
  intro p ls ms L w st h1 h9 h hm ew ht ho
  have hk := filled_ok h ho
  have hlen := hk.fl.len
  have hnn : ∀ q ∈ L, 0 ≤ q.num := fun q hq => by
    obtain ⟨i, hi, _, a1, _⟩ := hk.fl.mem q hq
    omega
  refine OP_run rfl ?_
  delta m_turned
  simp! only [hf p ls _ _ h1 h9 h ho, optF]
  refine (hs ls L _ h hk.fl).mono ?_
  rintro _ st1 ⟨⟨o1, rfl⟩, rfl⟩
  simp! only [is_lst]
  rw [comp_mapL (enc := encF) (g := fun x => encR ⟨(lrAt ms x.1).nm, x.2.1, w - x.2.2⟩) (L.map (toF ls)) (lim_ge (by rw [List.length_map]; omega)) fun x hx => by
    obtain ⟨q, hq, rfl⟩ := List.mem_map.mp hx
    obtain ⟨i, hi, en, _⟩ := hk.fl.mem q hq
    have ex : ixOf ls q.nm = i := by rw [← en]; exact ixOf_at h.nd hi
    have hrow : ∀ st, op2 .idx st (.lst (ms.map encW)) (.int (i : Int)) = some (encW (lrAt ms i)) := fun st => by
      rw [map_rng ms ⟨[], 0, 0, 0⟩ encW]
      exact ixR (by rw [ht.len]; exact hi)
    have i0 : ∀ (r : LRow) st, op2 .idx st (encW r) (.int 0) = some (.str r.nm) := fun _ _ => rfl
    apply OP_eq
    simp! only [turnV_eq, encF, toF, ex, hrow, i0, encR]]
  have e : ((L.map (toF ls)).map fun x => encR ⟨(lrAt ms x.1).nm, x.2.1, w - x.2.2⟩) = (L.map (turnR w ls ms)).map encR := by
    rw [List.map_map, List.map_map]; rfl
  simp! only [e]
  have hf2 := ht.fills h.nd hm.nd hk.fl
  refine (hs ms _ _ hm hf2).mono ?_
  rintro _ st2 ⟨⟨o2, rfl⟩, rfl⟩
  have hl2 := Turn.lack (ms := ms) (show 0 ≤ p by omega) hk hnn
  rw [← ew] at hl2
  have hlack := rowF_lack (p := p) (ls := ms) (L := L.map (turnR w ls ms))
  have := he p ((L.map (turnR w ls ms)).map (toF ms)) (st ++ [o1] ++ [o2]) h1 h9 (by simp; omega) (fun q hq => by
    obtain ⟨x, hx, rfl⟩ := List.mem_map.mp hq
    obtain ⟨i, hi, _, a1, a2, a3, a4⟩ := hf2.mem x hx
    have hb := hm.ok (lrAt ms i) (by rw [lrAt_eq hi]; exact List.getElem_mem hi)
    have := hb.n2; have := hb.l1; have := hb.h2
    exact ⟨by show 0 ≤ x.num; omega, by show x.num ≤ _; omega, by show 0 ≤ x.sc; omega, by show x.sc ≤ _; omega⟩) (by rw [hlack.1]; exact hl2.1) (by rw [hlack.2]; exact hl2.2)
  simp! only [isnot_lst, this]
  exact ⟨[o1, o2], by simp⟩
def capL (w : Int) (r : LRow) : LRow := ⟨r.nm, r.num, if r.lo < w then r.lo else w, if r.hi < w then r.hi else w⟩
def rflL (w : Int) (ns : List (List Nat)) (ls : List LRow) (i : Nat) : LRow := ⟨ns.getD i [], (lrAt ls i).num, w - (lrAt ls i).hi, w - (lrAt ls i).lo⟩
theorem sp_right51 (hd : SpDip fd) (hg : SpGreat fg) (hl : SpLoosened fl) (hn : SpNames fn) (hr : SpFilledR fr0) (hp : SpLPoss fp) (hi : SpFilling fi) (ht : SpTurned ft) : SpRight (runF 1 9 (m_right_k51 Γ fd fl fg fn fp fi ft)) := by
  intro l st hW
  refine OP_run rfl ?_
  delta m_right_k51
  simp! only []
  refine (hd l _ 9 st hW (by omega) (by omega) (by omega)).mono ?_
  rintro _ st2 ⟨k, rfl, hk0, hk1, hw2⟩
  simp! only []
  generalize hpp : 1 + k = p
  have h1 : 1 ≤ p := by omega
  have h9 : p ≤ 9 := by omega
  refine (hg l _ p 6 st2 hw2 (by omega) h1 h9 (by omega) (by omega)).mono ?_
  rintro _ st3 ⟨rs, rfl, hrs, hl6, hsc, hw3⟩
  simp! only []
  refine (hl l _ rs st3 hw3 (by omega) hrs hsc).mono ?_
  rintro _ st4 ⟨ls0, rfl, hls0, hlen, hw4⟩
  have l6 := hls0.l6
  have l1 := hls0.l1
  have i0 : ∀ (r : LRow) st, op2 .idx st (encW r) (.int 0) = some (.str r.nm) := fun _ _ => rfl
  have i1 : ∀ (r : LRow) st, op2 .idx st (encW r) (.int 1) = some (.int r.num) := fun _ _ => rfl
  have i2 : ∀ (r : LRow) st, op2 .idx st (encW r) (.int 2) = some (.int r.lo) := fun _ _ => rfl
  have i3 : ∀ (r : LRow) st, op2 .idx st (encW r) (.int 3) = some (.int r.hi) := fun _ _ => rfl
  have hN : 1 ≤ numW ls0 ∧ numW ls0 ≤ 6 * 10 ^ 30 := by
    have : ∀ ls : List LRow, (∀ r ∈ ls, LRowB r) → (ls.length : Int) ≤ numW ls ∧ numW ls ≤ ls.length * 10 ^ 30 := fun ls => by
      induction ls with
      | nil => intro _; simp [numW]
      | cons r ls ih =>
        intro hb
        have := ih fun x hx => hb x (by simp [hx])
        have hr := hb r (by simp)
        have := hr.n1; have := hr.n2
        have e : numW (r :: ls) = r.num + numW ls := rfl
        rw [e, List.length_cons]
        have : ((ls.length + 1 : Nat) : Int) * 10 ^ 30 = ls.length * 10 ^ 30 + 10 ^ 30 := by rw [Int.natCast_add, Int.add_mul]; simp
        omega
    have := this ls0 hls0.ok
    have : (ls0.length : Int) * 10 ^ 30 ≤ 6 * 10 ^ 30 := Int.mul_le_mul_of_nonneg_right (by omega) (by omega)
    omega
  simp! only []
  rw [comp_mapL (enc := encW) (g := fun r => .int r.num) ls0 (lim_ge (by omega)) fun r hr => by
    apply OP_eq
    simp! only [turnV_eq, i1]]
  have eW : (ls0.map fun r => r.num).sum = numW ls0 := rfl
  have m1 : okMul p (numW ls0 - 1) = true := okMul_of (by omega) (by omega) (by omega) (by omega)
  simp! only [sum_mapI, eW, m1]
  generalize hw : p * (numW ls0 - 1) = w
  have hw0 : 0 ≤ w := by rw [← hw]; exact Int.mul_nonneg (by omega) (by omega)
  have hw1 : w ≤ 10 ^ 32 := by
    have a : p * (numW ls0 - 1) ≤ 9 * (numW ls0 - 1) := Int.mul_le_mul_of_nonneg_right h9 (by omega)
    omega
  rw [comp_mapL (enc := encW) (g := fun r => encW (capL w r)) ls0 (lim_ge (by omega)) fun r hr => by
    apply OP_eq
    simp! only [turnV_eq, i0, i1, i2, i3, encW, capL]]
  have ecap : (ls0.map fun r => encW (capL w r)) = (ls0.map (capL w)).map encW := by rw [List.map_map]; rfl
  rw [ecap]
  have hnum : numW (ls0.map (capL w)) = numW ls0 := by unfold numW; rw [List.map_map]; rfl
  have hcap : LOk (ls0.map (capL w)) := by
    refine ⟨by simpa using l1, by simpa using l6, fun r hr => ?_, fun r hr => ?_, by rw [List.map_map]; exact hls0.nd⟩
    · obtain ⟨x, hx, rfl⟩ := List.mem_map.mp hr
      exact hls0.nm x hx
    · obtain ⟨x, hx, rfl⟩ := List.mem_map.mp hr
      have hb := hls0.ok x hx
      have b1 := hb.n1; have b2 := hb.n2; have b3 := hb.l1; have b4 := hb.l2; have b5 := hb.h1; have b6 := hb.h2
      refine ⟨b1, b2, ?_, ?_, ?_, ?_⟩ <;> simp only [capL] <;> split <;> omega
  have hcapb : ∀ r ∈ ls0.map (capL w), r.lo ≤ w ∧ r.hi ≤ w := fun r hr => by
    obtain ⟨x, hx, rfl⟩ := List.mem_map.mp hr
    refine ⟨?_, ?_⟩ <;> simp only [capL] <;> split <;> omega
  rw [← hnum] at hw
  generalize hls' : ls0.map (capL w) = ls at *
  have hll : ls.length = ls0.length := by rw [← hls']; simp
  simp! only [List.length_map]
  refine (hn l _ ls.length st4 hw4 (by omega) (by omega) (by omega)).mono ?_
  rintro _ st5 ⟨ns, rfl, hnl, hok, hnd, hw5⟩
  have hnl' : ns.length = ls.length := by omega
  simp! only [List.length_map]
  have hle : ¬ ((ls.length : Int) < 0) := by omega
  refine ⟨⟨by unfold LIM; omega, by unfold LIM; omega⟩, ?_⟩
  rw [range0, Int.toNat_natCast]
  rw [comp_mapL (enc := fun (k : Nat) => D.int (k : Int)) (g := fun i => encW (rflL w ns ls i)) (List.range ls.length) (lim_ge (by simp; omega)) fun i hi => by
    have hi2 : i < ls.length := by simpa using hi
    have e1 : atI (ns.map D.str) (i : Int) = some (.str (ns.getD i [])) := atI_map [] (by omega)
    have hrow : ∀ st, op2 .idx st (.lst (ls.map encW)) (.int (i : Int)) = some (encW (lrAt ls i)) := fun st => by
      rw [map_rng ls ⟨[], 0, 0, 0⟩ encW]
      exact ixR hi2
    apply OP_eq
    simp! only [turnV_eq, e1, hrow, i0, i1, i2, i3, encW, rflL]]
  have emap : ((List.range ls.length).map fun i => encW (rflL w ns ls i)) = ((List.range ls.length).map (rflL w ns ls)).map encW := by rw [List.map_map]; rfl
  rw [emap]
  generalize hms : (List.range ls.length).map (rflL w ns ls) = ms
  have hml : ms.length = ls.length := by rw [← hms]; simp
  have hat : ∀ i, i < ls.length → lrAt ms i = rflL w ns ls i := fun i hi => by
    rw [lrAt_eq (by omega)]
    subst hms
    simp
  have hT : Turn w ls ms := ⟨hml, fun i hi => by rw [hat i hi]; rfl, fun i hi => by rw [hat i hi]; rfl, fun i hi => by rw [hat i hi]; rfl⟩
  have hmsok : LOk ms := by
    refine ⟨by omega, by omega, fun r hr => ?_, fun r hr => ?_, ?_⟩
    · rw [← hms] at hr
      obtain ⟨i, hi, rfl⟩ := List.mem_map.mp hr
      exact hok _ (getD_mem [] (by rw [hnl']; simpa using hi))
    · rw [← hms] at hr
      obtain ⟨i, hi, rfl⟩ := List.mem_map.mp hr
      have hi : i < ls.length := by simpa using hi
      have hmem : lrAt ls i ∈ ls := by rw [lrAt_eq hi]; exact List.getElem_mem hi
      have hb := hcap.ok _ hmem
      have hc := hcapb _ hmem
      have b1 := hb.n1; have b2 := hb.n2; have b3 := hb.l1; have b5 := hb.h1
      refine ⟨b1, b2, ?_, ?_, ?_, ?_⟩ <;> simp only [rflL] <;> omega
    · rw [← hms, List.map_map]
      have : (List.range ls.length).map ((·.nm) ∘ rflL w ns ls) = ns := by
        rw [← hnl']
        have := map_rng ns [] id
        rw [List.map_id] at this
        exact this.symm
      rw [this]; exact hnd
  obtain ⟨o, ho⟩ := filled_ex hr st5 h1 h9 hcap
  obtain ⟨o2, ho2⟩ := filled_ex hr st5 h1 h9 hmsok
  have hoo : o.isSome = o2.isSome := by
    have a := filled_iff (by omega) hcap ho
    have b := filled_iff (by omega) hmsok ho2
    rw [← hw] at hT
    have c := hT.can
    cases h1 : o.isSome <;> cases h2 : o2.isSome <;> simp_all
  have hin : ∀ (b : Bool) st, op2 .nmem st (.str (if b = true then [84, 114, 117, 101] else [70, 97, 108, 115, 101])) (.lst [.str [84, 114, 117, 101], .str [70, 97, 108, 115, 101]]) = some (.bl false) := fun b _ => by cases b <;> rfl
  simp! only [hp p ls o _ h1 h9 hcap ho, repr_tf, hin]
  refine (hi p ls o _ st5 h1 h9 hcap ho rfl).mono ?_
  rintro _ _ ⟨rfl, ex, rfl⟩
  simp! only []
  refine (hi p ms o2 _ _ h1 h9 hmsok ho2 hoo).mono ?_
  rintro _ _ ⟨rfl, ex2, rfl⟩
  simp! only []
  cases o with
  | none => simp! only [Option.isSome_none]
  | some L =>
    cases o2 with
    | none => cases hoo
    | some L2 =>
      simp! only [Option.isSome_some]
      refine (ht p ls ms L w _ h1 h9 hcap hmsok hw.symm hT ho).mono ?_
      rintro _ _ ⟨rfl, ex3, rfl⟩
      simp! only []
      refine (ht p ms ls L2 w _ h1 h9 hmsok hcap (by rw [hT.numW]; exact hw.symm) hT.symm ho2).mono ?_
      rintro _ _ ⟨rfl, ex4, rfl⟩
      simp! only []
end
end G
namespace K51
open PySem PySem.Spec PyProof.Rows G
abbrev prog : Program := PySem.Challenge.pw_scorelists_k51_whole_ranges_mirrored
def top (i : Nat) : Stmt := prog.main.body.getD i (.Pass ⟨0, 0, 0, 0⟩)
def sub (i j : Nat) : Stmt := match top i with
  | .ClassDef _ _ _ b _ _ _ _ _ _ _ => b.getD j (.Pass ⟨0, 0, 0, 0⟩)
  | _ => .Pass ⟨0, 0, 0, 0⟩
def d0 : Df := ⟨.me "InvalidNumber" "__init__", "__init__", "InvalidNumber.__init__", L2.defArgs (sub 2 0), L2.defBody (sub 2 0), L2.defScope (sub 2 0), ["self", "given"], ["self", "given"], fun _ => badS, false, false⟩
def d1 : Df := ⟨.me "InvalidRows" "__init__", "__init__", "InvalidRows.__init__", L2.defArgs (sub 3 0), L2.defBody (sub 3 0), L2.defScope (sub 3 0), ["self", "index"], ["self", "index"], fun _ => badS, false, false⟩
def d2 : Df := ⟨.glo "is_integer", "is_integer", "is_integer", L2.defArgs (top 12), L2.defBody (top 12), L2.defScope (top 12), ["value"], ["value"], fun Γ => m_is_integer Γ, false, false⟩
def d3 : Df := ⟨.glo "is_within", "is_within", "is_within", L2.defArgs (top 13), L2.defBody (top 13), L2.defScope (top 13), ["value", "least", "most"], ["value", "least", "most"], fun Γ => m_is_within Γ (Γ.call 2), false, false⟩
def d4 : Df := ⟨.glo "is_name", "is_name", "is_name", L2.defArgs (top 14), L2.defBody (top 14), L2.defScope (top 14), ["value", "sign"], ["value"], fun Γ => m_is_name Γ, false, false⟩
def d5 : Df := ⟨.glo "check_points", "check_points", "check_points", L2.defArgs (top 15), L2.defBody (top 15), L2.defScope (top 15), ["value"], ["value"], fun Γ => m_check_points Γ (Γ.call 3) 0, false, false⟩
def d6 : Df := ⟨.glo "own_points", "own_points", "own_points", L2.defArgs (top 17), L2.defBody (top 17), L2.defScope (top 17), ["points", "number"], ["points", "number"], fun Γ => m_own_points Γ, false, false⟩
def d7 : Df := ⟨.glo "ladders", "ladders", "ladders", L2.defArgs (top 18), L2.defBody (top 18), L2.defScope (top 18), ["rows", "order", "at", "found", "players", "total", "chosen"], ["rows"], fun Γ => m_ladders Γ, false, false⟩
def d8 : Df := ⟨.glo "lack_of", "lack_of", "lack_of", L2.defArgs (top 19), L2.defBody (top 19), L2.defScope (top 19), ["points", "rows", "most", "lot_rows", "players", "total", "chosen"], ["points", "rows"], fun Γ => m_lack_of Γ (Γ.call 7) (Γ.call 6), false, false⟩
def d9 : Df := ⟨.glo "spare_of", "spare_of", "spare_of", L2.defArgs (top 20), L2.defBody (top 20), L2.defScope (top 20), ["points", "rows", "players", "total", "chosen"], ["points", "rows"], fun Γ => m_spare_of Γ (Γ.call 7) (Γ.call 6), false, false⟩
def d10 : Df := ⟨.glo "is_possible", "is_possible", "is_possible", L2.defArgs (top 21), L2.defBody (top 21), L2.defScope (top 21), ["points", "rows"], ["points", "rows"], fun Γ => m_is_possible Γ (Γ.call 9) (Γ.call 8), false, false⟩
def d11 : Df := ⟨.glo "is_loose_row", "is_loose_row", "is_loose_row", L2.defArgs (top 23), L2.defBody (top 23), L2.defScope (top 23), ["value", "score"], ["value"], fun Γ => m_is_loose_row Γ (Γ.call 4) (Γ.call 3), false, false⟩
def d12 : Df := ⟨.glo "wrong_loose_row", "wrong_loose_row", "wrong_loose_row", L2.defArgs (top 24), L2.defBody (top 24), L2.defScope (top 24), ["rows", "names", "at", "row"], ["rows"], fun Γ => m_wrong_row Γ (Γ.call 11), false, false⟩
def d13 : Df := ⟨.glo "check_loose_rows", "check_loose_rows", "check_loose_rows", L2.defArgs (top 25), L2.defBody (top 25), L2.defScope (top 25), ["rows", "wrong"], ["rows"], fun Γ => m_check_rows Γ 1 (Γ.call 12), false, false⟩
def d14 : Df := ⟨.glo "level", "level", "level", L2.defArgs (top 26), L2.defBody (top 26), L2.defScope (top 26), ["row", "score"], ["row", "score"], fun Γ => m_level Γ, false, false⟩
def d15 : Df := ⟨.glo "total_at", "total_at", "total_at", L2.defArgs (top 27), L2.defBody (top 27), L2.defScope (top 27), ["rows", "score", "row"], ["rows", "score"], fun Γ => m_total_at Γ (Γ.call 14), false, false⟩
def d16 : Df := ⟨.glo "last_level", "last_level", "last_level", L2.defArgs (top 28), L2.defBody (top 28), L2.defScope (top 28), ["rows", "whole", "low", "high", "middle"], ["rows", "whole"], fun Γ => m_last_level Γ (Γ.call 15), false, false⟩
def d17 : Df := ⟨.glo "levelled", "levelled", "levelled", L2.defArgs (top 29), L2.defBody (top 29), L2.defScope (top 29), ["rows", "whole", "left", "row", "score", "found", "here", "more", "number", "points"], ["rows", "whole"], fun Γ => m_levelled Γ (Γ.call 16) (Γ.call 15) (Γ.call 14), false, false⟩
def d18 : Df := ⟨.glo "filled_rows", "filled_rows", "filled_rows", L2.defArgs (top 30), L2.defBody (top 30), L2.defScope (top 30), ["points", "rows", "whole", "found", "row"], ["points", "rows"], fun Γ => m_filled_rows Γ (Γ.call 6) (Γ.call 15) (Γ.call 17) (Γ.call 10), false, false⟩
def d19 : Df := ⟨.glo "loose_possible", "loose_possible", "loose_possible", L2.defArgs (top 31), L2.defBody (top 31), L2.defScope (top 31), ["points", "rows"], ["points", "rows"], fun Γ => m_loose_possible Γ (Γ.call 5) (Γ.call 13) (Γ.call 18), false, false⟩
def d20 : Df := ⟨.glo "filled", "filled", "filled", L2.defArgs (top 32), L2.defBody (top 32), L2.defScope (top 32), ["points", "rows"], ["points", "rows"], fun Γ => m_filled Γ (Γ.call 5) (Γ.call 13) (Γ.call 18), false, false⟩
def d21 : Df := ⟨.glo "_law_well", "_law_well", "_law_well", L2.defArgs (top 34), L2.defBody (top 34), L2.defScope (top 34), ["_law_script", "_law_k", "_law_cell", "_law_mixed_here", "_law_other"], ["_law_script", "_law_k"], fun Γ => m_well Γ, false, false⟩
def d22 : Df := ⟨.glo "_law_dip", "_law_dip", "_law_dip", L2.defArgs (top 35), L2.defBody (top 35), L2.defScope (top 35), ["_law_well_here", "_law_many", "_law_digit"], ["_law_well_here", "_law_many"], fun Γ => m_dip Γ, false, false⟩
def d23 : Df := ⟨.glo "_law_names", "_law_names", "_law_names", L2.defArgs (top 36), L2.defBody (top 36), L2.defScope (top 36), ["_law_well_here", "_law_many", "_law_words", "_law_k", "_law_signs", "_law_found", "_law_size", "_law_word", "_law_fresh", "_law_j", "_law_each"], ["_law_well_here", "_law_many"], fun Γ => m_names Γ (Γ.call 22), false, false⟩
def d24 : Df := ⟨.glo "_law_mixed", "_law_mixed", "_law_mixed", L2.defArgs (top 37), L2.defBody (top 37), L2.defScope (top 37), ["_law_well_here", "_law_many", "_law_found", "_law_k"], ["_law_well_here", "_law_many"], fun Γ => m_mixed Γ (Γ.call 22), false, false⟩
def d25 : Df := ⟨.glo "_law_number", "_law_number", "_law_number", L2.defArgs (top 38), L2.defBody (top 38), L2.defScope (top 38), ["_law_well_here", "_law_form"], ["_law_well_here"], fun Γ => m_number Γ (Γ.call 22), false, false⟩
def d26 : Df := ⟨.glo "_law_some", "_law_some", "_law_some", L2.defArgs (top 39), L2.defBody (top 39), L2.defScope (top 39), ["_law_well_here", "_law_whole", "_law_form"], ["_law_well_here", "_law_whole"], fun Γ => m_some Γ (Γ.call 22), false, false⟩
def d27 : Df := ⟨.glo "_law_fair", "_law_fair", "_law_fair", L2.defArgs (top 40), L2.defBody (top 40), L2.defScope (top 40), ["_law_well_here", "_law_points", "_law_most", "_law_numbers", "_law_total", "_law_split", "_law_k", "_law_names_here", "_law_j", "_law_other", "_law_whole", "_law_here", "_law_each", "_law_lacking"], ["_law_well_here", "_law_points", "_law_most"], fun Γ => m_fair Γ (Γ.call 22) (Γ.call 25) (Γ.call 26) (Γ.call 23) (Γ.call 24), false, false⟩
def d28 : Df := ⟨.glo "_law_tower", "_law_tower", "_law_tower", L2.defArgs (top 41), L2.defBody (top 41), L2.defScope (top 41), ["_law_well_here", "_law_points", "_law_most", "_law_number_here", "_law_names_here", "_law_numbers", "_law_below", "_law_found", "_law_k"], ["_law_well_here", "_law_points", "_law_most"], fun Γ => m_tower Γ (Γ.call 22) (Γ.call 25) (Γ.call 23) (Γ.call 24), false, false⟩
def d29 : Df := ⟨.glo "_law_bent", "_law_bent", "_law_bent", L2.defArgs (top 42), L2.defBody (top 42), L2.defScope (top 42), ["_law_well_here", "_law_rows", "_law_found", "_law_turn", "_law_at", "_law_form", "_law_name", "_law_number_here", "_law_score"], ["_law_well_here", "_law_rows"], fun Γ => m_bent Γ (Γ.call 22), false, false⟩
def d30 : Df := ⟨.glo "_law_great", "_law_great", "_law_great", L2.defArgs (top 43), L2.defBody (top 43), L2.defScope (top 43), ["_law_well_here", "_law_points", "_law_most", "_law_form"], ["_law_well_here", "_law_points", "_law_most"], fun Γ => m_great Γ (Γ.call 22) (Γ.call 27) (Γ.call 29) (Γ.call 28), false, false⟩
def d31 : Df := ⟨.glo "_law_own", "_law_own", "_law_own", L2.defArgs (top 44), L2.defBody (top 44), L2.defScope (top 44), ["_law_points", "_law_number_here"], ["_law_points", "_law_number_here"], fun Γ => m_own_points Γ, false, false⟩
def d32 : Df := ⟨.glo "_law_within", "_law_within", "_law_within", L2.defArgs (top 45), L2.defBody (top 45), L2.defScope (top 45), ["_law_value", "_law_least", "_law_most"], ["_law_value", "_law_least", "_law_most"], fun Γ => m_within Γ, false, false⟩
def d33 : Df := ⟨.glo "_law_loosened", "_law_loosened", "_law_loosened", L2.defArgs (top 46), L2.defBody (top 46), L2.defScope (top 46), ["_law_well_here", "_law_rows", "_law_found", "_law_name", "_law_number_here", "_law_score", "_law_form", "_law_less", "_law_more", "_law_least", "_law_most"], ["_law_well_here", "_law_rows"], fun Γ => m_loosened Γ (Γ.call 22), false, false⟩
def d34 : Df := ⟨.glo "_law_shaped", "_law_shaped", "_law_shaped", L2.defArgs (top 47), L2.defBody (top 47), L2.defScope (top 47), ["_law_rows", "_law_told", "_law_each", "_law_names_here", "_law_counts", "_law_found", "_law_seen", "_law_at", "_law_row"], ["_law_rows", "_law_told"], fun Γ => m_shaped Γ (Γ.call 32), false, false⟩
def d35 : Df := ⟨.glo "_law_enough", "_law_enough", "_law_enough", L2.defArgs (top 48), L2.defBody (top 48), L2.defScope (top 48), ["_law_points", "_law_found", "_law_players", "_law_total", "_law_at", "_law_number_here", "_law_score"], ["_law_points", "_law_found"], fun Γ => m_enough Γ (Γ.call 31), false, false⟩
def d36 : Df := ⟨.glo "_law_filling", "_law_filling", "_law_filling", L2.defArgs (top 49), L2.defBody (top 49), L2.defScope (top 49), ["_law_points", "_law_rows", "_law_due", "_law_told", "_law_found"], ["_law_points", "_law_rows", "_law_due"], fun Γ => m_filling Γ (Γ.call 19) (Γ.call 20) (Γ.call 34) (Γ.call 35), false, false⟩
def d37 : Df := ⟨.glo "_law_turned", "_law_turned", "_law_turned", L2.defArgs (top 50), L2.defBody (top 50), L2.defScope (top 50), ["_law_points", "_law_rows", "_law_lines", "_law_whole", "_law_found", "_law_told", "_law_turned_here", "_law_at", "_law_number_here", "_law_score"], ["_law_points", "_law_rows", "_law_lines", "_law_whole"], fun Γ => m_turned Γ (Γ.call 34) (Γ.call 20) (Γ.call 35), false, false⟩
def d38 : Df := ⟨.glo "_law_right", "_law_right", "_law_right", L2.defArgs (top 51), L2.defBody (top 51), L2.defScope (top 51), ["_law_well_here", "_law_points", "_law_rows", "_law_whole", "_law_names_here", "_law_lines", "_law_can", "_law_row", "_law_k"], ["_law_well_here"], fun Γ => m_right_k51 Γ (Γ.call 22) (Γ.call 33) (Γ.call 30) (Γ.call 23) (Γ.call 19) (Γ.call 36) (Γ.call 37), false, false⟩
def d39 : Df := ⟨.glo "law", "law", "law", L2.defArgs (top 52), L2.defBody (top 52), L2.defScope (top 52), ["_law_script", "_law_k"], ["_law_script"], fun Γ => m_law_k08 Γ (Γ.call 38) (Γ.call 21), false, false⟩
def clsT : List ClT := []
def exsT : List XcT := [⟨"InvalidNumber", ⟨[61], 0, 100⟩, 0⟩, ⟨"InvalidRows", ⟨[62], 0, 100⟩, 1⟩]
def defsT : List Df := [d0, d1, d2, d3, d4, d5, d6, d7, d8, d9, d10, d11, d12, d13, d14, d15, d16, d17, d18, d19, d20, d21, d22, d23, d24, d25, d26, d27, d28, d29, d30, d31, d32, d33, d34, d35, d36, d37, d38, d39]
def pt : G.PT := ⟨defsT, clsT, exsT, (["__init__", "__len__", "__contains__", "__eq__", "__str__", "__bool__", "stake", "lines", "plan", "table", "split", "begins", "states", "before", "holder", "mark", "points", "rows", "kinds", "players", "left", "scores", "share", "rest", "arcs", "turned", "within_kind", "across", "between_players", "place_of"] : List PySem.Str) ++ (["from_row", "match", "against", "score", "meetings", "within", "others_of", "best_of", "is_first", "is_last", "row_of", "best", "can_be_first", "can_be_last", "firsts", "bar", "entries", "names", "wishes", "changes", "__setitem__", "__getitem__", "wish", "lift", "undo", "trial", "tried", "__enter__", "__exit__", "__iter__"] : List PySem.Str) ++ (["read", "given", "index", "lack"] : List PySem.Str), ["len", "int", "str", "repr", "abs", "bool", "min", "max", "sum", "sorted", "tuple", "list", "all", "any", "divmod", "range", "enumerate", "zip", "isinstance", "set", "dict", "reversed", "print"], [("MOST_POINTS", 9), ("MOST_KINDS", 6), ("MOST_PLAYERS", 1000000000000000000000000000000), ("MOST_SCORE", 1000000000000000000000000000000000), ("LONGEST_NAME", 8)], [("LETTERS", [97, 98, 99, 100, 101, 102, 103, 104, 105, 106, 107, 108, 109, 110, 111, 112, 113, 114, 115, 116, 117, 118, 119, 120, 121, 122]), ("DIGITS", [48, 49, 50, 51, 52, 53, 54, 55, 56, 57])], [.int, .bool, .str, .tuple], [7, 35], false, [], ["WrongValue"]⟩
theorem at_0 : pt.defs[0]? = some d0 := rfl
theorem at_1 : pt.defs[1]? = some d1 := rfl
theorem at_2 : pt.defs[2]? = some d2 := rfl
theorem at_3 : pt.defs[3]? = some d3 := rfl
theorem at_4 : pt.defs[4]? = some d4 := rfl
theorem at_5 : pt.defs[5]? = some d5 := rfl
theorem at_6 : pt.defs[6]? = some d6 := rfl
theorem at_7 : pt.defs[7]? = some d7 := rfl
theorem at_8 : pt.defs[8]? = some d8 := rfl
theorem at_9 : pt.defs[9]? = some d9 := rfl
theorem at_10 : pt.defs[10]? = some d10 := rfl
theorem at_11 : pt.defs[11]? = some d11 := rfl
theorem at_12 : pt.defs[12]? = some d12 := rfl
theorem at_13 : pt.defs[13]? = some d13 := rfl
theorem at_14 : pt.defs[14]? = some d14 := rfl
theorem at_15 : pt.defs[15]? = some d15 := rfl
theorem at_16 : pt.defs[16]? = some d16 := rfl
theorem at_17 : pt.defs[17]? = some d17 := rfl
theorem at_18 : pt.defs[18]? = some d18 := rfl
theorem at_19 : pt.defs[19]? = some d19 := rfl
theorem at_20 : pt.defs[20]? = some d20 := rfl
theorem at_21 : pt.defs[21]? = some d21 := rfl
theorem at_22 : pt.defs[22]? = some d22 := rfl
theorem at_23 : pt.defs[23]? = some d23 := rfl
theorem at_24 : pt.defs[24]? = some d24 := rfl
theorem at_25 : pt.defs[25]? = some d25 := rfl
theorem at_26 : pt.defs[26]? = some d26 := rfl
theorem at_27 : pt.defs[27]? = some d27 := rfl
theorem at_28 : pt.defs[28]? = some d28 := rfl
theorem at_29 : pt.defs[29]? = some d29 := rfl
theorem at_30 : pt.defs[30]? = some d30 := rfl
theorem at_31 : pt.defs[31]? = some d31 := rfl
theorem at_32 : pt.defs[32]? = some d32 := rfl
theorem at_33 : pt.defs[33]? = some d33 := rfl
theorem at_34 : pt.defs[34]? = some d34 := rfl
theorem at_35 : pt.defs[35]? = some d35 := rfl
theorem at_36 : pt.defs[36]? = some d36 := rfl
theorem at_37 : pt.defs[37]? = some d37 := rfl
theorem at_38 : pt.defs[38]? = some d38 := rfl
theorem at_39 : pt.defs[39]? = some d39 := rfl
theorem c_2 (n : Nat) : pt.call (n + 1) 2 = runF 1 1 (m_is_integer (pt.ctx (pt.call n))) := rfl
theorem c_3 (n : Nat) : pt.call (n + 1) 3 = runF 3 3 (m_is_within (pt.ctx (pt.call n)) (pt.call n 2)) := rfl
theorem c_4 (n : Nat) : pt.call (n + 1) 4 = runF 1 2 (m_is_name (pt.ctx (pt.call n))) := rfl
theorem c_5 (n : Nat) : pt.call (n + 1) 5 = runF 1 1 (m_check_points (pt.ctx (pt.call n)) (pt.call n 3) 0) := rfl
theorem c_6 (n : Nat) : pt.call (n + 1) 6 = runF 2 2 (m_own_points (pt.ctx (pt.call n))) := rfl
theorem c_7 (n : Nat) : pt.call (n + 1) 7 = runF 1 7 (m_ladders (pt.ctx (pt.call n))) := rfl
theorem c_8 (n : Nat) : pt.call (n + 1) 8 = runF 2 7 (m_lack_of (pt.ctx (pt.call n)) (pt.call n 7) (pt.call n 6)) := rfl
theorem c_9 (n : Nat) : pt.call (n + 1) 9 = runF 2 5 (m_spare_of (pt.ctx (pt.call n)) (pt.call n 7) (pt.call n 6)) := rfl
theorem c_10 (n : Nat) : pt.call (n + 1) 10 = runF 2 2 (m_is_possible (pt.ctx (pt.call n)) (pt.call n 9) (pt.call n 8)) := rfl
theorem c_11 (n : Nat) : pt.call (n + 1) 11 = runF 1 2 (m_is_loose_row (pt.ctx (pt.call n)) (pt.call n 4) (pt.call n 3)) := rfl
theorem c_12 (n : Nat) : pt.call (n + 1) 12 = runF 1 4 (m_wrong_row (pt.ctx (pt.call n)) (pt.call n 11)) := rfl
theorem c_13 (n : Nat) : pt.call (n + 1) 13 = runF 1 2 (m_check_rows (pt.ctx (pt.call n)) 1 (pt.call n 12)) := rfl
theorem c_14 (n : Nat) : pt.call (n + 1) 14 = runF 2 2 (m_level (pt.ctx (pt.call n))) := rfl
theorem c_15 (n : Nat) : pt.call (n + 1) 15 = runF 2 3 (m_total_at (pt.ctx (pt.call n)) (pt.call n 14)) := rfl
theorem c_16 (n : Nat) : pt.call (n + 1) 16 = runF 2 5 (m_last_level (pt.ctx (pt.call n)) (pt.call n 15)) := rfl
theorem c_17 (n : Nat) : pt.call (n + 1) 17 = runF 2 10 (m_levelled (pt.ctx (pt.call n)) (pt.call n 16) (pt.call n 15) (pt.call n 14)) := rfl
theorem c_18 (n : Nat) : pt.call (n + 1) 18 = runF 2 5 (m_filled_rows (pt.ctx (pt.call n)) (pt.call n 6) (pt.call n 15) (pt.call n 17) (pt.call n 10)) := rfl
theorem c_19 (n : Nat) : pt.call (n + 1) 19 = runF 2 2 (m_loose_possible (pt.ctx (pt.call n)) (pt.call n 5) (pt.call n 13) (pt.call n 18)) := rfl
theorem c_20 (n : Nat) : pt.call (n + 1) 20 = runF 2 2 (m_filled (pt.ctx (pt.call n)) (pt.call n 5) (pt.call n 13) (pt.call n 18)) := rfl
theorem c_21 (n : Nat) : pt.call (n + 1) 21 = runF 2 5 (m_well (pt.ctx (pt.call n))) := rfl
theorem c_22 (n : Nat) : pt.call (n + 1) 22 = runF 2 3 (m_dip (pt.ctx (pt.call n))) := rfl
theorem c_23 (n : Nat) : pt.call (n + 1) 23 = runF 2 11 (m_names (pt.ctx (pt.call n)) (pt.call n 22)) := rfl
theorem c_24 (n : Nat) : pt.call (n + 1) 24 = runF 2 4 (m_mixed (pt.ctx (pt.call n)) (pt.call n 22)) := rfl
theorem c_25 (n : Nat) : pt.call (n + 1) 25 = runF 1 2 (m_number (pt.ctx (pt.call n)) (pt.call n 22)) := rfl
theorem c_26 (n : Nat) : pt.call (n + 1) 26 = runF 2 3 (m_some (pt.ctx (pt.call n)) (pt.call n 22)) := rfl
theorem c_27 (n : Nat) : pt.call (n + 1) 27 = runF 3 14 (m_fair (pt.ctx (pt.call n)) (pt.call n 22) (pt.call n 25) (pt.call n 26) (pt.call n 23) (pt.call n 24)) := rfl
theorem c_28 (n : Nat) : pt.call (n + 1) 28 = runF 3 9 (m_tower (pt.ctx (pt.call n)) (pt.call n 22) (pt.call n 25) (pt.call n 23) (pt.call n 24)) := rfl
theorem c_29 (n : Nat) : pt.call (n + 1) 29 = runF 2 9 (m_bent (pt.ctx (pt.call n)) (pt.call n 22)) := rfl
theorem c_30 (n : Nat) : pt.call (n + 1) 30 = runF 3 4 (m_great (pt.ctx (pt.call n)) (pt.call n 22) (pt.call n 27) (pt.call n 29) (pt.call n 28)) := rfl
theorem c_31 (n : Nat) : pt.call (n + 1) 31 = runF 2 2 (m_own_points (pt.ctx (pt.call n))) := rfl
theorem c_32 (n : Nat) : pt.call (n + 1) 32 = runF 3 3 (m_within (pt.ctx (pt.call n))) := rfl
theorem c_33 (n : Nat) : pt.call (n + 1) 33 = runF 2 11 (m_loosened (pt.ctx (pt.call n)) (pt.call n 22)) := rfl
theorem c_34 (n : Nat) : pt.call (n + 1) 34 = runF 2 9 (m_shaped (pt.ctx (pt.call n)) (pt.call n 32)) := rfl
theorem c_35 (n : Nat) : pt.call (n + 1) 35 = runF 2 7 (m_enough (pt.ctx (pt.call n)) (pt.call n 31)) := rfl
theorem c_36 (n : Nat) : pt.call (n + 1) 36 = runF 3 5 (m_filling (pt.ctx (pt.call n)) (pt.call n 19) (pt.call n 20) (pt.call n 34) (pt.call n 35)) := rfl
theorem c_37 (n : Nat) : pt.call (n + 1) 37 = runF 4 10 (m_turned (pt.ctx (pt.call n)) (pt.call n 34) (pt.call n 20) (pt.call n 35)) := rfl
theorem c_38 (n : Nat) : pt.call (n + 1) 38 = runF 1 9 (m_right_k51 (pt.ctx (pt.call n)) (pt.call n 22) (pt.call n 33) (pt.call n 30) (pt.call n 23) (pt.call n 19) (pt.call n 36) (pt.call n 37)) := rfl
theorem c_39 (n : Nat) : pt.call (n + 1) 39 = runF 1 2 (m_law_k08 (pt.ctx (pt.call n)) (pt.call n 38) (pt.call n 21)) := rfl
end K51
namespace K51
open G
abbrev C (n : Nat) : G.Ctx := pt.ctx (pt.call n)
theorem cc (n i : Nat) : (C n).call i = pt.call n i := rfl
theorem q2 (n : Nat) : SpInt (pt.call (n + 1) 2) := by rw [c_2]; exact sp_integer _
theorem q3 (n : Nat) : SpWithin (pt.call (n + 2) 3) := by rw [c_3]; exact sp_within _ (q2 n)
theorem q5 (n : Nat) : SpChkPts (pt.call (n + 3) 5) := by rw [c_5]; exact sp_chkpts _ (q3 n)
theorem q6 (n : Nat) : SpOwn (pt.call (n + 1) 6) := by rw [c_6]; exact sp_own
theorem q7 (n : Nat) : SpLadders (pt.call (n + 1) 7) := by rw [c_7]; exact sp_ladders
theorem q8 (n : Nat) : SpLackOf (pt.call (n + 2) 8) := by rw [c_8]; exact sp_lackof (q7 n) (q6 n)
theorem q9 (n : Nat) : SpSpareOf (pt.call (n + 2) 9) := by rw [c_9]; exact sp_spareof (q7 n) (q6 n)
theorem q10 (n : Nat) : SpIsPoss (pt.call (n + 3) 10) := by rw [c_10]; exact sp_isposs (q9 n) (q8 n)
theorem q14 (n : Nat) : SpLevel (pt.call (n + 1) 14) := by rw [c_14]; exact sp_level
theorem q15 (n : Nat) : SpTotal (pt.call (n + 2) 15) := by rw [c_15]; exact sp_total (q14 n)
theorem q16 (n : Nat) : SpLast (pt.call (n + 3) 16) := by rw [c_16]; exact sp_last (q15 n)
theorem q17 (n : Nat) : SpLevelled (pt.call (n + 4) 17) := by rw [c_17]; exact sp_levelled (q16 n) (q15 (n + 1)) (q14 (n + 2))
theorem q18 (n : Nat) : SpFilledR (pt.call (n + 5) 18) := by rw [c_18]; exact sp_filledR (q6 (n + 3)) (q15 (n + 2)) (q17 n) (q10 (n + 1))
theorem q21 (n : Nat) : SpWell (pt.call (n + 1) 21) := by rw [c_21]; exact sp_well
theorem q22 [FrC] (n : Nat) : SpDip (pt.call (n + 1) 22) := by rw [c_22]; exact sp_dip _
theorem q23 [FrC] (n : Nat) : SpNames (pt.call (n + 2) 23) := by rw [c_23]; exact sp_names (q22 n)
theorem q24 [FrC] (n : Nat) : SpMixed (pt.call (n + 2) 24) := by rw [c_24]; exact sp_mixed (q22 n)
theorem q25 (n : Nat) : SpRange (pt.call (n + 2) 25) 3 1 (10 ^ 30) := by rw [c_25]; exact sp_number (q22 n)
theorem q26 [FrC] (n : Nat) : SpSome (pt.call (n + 2) 26) := by rw [c_26]; exact sp_some (q22 n)
theorem q27 (n : Nat) : SpDrawn (pt.call (n + 3) 27) 1 fun p rs => (lackI p rs = 0 ∧ spareI p rs = 0) ∧ ScS rs := by rw [c_27]; exact sp_fair (fun F => @q22 F (n + 1)) (q25 n) (fun F => @q26 F n) (fun F => @q23 F n) (fun F => @q24 F n)
theorem q28 (n : Nat) : SpDrawn (pt.call (n + 3) 28) 0 fun _ rs => ScS rs := by rw [c_28]; exact sp_tower (q22 (n + 1)) (q25 n) (q23 n) (q24 n)
theorem q29 (n : Nat) : SpBent (pt.call (n + 2) 29) := by rw [c_29]; exact sp_bent (q22 n)
theorem q30 (n : Nat) : SpGreat (pt.call (n + 4) 30) := by rw [c_30]; exact sp_great (q22 (n + 2)) (q27 n) (q29 (n + 1)) (q28 n)
theorem q31 (n : Nat) : SpOwn (pt.call (n + 1) 31) := by rw [c_31]; exact sp_own
theorem q32 (n : Nat) : SpWithinI (pt.call (n + 1) 32) := by rw [c_32]; exact sp_withinI
theorem q33 (n : Nat) : SpLoosened (pt.call (n + 2) 33) := by rw [c_33]; exact sp_loosened (q22 n)
theorem q34 (n : Nat) : SpShaped (pt.call (n + 2) 34) := by rw [c_34]; exact sp_shaped (q32 n)
theorem q35 (n : Nat) : SpEnough (pt.call (n + 2) 35) := by rw [c_35]; exact sp_enough (q31 n)
theorem qD2 (n : Nat) : SpIntD (pt.call (n + 1) 2) := by rw [c_2]; exact sp_integerD
theorem qD3 (n : Nat) : SpWithinD (pt.call (n + 2) 3) := by rw [c_3]; exact sp_withinD (qD2 n)
theorem qD4 (n : Nat) : SpNameD (pt.call (n + 1) 4) := by rw [c_4]; exact sp_nameD
theorem q11 (n : Nat) : SpRowG isLRowD (pt.call (n + 3) 11) := by rw [c_11]; exact sp_lrow (qD4 (n + 1)) (qD3 n)
theorem q12 (n : Nat) : SpWrongG isLRowD (pt.call (n + 4) 12) := by rw [c_12]; exact sp_wrongG likeL (q11 n)
theorem q13 (n : Nat) : SpChkLoose (pt.call (n + 5) 13) := by rw [c_13]; exact sp_chkLoose (q12 n)
theorem q19 (n : Nat) : SpLPoss (pt.call (n + 6) 19) := by rw [c_19]; exact sp_lpossV (q5 (n + 2)) (q13 n) (q18 n)
theorem q20 (n : Nat) : SpFill (pt.call (n + 6) 20) := by rw [c_20]; exact sp_fillV (q5 (n + 2)) (q13 n) (q18 n)
theorem q36 (n : Nat) : SpFilling (pt.call (n + 7) 36) := by rw [c_36]; exact sp_filling (q19 n) (q20 n) (q34 (n + 4)) (q35 (n + 4))
theorem q37 (n : Nat) : SpTurned (pt.call (n + 7) 37) := by rw [c_37]; exact sp_turned (q34 (n + 4)) (q20 n) (q35 (n + 4))
theorem q38 (n : Nat) : SpRight (pt.call (n + 8) 38) := by rw [c_38]; exact sp_right51 (q22 (n + 6)) (q30 (n + 3)) (q33 (n + 5)) (q23 (n + 5)) (q18 (n + 2)) (q19 (n + 1)) (q36 n) (q37 n)
theorem q39 (n : Nat) : SpLaw (pt.call (n + 9) 39) := by rw [c_39]; exact sp_lawK3 (q38 n) (q21 (n + 7))
theorem law_true : ∀ ns : List Int, ns.length ≤ 63 → Trues (pt.call 40 39) ns := by
  intro ns hl
  have h : SpLaw (pt.call (31 + 9) 39) := q39 31
  have := h ns [] hl
  unfold Trues
  revert this
  show OP _ (pt.call (31 + 9) 39 [.fl (ns.map .int)] []) → ∃ st, pt.call (31 + 9) 39 [.fl (ns.map .int)] [] = _
  generalize pt.call (31 + 9) 39 [.fl (ns.map .int)] [] = o
  cases o with
  | ok a st =>
    intro e
    have e : a = .bl true := e
    exact ⟨st, by rw [e]⟩
  | _ => exact fun h => h.elim
end K51
namespace K51
open PySem PySem.Spec PyProof.Rows G
theorem ok_0 : DfOk pt d0 := ⟨⟨rfl, rfl, rfl, by decide +kernel, rfl, by decide +kernel, by decide +kernel⟩, fun _ _ _ _ _ _ us hl => match us, hl with | [_, _], _ => rfl, fun _ Y Γ k X W Ow0 fr hfr F CS M Z => by
  obtain rfl : fr = false := not_fr rfl hfr
  have E : En pt Y Γ k d0.N X W d0.scope := ⟨F, M⟩
  have B : Eb pt Y Γ k d0.N X W d0.scope Ow0 false := ⟨E, CS⟩
  skip
  exact s_bads B, fun h => Bool.noConfusion (show false = true from h)⟩
theorem ok_1 : DfOk pt d1 := ⟨⟨rfl, rfl, rfl, by decide +kernel, rfl, by decide +kernel, by decide +kernel⟩, fun _ _ _ _ _ _ us hl => match us, hl with | [_, _], _ => rfl, fun _ Y Γ k X W Ow0 fr hfr F CS M Z => by
  obtain rfl : fr = false := not_fr rfl hfr
  have E : En pt Y Γ k d1.N X W d1.scope := ⟨F, M⟩
  have B : Eb pt Y Γ k d1.N X W d1.scope Ow0 false := ⟨E, CS⟩
  skip
  exact s_bads B, fun h => Bool.noConfusion (show false = true from h)⟩
theorem ok_2 : DfOk pt d2 := ⟨⟨rfl, rfl, rfl, by decide +kernel, rfl, by decide +kernel, by decide +kernel⟩, fun _ _ _ _ _ _ us hl => match us, hl with | [_], _ => rfl, fun _ Y Γ k X W Ow0 fr hfr F CS M Z => by
  obtain rfl : fr = false := not_fr rfl hfr
  have E : En pt Y Γ k d2.N X W d2.scope := ⟨F, M⟩
  have B : Eb pt Y Γ k d2.N X W d2.scope Ow0 false := ⟨E, CS⟩
  show JSs X B.w d2.body (m_is_integer Γ); delta m_is_integer
  exact s_cons B (s_ret B rfl (r_and E rfl (.cons rfl (r_isi E .int 0 (by rfl) rfl (by kernel_rfl) (by kernel_rfl) (by kernel_rfl) (by kernel_rfl) rfl (r_v E (i := 0) (by kernel_rfl))) (.cons rfl (r_no E (r_isi E .bool 1 (by rfl) rfl (by kernel_rfl) (by kernel_rfl) (by kernel_rfl) (by kernel_rfl) rfl (r_v E (i := 0) (by kernel_rfl)))) .nil)))) (s_nil B), fun h => Bool.noConfusion (show false = true from h)⟩
theorem ok_3 : DfOk pt d3 := ⟨⟨rfl, rfl, rfl, by decide +kernel, rfl, by decide +kernel, by decide +kernel⟩, fun _ _ _ _ _ _ us hl => match us, hl with | [_, _, _], _ => rfl, fun _ Y Γ k X W Ow0 fr hfr F CS M Z => by
  obtain rfl : fr = false := not_fr rfl hfr
  have E : En pt Y Γ k d3.N X W d3.scope := ⟨F, M⟩
  have B : Eb pt Y Γ k d3.N X W d3.scope Ow0 false := ⟨E, CS⟩
  show JSs X B.w d3.body (m_is_within Γ (Γ.call 2)); delta m_is_within
  exact s_cons B (s_ret B rfl (r_and E rfl (.cons rfl (r_call E 2 at_2 rfl (by kernel_rfl) (by kernel_rfl) rfl (.cons rfl (r_v E (i := 0) (by kernel_rfl)) .nil)) (.cons rfl (r_chain E (op := .le) (op2 := .le) rfl rfl rfl (r_v E (i := 1) (by kernel_rfl)) (r_v E (i := 0) (by kernel_rfl)) (r_v E (i := 2) (by kernel_rfl))) .nil)))) (s_nil B), fun h => Bool.noConfusion (show false = true from h)⟩
theorem ok_4 : DfOk pt d4 := ⟨⟨rfl, rfl, rfl, by decide +kernel, rfl, by decide +kernel, by decide +kernel⟩, fun _ _ _ _ _ _ us hl => match us, hl with | [_], _ => rfl, fun _ Y Γ k X W Ow0 fr hfr F CS M Z => by
  obtain rfl : fr = false := not_fr rfl hfr
  have E : En pt Y Γ k d4.N X W d4.scope := ⟨F, M⟩
  have B : Eb pt Y Γ k d4.N X W d4.scope Ow0 false := ⟨E, CS⟩
  show JSs X B.w d4.body (m_is_name Γ); delta m_is_name
  exact s_cons B (s_if B (r_or E rfl (.cons rfl (r_no E (r_isi E .str 2 (by rfl) rfl (by kernel_rfl) (by kernel_rfl) (by kernel_rfl) (by kernel_rfl) rfl (r_v E (i := 0) (by kernel_rfl)))) (.cons rfl (r_no E (r_chain E (op := .le) (op2 := .le) rfl rfl rfl (r_k E (by rfl)) (r_bi E .len rfl (by kernel_rfl) (by kernel_rfl) rfl (.cons rfl (r_v E (i := 0) (by kernel_rfl)) .nil)) (r_gi E 4 (by rfl) (by kernel_rfl) (by kernel_rfl)))) .nil))) (s_cons B (s_ret B rfl (r_k E (by rfl))) (s_nil B)) (s_nil B)) (s_cons B (s_ret B rfl (r_and E rfl (.cons rfl (r_cmp E (op := .mem) rfl rfl (r_ix E rfl (r_v E (i := 0) (by kernel_rfl)) (r_k E (by rfl))) (r_gs E 0 (by rfl) (by kernel_rfl) (by kernel_rfl))) (.cons rfl (r_bi E .all rfl (by kernel_rfl) (by kernel_rfl) rfl (.cons rfl (r_lc E (lc_ok E (rI := true) (own := [("sign", 1)]) (p := .nm 1) rfl (by kernel_rfl) (by kernel_rfl) (i_of E (r_v E (i := 0) (by kernel_rfl))) (fun _ E' hfE' => p_nm E' (by kernel_rfl)) (fun _ E' => .nil) (fun _ E' => r_or E' rfl (.cons rfl (r_cmp E' (op := .mem) rfl rfl (r_v E' (i := 1) (by kernel_rfl)) (r_gs E' 0 (by rfl) (by kernel_rfl) (by kernel_rfl))) (.cons rfl (r_cmp E' (op := .mem) rfl rfl (r_v E' (i := 1) (by kernel_rfl)) (r_gs E' 1 (by rfl) (by kernel_rfl) (by kernel_rfl))) .nil))))) .nil)) .nil)))) (s_nil B)), fun h => Bool.noConfusion (show false = true from h)⟩
theorem ok_5 : DfOk pt d5 := ⟨⟨rfl, rfl, rfl, by decide +kernel, rfl, by decide +kernel, by decide +kernel⟩, fun _ _ _ _ _ _ us hl => match us, hl with | [_], _ => rfl, fun _ Y Γ k X W Ow0 fr hfr F CS M Z => by
  obtain rfl : fr = false := not_fr rfl hfr
  have E : En pt Y Γ k d5.N X W d5.scope := ⟨F, M⟩
  have B : Eb pt Y Γ k d5.N X W d5.scope Ow0 false := ⟨E, CS⟩
  show JSs X B.w d5.body (m_check_points Γ (Γ.call 3) 0); delta m_check_points
  exact s_cons B (s_if B (r_no E (r_call E 3 at_3 rfl (by kernel_rfl) (by kernel_rfl) rfl (.cons rfl (r_v E (i := 0) (by kernel_rfl)) (.cons rfl (r_k E (by rfl)) (.cons rfl (r_gi E 0 (by rfl) (by kernel_rfl) (by kernel_rfl)) .nil))))) (s_cons B (s_raise B 0 (by rfl) (by rfl) (by rfl) (by kernel_rfl) (by kernel_rfl) rfl (r_v E (i := 0) (by kernel_rfl))) (s_nil B)) (s_nil B)) (s_nil B), fun h => Bool.noConfusion (show false = true from h)⟩
theorem ok_6 : DfOk pt d6 := ⟨⟨rfl, rfl, rfl, by decide +kernel, rfl, by decide +kernel, by decide +kernel⟩, fun _ _ _ _ _ _ us hl => match us, hl with | [_, _], _ => rfl, fun _ Y Γ k X W Ow0 fr hfr F CS M Z => by
  obtain rfl : fr = false := not_fr rfl hfr
  have E : En pt Y Γ k d6.N X W d6.scope := ⟨F, M⟩
  have B : Eb pt Y Γ k d6.N X W d6.scope Ow0 false := ⟨E, CS⟩
  show JSs X B.w d6.body (m_own_points Γ); delta m_own_points
  exact s_cons B (s_ret B rfl (r_op E (op := .fdiv) rfl (r_op E (op := .mul) rfl (r_op E (op := .mul) rfl (r_v E (i := 0) (by kernel_rfl)) (r_v E (i := 1) (by kernel_rfl))) (r_op E (op := .sub) rfl (r_v E (i := 1) (by kernel_rfl)) (r_k E (by rfl)))) (r_k E (by rfl)))) (s_nil B), fun h => Bool.noConfusion (show false = true from h)⟩
theorem ok_7 : DfOk pt d7 := ⟨⟨rfl, rfl, rfl, by decide +kernel, rfl, by decide +kernel, by decide +kernel⟩, fun _ _ _ _ _ _ us hl => match us, hl with | [_], _ => rfl, fun _ Y Γ k X W Ow0 fr hfr F CS M Z => by
  obtain rfl : fr = false := not_fr rfl hfr
  have E : En pt Y Γ k d7.N X W d7.scope := ⟨F, M⟩
  have B : Eb pt Y Γ k d7.N X W d7.scope Ow0 false := ⟨E, CS⟩
  show JSs X B.w d7.body (m_ladders Γ); delta m_ladders
  exact s_cons B (s_nm B (i := 1) (by kernel_rfl) rfl (r_sortK E Z 7 (by decide) rfl (by kernel_rfl) (by kernel_rfl) (by kernel_rfl) (by rfl) (fun _ _ _ _ _ _ => rfl) (lk_ix rfl (lk_ix rfl (lk_c (i := 0) (by kernel_rfl)) (lk_p (by kernel_rfl) (by kernel_rfl))) (lk_k)) rfl (r_lrng1 E (by kernel_rfl) (by kernel_rfl) (by kernel_rfl) (by kernel_rfl) rfl (r_bi E .len rfl (by kernel_rfl) (by kernel_rfl) rfl (.cons rfl (r_v E (i := 0) (by kernel_rfl)) .nil))))) (s_cons B (s_parN B (ts := [(true, 3), (false, 4), (false, 5), (false, 6)]) (by kernel_rfl) (by kernel_rfl) (.cons (B.nml (i := 3) (by kernel_rfl)) (.cons (B.nml (i := 4) (by kernel_rfl)) (.cons (B.nml (i := 5) (by kernel_rfl)) (.cons (B.nml (i := 6) (by kernel_rfl)) .nil)))) (.own rfl (f_lst E (by kernel_rfl) .nil) lst_sh (.val rfl (r_k E (by rfl)) (.val rfl (r_k E (by rfl)) (.val rfl (r_tup E (by kernel_rfl) .nil) .nil))))) (s_cons B (s_for B rfl (i_of E (r_v E (i := 1) (by kernel_rfl))) (p_nmB B (by kernel_rfl)) (s_cons B (s_par3 B (i := 4) (j := 5) (l := 6) (by kernel_rfl) (by kernel_rfl) (by kernel_rfl) (by decide) (by decide) (by decide) (by kernel_rfl) (by kernel_rfl) (by kernel_rfl) (by kernel_rfl) (.val rfl (r_op E (op := .add) rfl (r_v E (i := 4) (by kernel_rfl)) (r_ix E rfl (r_ix E rfl (r_v E (i := 0) (by kernel_rfl)) (r_v E (i := 2) (by kernel_rfl))) (r_k E (by rfl)))) (.val rfl (r_op E (op := .add) rfl (r_v E (i := 5) (by kernel_rfl)) (r_op E (op := .mul) rfl (r_ix E rfl (r_ix E rfl (r_v E (i := 0) (by kernel_rfl)) (r_v E (i := 2) (by kernel_rfl))) (r_k E (by rfl))) (r_ix E rfl (r_ix E rfl (r_v E (i := 0) (by kernel_rfl)) (r_v E (i := 2) (by kernel_rfl))) (r_k E (by rfl))))) (.val rfl (r_op E (op := .add) rfl (r_v E (i := 6) (by kernel_rfl)) (r_tup E (by kernel_rfl) (.cons rfl (r_v E (i := 2) (by kernel_rfl)) .nil))) .nil)))) (s_cons B (s_app B (i := 3) (by kernel_rfl) rfl rfl (r_tup E (by kernel_rfl) (.cons rfl (r_v E (i := 4) (by kernel_rfl)) (.cons rfl (r_v E (i := 5) (by kernel_rfl)) (.cons rfl (r_v E (i := 6) (by kernel_rfl)) .nil))))) (s_nil B)))) (s_frzs B 3 (s_cons B (s_ret B rfl (r_v E (i := 3) (by kernel_rfl))) (s_nil B))))), fun h => Bool.noConfusion (show false = true from h)⟩
theorem ok_8 : DfOk pt d8 := ⟨⟨rfl, rfl, rfl, by decide +kernel, rfl, by decide +kernel, by decide +kernel⟩, fun _ _ _ _ _ _ us hl => match us, hl with | [_, _], _ => rfl, fun _ Y Γ k X W Ow0 fr hfr F CS M Z => by
  obtain rfl : fr = false := not_fr rfl hfr
  have E : En pt Y Γ k d8.N X W d8.scope := ⟨F, M⟩
  have B : Eb pt Y Γ k d8.N X W d8.scope Ow0 false := ⟨E, CS⟩
  show JSs X B.w d8.body (m_lack_of Γ (Γ.call 7) (Γ.call 6)); delta m_lack_of
  exact s_cons B (s_parN B (ts := [(false, 2), (false, 3)]) (by kernel_rfl) (by kernel_rfl) (.cons (B.nml (i := 2) (by kernel_rfl)) (.cons (B.nml (i := 3) (by kernel_rfl)) .nil)) (.val rfl (r_k E (by rfl)) (.val rfl (r_tup E (by kernel_rfl) .nil) .nil))) (s_cons B (s_for B rfl (i_of E (r_call E 7 at_7 rfl (by kernel_rfl) (by kernel_rfl) rfl (.cons rfl (r_v E (i := 1) (by kernel_rfl)) .nil))) (p_tp E rfl rfl (pts_cons rfl (p_nmB B (by kernel_rfl)) (pts_cons rfl (p_nmB B (by kernel_rfl)) (pts_cons rfl (p_nmB B (by kernel_rfl)) pts_nil)))) (s_cons B (s_if B (r_cmp E (op := .gt) rfl rfl (r_op E (op := .sub) rfl (r_call E 6 at_6 rfl (by kernel_rfl) (by kernel_rfl) rfl (.cons rfl (r_v E (i := 0) (by kernel_rfl)) (.cons rfl (r_v E (i := 4) (by kernel_rfl)) .nil))) (r_v E (i := 5) (by kernel_rfl))) (r_v E (i := 2) (by kernel_rfl))) (s_cons B (s_par2 B (i := 2) (j := 3) (by kernel_rfl) (by kernel_rfl) (by decide) (by kernel_rfl) (by kernel_rfl) (by kernel_rfl) (.val rfl (r_op E (op := .sub) rfl (r_call E 6 at_6 rfl (by kernel_rfl) (by kernel_rfl) rfl (.cons rfl (r_v E (i := 0) (by kernel_rfl)) (.cons rfl (r_v E (i := 4) (by kernel_rfl)) .nil))) (r_v E (i := 5) (by kernel_rfl))) (.val rfl (r_v E (i := 6) (by kernel_rfl)) .nil))) (s_nil B)) (s_nil B)) (s_nil B))) (s_cons B (s_ret B rfl (r_tup E (by kernel_rfl) (.cons rfl (r_v E (i := 2) (by kernel_rfl)) (.cons rfl (r_v E (i := 3) (by kernel_rfl)) .nil)))) (s_nil B))), fun h => Bool.noConfusion (show false = true from h)⟩
theorem ok_9 : DfOk pt d9 := ⟨⟨rfl, rfl, rfl, by decide +kernel, rfl, by decide +kernel, by decide +kernel⟩, fun _ _ _ _ _ _ us hl => match us, hl with | [_, _], _ => rfl, fun _ Y Γ k X W Ow0 fr hfr F CS M Z => by
  obtain rfl : fr = false := not_fr rfl hfr
  have E : En pt Y Γ k d9.N X W d9.scope := ⟨F, M⟩
  have B : Eb pt Y Γ k d9.N X W d9.scope Ow0 false := ⟨E, CS⟩
  show JSs X B.w d9.body (m_spare_of Γ (Γ.call 7) (Γ.call 6)); delta m_spare_of
  exact s_cons B (s_unp B rfl rfl (r_ix E rfl (r_call E 7 at_7 rfl (by kernel_rfl) (by kernel_rfl) rfl (.cons rfl (r_v E (i := 1) (by kernel_rfl)) .nil)) (r_neg E (r_k E (by rfl)))) (.cons rfl (t_nm B (i := 2) (by kernel_rfl)) (.cons rfl (t_nm B (i := 3) (by kernel_rfl)) (.cons rfl (t_nm B (i := 4) (by kernel_rfl)) .nil)))) (s_cons B (s_ret B rfl (r_op E (op := .sub) rfl (r_v E (i := 3) (by kernel_rfl)) (r_call E 6 at_6 rfl (by kernel_rfl) (by kernel_rfl) rfl (.cons rfl (r_v E (i := 0) (by kernel_rfl)) (.cons rfl (r_v E (i := 2) (by kernel_rfl)) .nil))))) (s_nil B)), fun h => Bool.noConfusion (show false = true from h)⟩
theorem ok_10 : DfOk pt d10 := ⟨⟨rfl, rfl, rfl, by decide +kernel, rfl, by decide +kernel, by decide +kernel⟩, fun _ _ _ _ _ _ us hl => match us, hl with | [_, _], _ => rfl, fun _ Y Γ k X W Ow0 fr hfr F CS M Z => by
  obtain rfl : fr = false := not_fr rfl hfr
  have E : En pt Y Γ k d10.N X W d10.scope := ⟨F, M⟩
  have B : Eb pt Y Γ k d10.N X W d10.scope Ow0 false := ⟨E, CS⟩
  show JSs X B.w d10.body (m_is_possible Γ (Γ.call 9) (Γ.call 8)); delta m_is_possible
  exact s_cons B (s_ret B rfl (r_and E rfl (.cons rfl (r_cmp E (op := .eq) rfl rfl (r_call E 9 at_9 rfl (by kernel_rfl) (by kernel_rfl) rfl (.cons rfl (r_v E (i := 0) (by kernel_rfl)) (.cons rfl (r_v E (i := 1) (by kernel_rfl)) .nil))) (r_k E (by rfl))) (.cons rfl (r_cmp E (op := .eq) rfl rfl (r_ix E rfl (r_call E 8 at_8 rfl (by kernel_rfl) (by kernel_rfl) rfl (.cons rfl (r_v E (i := 0) (by kernel_rfl)) (.cons rfl (r_v E (i := 1) (by kernel_rfl)) .nil))) (r_k E (by rfl))) (r_k E (by rfl))) .nil)))) (s_nil B), fun h => Bool.noConfusion (show false = true from h)⟩
theorem ok_11 : DfOk pt d11 := ⟨⟨rfl, rfl, rfl, by decide +kernel, rfl, by decide +kernel, by decide +kernel⟩, fun _ _ _ _ _ _ us hl => match us, hl with | [_], _ => rfl, fun _ Y Γ k X W Ow0 fr hfr F CS M Z => by
  obtain rfl : fr = false := not_fr rfl hfr
  have E : En pt Y Γ k d11.N X W d11.scope := ⟨F, M⟩
  have B : Eb pt Y Γ k d11.N X W d11.scope Ow0 false := ⟨E, CS⟩
  show JSs X B.w d11.body (m_is_loose_row Γ (Γ.call 4) (Γ.call 3)); delta m_is_loose_row
  exact s_cons B (s_if B (r_or E rfl (.cons rfl (r_no E (r_isi E .tuple 3 (by rfl) rfl (by kernel_rfl) (by kernel_rfl) (by kernel_rfl) (by kernel_rfl) rfl (r_v E (i := 0) (by kernel_rfl)))) (.cons rfl (r_cmp E (op := .ne) rfl rfl (r_bi E .len rfl (by kernel_rfl) (by kernel_rfl) rfl (.cons rfl (r_v E (i := 0) (by kernel_rfl)) .nil)) (r_k E (by rfl))) (.cons rfl (r_no E (r_call E 4 at_4 rfl (by kernel_rfl) (by kernel_rfl) rfl (.cons rfl (r_ix E rfl (r_v E (i := 0) (by kernel_rfl)) (r_k E (by rfl))) .nil))) .nil)))) (s_cons B (s_ret B rfl (r_k E (by rfl))) (s_nil B)) (s_nil B)) (s_cons B (s_ret B rfl (r_and E rfl (.cons rfl (r_call E 3 at_3 rfl (by kernel_rfl) (by kernel_rfl) rfl (.cons rfl (r_ix E rfl (r_v E (i := 0) (by kernel_rfl)) (r_k E (by rfl))) (.cons rfl (r_k E (by rfl)) (.cons rfl (r_gi E 2 (by rfl) (by kernel_rfl) (by kernel_rfl)) .nil)))) (.cons rfl (r_bi E .all rfl (by kernel_rfl) (by kernel_rfl) rfl (.cons rfl (r_lc E (lc_ok E (rI := true) (own := [("score", 1)]) (p := .nm 1) rfl (by kernel_rfl) (by kernel_rfl) (i_of E (r_sl E (r_v E (i := 0) (by kernel_rfl)) (.some (r_k E (by rfl))) .none)) (fun _ E' hfE' => p_nm E' (by kernel_rfl)) (fun _ E' => .nil) (fun _ E' => r_call E' 3 at_3 rfl (by kernel_rfl) (by kernel_rfl) rfl (.cons rfl (r_v E' (i := 1) (by kernel_rfl)) (.cons rfl (r_k E' (by rfl)) (.cons rfl (r_gi E' 3 (by rfl) (by kernel_rfl) (by kernel_rfl)) .nil)))))) .nil)) .nil)))) (s_nil B)), fun h => Bool.noConfusion (show false = true from h)⟩
theorem ok_12 : DfOk pt d12 := ⟨⟨rfl, rfl, rfl, by decide +kernel, rfl, by decide +kernel, by decide +kernel⟩, fun _ _ _ _ _ _ us hl => match us, hl with | [_], _ => rfl, fun _ Y Γ k X W Ow0 fr hfr F CS M Z => by
  obtain rfl : fr = false := not_fr rfl hfr
  have E : En pt Y Γ k d12.N X W d12.scope := ⟨F, M⟩
  have B : Eb pt Y Γ k d12.N X W d12.scope Ow0 false := ⟨E, CS⟩
  show JSs X B.w d12.body (m_wrong_row Γ (Γ.call 11)); delta m_wrong_row
  exact s_cons B (s_own B (i := 1) (by kernel_rfl) rfl (f_lst E (by kernel_rfl) .nil)) (s_cons B (s_for B rfl (i_enum E (by kernel_rfl) (by kernel_rfl) rfl (r_v E (i := 0) (by kernel_rfl))) (p_tp E rfl rfl (pts_cons rfl (p_nmB B (by kernel_rfl)) (pts_cons rfl (p_nmB B (by kernel_rfl)) pts_nil))) (s_cons B (s_if B (r_or E rfl (.cons rfl (r_no E (r_call E 11 at_11 rfl (by kernel_rfl) (by kernel_rfl) rfl (.cons rfl (r_v E (i := 3) (by kernel_rfl)) .nil))) (.cons rfl (r_cmp E (op := .mem) rfl rfl (r_ix E rfl (r_v E (i := 3) (by kernel_rfl)) (r_k E (by rfl))) (r_pk E (i := 1) (by kernel_rfl))) (.cons rfl (r_cmp E (op := .ge) rfl rfl (r_v E (i := 2) (by kernel_rfl)) (r_gi E 1 (by rfl) (by kernel_rfl) (by kernel_rfl))) .nil)))) (s_cons B (s_ret B rfl (r_v E (i := 2) (by kernel_rfl))) (s_nil B)) (s_nil B)) (s_cons B (s_app B (i := 1) (by kernel_rfl) rfl rfl (r_ix E rfl (r_v E (i := 3) (by kernel_rfl)) (r_k E (by rfl)))) (s_nil B)))) (s_cons B (s_ret B rfl (r_k E (by rfl))) (s_nil B))), fun h => Bool.noConfusion (show false = true from h)⟩
theorem ok_13 : DfOk pt d13 := ⟨⟨rfl, rfl, rfl, by decide +kernel, rfl, by decide +kernel, by decide +kernel⟩, fun _ _ _ _ _ _ us hl => match us, hl with | [_], _ => rfl, fun _ Y Γ k X W Ow0 fr hfr F CS M Z => by
  obtain rfl : fr = false := not_fr rfl hfr
  have E : En pt Y Γ k d13.N X W d13.scope := ⟨F, M⟩
  have B : Eb pt Y Γ k d13.N X W d13.scope Ow0 false := ⟨E, CS⟩
  show JSs X B.w d13.body (m_check_rows Γ 1 (Γ.call 12)); delta m_check_rows
  exact s_cons B (s_if B (r_or E rfl (.cons rfl (r_no E (r_isi E .tuple 3 (by rfl) rfl (by kernel_rfl) (by kernel_rfl) (by kernel_rfl) (by kernel_rfl) rfl (r_v E (i := 0) (by kernel_rfl)))) (.cons rfl (r_cmp E (op := .eq) rfl rfl (r_bi E .len rfl (by kernel_rfl) (by kernel_rfl) rfl (.cons rfl (r_v E (i := 0) (by kernel_rfl)) .nil)) (r_k E (by rfl))) .nil))) (s_cons B (s_raise B 1 (by rfl) (by rfl) (by rfl) (by kernel_rfl) (by kernel_rfl) rfl (r_k E (by rfl))) (s_nil B)) (s_nil B)) (s_cons B (s_nm B (i := 1) (by kernel_rfl) rfl (r_call E 12 at_12 rfl (by kernel_rfl) (by kernel_rfl) rfl (.cons rfl (r_v E (i := 0) (by kernel_rfl)) .nil))) (s_cons B (s_if B (r_cmp E (op := .isnot) rfl rfl (r_v E (i := 1) (by kernel_rfl)) (r_k E (by rfl))) (s_cons B (s_raise B 1 (by rfl) (by rfl) (by rfl) (by kernel_rfl) (by kernel_rfl) rfl (r_v E (i := 1) (by kernel_rfl))) (s_nil B)) (s_nil B)) (s_nil B))), fun h => Bool.noConfusion (show false = true from h)⟩
theorem ok_14 : DfOk pt d14 := ⟨⟨rfl, rfl, rfl, by decide +kernel, rfl, by decide +kernel, by decide +kernel⟩, fun _ _ _ _ _ _ us hl => match us, hl with | [_, _], _ => rfl, fun _ Y Γ k X W Ow0 fr hfr F CS M Z => by
  obtain rfl : fr = false := not_fr rfl hfr
  have E : En pt Y Γ k d14.N X W d14.scope := ⟨F, M⟩
  have B : Eb pt Y Γ k d14.N X W d14.scope Ow0 false := ⟨E, CS⟩
  show JSs X B.w d14.body (m_level Γ); delta m_level
  exact s_cons B (s_ret B rfl (r_bi E .max rfl (by kernel_rfl) (by kernel_rfl) rfl (.cons rfl (r_ix E rfl (r_v E (i := 0) (by kernel_rfl)) (r_k E (by rfl))) (.cons rfl (r_bi E .min rfl (by kernel_rfl) (by kernel_rfl) rfl (.cons rfl (r_ix E rfl (r_v E (i := 0) (by kernel_rfl)) (r_k E (by rfl))) (.cons rfl (r_v E (i := 1) (by kernel_rfl)) .nil))) .nil)))) (s_nil B), fun h => Bool.noConfusion (show false = true from h)⟩
theorem ok_15 : DfOk pt d15 := ⟨⟨rfl, rfl, rfl, by decide +kernel, rfl, by decide +kernel, by decide +kernel⟩, fun _ _ _ _ _ _ us hl => match us, hl with | [_, _], _ => rfl, fun _ Y Γ k X W Ow0 fr hfr F CS M Z => by
  obtain rfl : fr = false := not_fr rfl hfr
  have E : En pt Y Γ k d15.N X W d15.scope := ⟨F, M⟩
  have B : Eb pt Y Γ k d15.N X W d15.scope Ow0 false := ⟨E, CS⟩
  show JSs X B.w d15.body (m_total_at Γ (Γ.call 14)); delta m_total_at
  exact s_cons B (s_ret B rfl (r_bi E .sum rfl (by kernel_rfl) (by kernel_rfl) rfl (.cons rfl (r_lc E (lc_ok E (rI := true) (own := [("row", 2)]) (p := .nm 2) rfl (by kernel_rfl) (by kernel_rfl) (i_of E (r_v E (i := 0) (by kernel_rfl))) (fun _ E' hfE' => p_nm E' (by kernel_rfl)) (fun _ E' => .nil) (fun _ E' => r_op E' (op := .mul) rfl (r_ix E' rfl (r_v E' (i := 2) (by kernel_rfl)) (r_k E' (by rfl))) (r_call E' 14 at_14 rfl (by kernel_rfl) (by kernel_rfl) rfl (.cons rfl (r_v E' (i := 2) (by kernel_rfl)) (.cons rfl (r_v E' (i := 1) (by kernel_rfl)) .nil)))))) .nil))) (s_nil B), fun h => Bool.noConfusion (show false = true from h)⟩
theorem ok_16 : DfOk pt d16 := ⟨⟨rfl, rfl, rfl, by decide +kernel, rfl, by decide +kernel, by decide +kernel⟩, fun _ _ _ _ _ _ us hl => match us, hl with | [_, _], _ => rfl, fun _ Y Γ k X W Ow0 fr hfr F CS M Z => by
  obtain rfl : fr = false := not_fr rfl hfr
  have E : En pt Y Γ k d16.N X W d16.scope := ⟨F, M⟩
  have B : Eb pt Y Γ k d16.N X W d16.scope Ow0 false := ⟨E, CS⟩
  show JSs X B.w d16.body (m_last_level Γ (Γ.call 15)); delta m_last_level
  exact s_cons B (s_par2 B (i := 2) (j := 3) (by kernel_rfl) (by kernel_rfl) (by decide) (by kernel_rfl) (by kernel_rfl) (by kernel_rfl) (.val rfl (r_k E (by rfl)) (.val rfl (r_gi E 3 (by rfl) (by kernel_rfl) (by kernel_rfl)) .nil))) (s_cons B (s_whl B (r_cmp E (op := .lt) rfl rfl (r_v E (i := 2) (by kernel_rfl)) (r_v E (i := 3) (by kernel_rfl))) (s_cons B (s_nm B (i := 4) (by kernel_rfl) rfl (r_op E (op := .fdiv) rfl (r_op E (op := .add) rfl (r_op E (op := .add) rfl (r_v E (i := 2) (by kernel_rfl)) (r_v E (i := 3) (by kernel_rfl))) (r_k E (by rfl))) (r_k E (by rfl)))) (s_cons B (s_if B (r_cmp E (op := .le) rfl rfl (r_call E 15 at_15 rfl (by kernel_rfl) (by kernel_rfl) rfl (.cons rfl (r_v E (i := 0) (by kernel_rfl)) (.cons rfl (r_v E (i := 4) (by kernel_rfl)) .nil))) (r_v E (i := 1) (by kernel_rfl))) (s_cons B (s_nm B (i := 2) (by kernel_rfl) rfl (r_v E (i := 4) (by kernel_rfl))) (s_nil B)) (s_cons B (s_nm B (i := 3) (by kernel_rfl) rfl (r_op E (op := .sub) rfl (r_v E (i := 4) (by kernel_rfl)) (r_k E (by rfl)))) (s_nil B))) (s_nil B)))) (s_cons B (s_ret B rfl (r_v E (i := 2) (by kernel_rfl))) (s_nil B))), fun h => Bool.noConfusion (show false = true from h)⟩
theorem ok_17 : DfOk pt d17 := ⟨⟨rfl, rfl, rfl, by decide +kernel, rfl, by decide +kernel, by decide +kernel⟩, fun _ _ _ _ _ _ us hl => match us, hl with | [_, _], _ => rfl, fun _ Y Γ k X W Ow0 fr hfr F CS M Z => by
  obtain rfl : fr = false := not_fr rfl hfr
  have E : En pt Y Γ k d17.N X W d17.scope := ⟨F, M⟩
  have B : Eb pt Y Γ k d17.N X W d17.scope Ow0 false := ⟨E, CS⟩
  show JSs X B.w d17.body (m_levelled Γ (Γ.call 16) (Γ.call 15) (Γ.call 14)); delta m_levelled
  exact s_cons B (s_par2 B (i := 4) (j := 5) (by kernel_rfl) (by kernel_rfl) (by decide) (by kernel_rfl) (by kernel_rfl) (by kernel_rfl) (.val rfl (r_call E 16 at_16 rfl (by kernel_rfl) (by kernel_rfl) rfl (.cons rfl (r_v E (i := 0) (by kernel_rfl)) (.cons rfl (r_v E (i := 1) (by kernel_rfl)) .nil))) (.val rfl (r_lst E (by kernel_rfl) .nil) .nil))) (s_cons B (s_nm B (i := 2) (by kernel_rfl) rfl (r_op E (op := .sub) rfl (r_v E (i := 1) (by kernel_rfl)) (r_call E 15 at_15 rfl (by kernel_rfl) (by kernel_rfl) rfl (.cons rfl (r_v E (i := 0) (by kernel_rfl)) (.cons rfl (r_v E (i := 4) (by kernel_rfl)) .nil))))) (s_cons B (s_for B rfl (i_of E (r_v E (i := 0) (by kernel_rfl))) (p_nmB B (by kernel_rfl)) (s_cons B (s_nm B (i := 6) (by kernel_rfl) rfl (r_call E 14 at_14 rfl (by kernel_rfl) (by kernel_rfl) rfl (.cons rfl (r_v E (i := 3) (by kernel_rfl)) (.cons rfl (r_v E (i := 4) (by kernel_rfl)) .nil)))) (s_cons B (s_nm B (i := 7) (by kernel_rfl) rfl (r_ifeS E (r_cmp E (op := .gt) rfl rfl (r_call E 14 at_14 rfl (by kernel_rfl) (by kernel_rfl) rfl (.cons rfl (r_v E (i := 3) (by kernel_rfl)) (.cons rfl (r_op E (op := .add) rfl (r_v E (i := 4) (by kernel_rfl)) (r_k E (by rfl))) .nil))) (r_v E (i := 6) (by kernel_rfl))) (r_bi E .min rfl (by kernel_rfl) (by kernel_rfl) rfl (.cons rfl (r_v E (i := 2) (by kernel_rfl)) (.cons rfl (r_ix E rfl (r_v E (i := 3) (by kernel_rfl)) (r_k E (by rfl))) .nil))) (r_k E (by rfl)))) (s_cons B (s_aug B (op := .sub) (i := 2) (by kernel_rfl) (by first | exact .inl ⟨rfl, rfl⟩ | exact .inr ⟨rfl, rfl⟩) (r_v E (i := 7) (by kernel_rfl))) (s_cons B (s_nm B (i := 5) (by kernel_rfl) rfl (r_op E (op := .add) rfl (r_v E (i := 5) (by kernel_rfl)) (r_lc E (lc_ok E (rI := true) (own := [("number", 8), ("points", 9)]) (p := .tp [.nm 8, .nm 9]) rfl (by kernel_rfl) (by kernel_rfl) (i_of E (r_tup E (by kernel_rfl) (.cons rfl (r_tup E (by kernel_rfl) (.cons rfl (r_op E (op := .sub) rfl (r_ix E rfl (r_v E (i := 3) (by kernel_rfl)) (r_k E (by rfl))) (r_v E (i := 7) (by kernel_rfl))) (.cons rfl (r_v E (i := 6) (by kernel_rfl)) .nil))) (.cons rfl (r_tup E (by kernel_rfl) (.cons rfl (r_v E (i := 7) (by kernel_rfl)) (.cons rfl (r_op E (op := .add) rfl (r_v E (i := 6) (by kernel_rfl)) (r_k E (by rfl))) .nil))) .nil)))) (fun _ E' hfE' => p_tp E' rfl rfl (pts_cons rfl (p_nm E' (by kernel_rfl)) (pts_cons rfl (p_nm E' (by kernel_rfl)) pts_nil))) (fun _ E' => .one (r_cmp E' (op := .gt) rfl rfl (r_v E' (i := 8) (by kernel_rfl)) (r_k E' (by rfl)))) (fun _ E' => r_tup E' (by kernel_rfl) (.cons rfl (r_ix E' rfl (r_v E' (i := 3) (by kernel_rfl)) (r_k E' (by rfl))) (.cons rfl (r_v E' (i := 8) (by kernel_rfl)) (.cons rfl (r_v E' (i := 9) (by kernel_rfl)) .nil)))))))) (s_nil B)))))) (s_cons B (s_ret B rfl (r_v E (i := 5) (by kernel_rfl))) (s_nil B)))), fun h => Bool.noConfusion (show false = true from h)⟩
theorem ok_18 : DfOk pt d18 := ⟨⟨rfl, rfl, rfl, by decide +kernel, rfl, by decide +kernel, by decide +kernel⟩, fun _ _ _ _ _ _ us hl => match us, hl with | [_, _], _ => rfl, fun _ Y Γ k X W Ow0 fr hfr F CS M Z => by
  obtain rfl : fr = false := not_fr rfl hfr
  have E : En pt Y Γ k d18.N X W d18.scope := ⟨F, M⟩
  have B : Eb pt Y Γ k d18.N X W d18.scope Ow0 false := ⟨E, CS⟩
  show JSs X B.w d18.body (m_filled_rows Γ (Γ.call 6) (Γ.call 15) (Γ.call 17) (Γ.call 10)); delta m_filled_rows
  exact s_cons B (s_nm B (i := 2) (by kernel_rfl) rfl (r_call E 6 at_6 rfl (by kernel_rfl) (by kernel_rfl) rfl (.cons rfl (r_v E (i := 0) (by kernel_rfl)) (.cons rfl (r_bi E .sum rfl (by kernel_rfl) (by kernel_rfl) rfl (.cons rfl (r_lc E (lc_ok E (rI := true) (own := [("row", 4)]) (p := .nm 4) rfl (by kernel_rfl) (by kernel_rfl) (i_of E (r_v E (i := 1) (by kernel_rfl))) (fun _ E' hfE' => p_nm E' (by kernel_rfl)) (fun _ E' => .nil) (fun _ E' => r_ix E' rfl (r_v E' (i := 4) (by kernel_rfl)) (r_k E' (by rfl))))) .nil)) .nil)))) (s_cons B (s_if B (r_no E (r_bi E .all rfl (by kernel_rfl) (by kernel_rfl) rfl (.cons rfl (r_lc E (lc_ok E (rI := true) (own := [("row", 4)]) (p := .nm 4) rfl (by kernel_rfl) (by kernel_rfl) (i_of E (r_v E (i := 1) (by kernel_rfl))) (fun _ E' hfE' => p_nm E' (by kernel_rfl)) (fun _ E' => .nil) (fun _ E' => r_cmp E' (op := .le) rfl rfl (r_ix E' rfl (r_v E' (i := 4) (by kernel_rfl)) (r_k E' (by rfl))) (r_ix E' rfl (r_v E' (i := 4) (by kernel_rfl)) (r_k E' (by rfl)))))) .nil))) (s_cons B (s_ret B rfl (r_k E (by rfl))) (s_nil B)) (s_nil B)) (s_cons B (s_if B (r_no E (r_chain E (op := .le) (op2 := .le) rfl rfl rfl (r_call E 15 at_15 rfl (by kernel_rfl) (by kernel_rfl) rfl (.cons rfl (r_v E (i := 1) (by kernel_rfl)) (.cons rfl (r_k E (by rfl)) .nil))) (r_v E (i := 2) (by kernel_rfl)) (r_call E 15 at_15 rfl (by kernel_rfl) (by kernel_rfl) rfl (.cons rfl (r_v E (i := 1) (by kernel_rfl)) (.cons rfl (r_gi E 3 (by rfl) (by kernel_rfl) (by kernel_rfl)) .nil))))) (s_cons B (s_ret B rfl (r_k E (by rfl))) (s_nil B)) (s_nil B)) (s_cons B (s_nm B (i := 3) (by kernel_rfl) rfl (r_call E 17 at_17 rfl (by kernel_rfl) (by kernel_rfl) rfl (.cons rfl (r_v E (i := 1) (by kernel_rfl)) (.cons rfl (r_v E (i := 2) (by kernel_rfl)) .nil)))) (s_cons B (s_ret B rfl (r_ifeS E (r_call E 10 at_10 rfl (by kernel_rfl) (by kernel_rfl) rfl (.cons rfl (r_v E (i := 0) (by kernel_rfl)) (.cons rfl (r_v E (i := 3) (by kernel_rfl)) .nil))) (r_bi E .tuple rfl (by kernel_rfl) (by kernel_rfl) rfl (.cons rfl (r_v E (i := 3) (by kernel_rfl)) .nil)) (r_k E (by rfl)))) (s_nil B))))), fun h => Bool.noConfusion (show false = true from h)⟩
theorem ok_19 : DfOk pt d19 := ⟨⟨rfl, rfl, rfl, by decide +kernel, rfl, by decide +kernel, by decide +kernel⟩, fun _ _ _ _ _ _ us hl => match us, hl with | [_, _], _ => rfl, fun _ Y Γ k X W Ow0 fr hfr F CS M Z => by
  obtain rfl : fr = false := not_fr rfl hfr
  have E : En pt Y Γ k d19.N X W d19.scope := ⟨F, M⟩
  have B : Eb pt Y Γ k d19.N X W d19.scope Ow0 false := ⟨E, CS⟩
  show JSs X B.w d19.body (m_loose_possible Γ (Γ.call 5) (Γ.call 13) (Γ.call 18)); delta m_loose_possible
  exact s_cons B (s_ex B rfl (r_call E 5 at_5 rfl (by kernel_rfl) (by kernel_rfl) rfl (.cons rfl (r_v E (i := 0) (by kernel_rfl)) .nil))) (s_cons B (s_ex B rfl (r_call E 13 at_13 rfl (by kernel_rfl) (by kernel_rfl) rfl (.cons rfl (r_v E (i := 1) (by kernel_rfl)) .nil))) (s_cons B (s_ret B rfl (r_cmp E (op := .isnot) rfl rfl (r_call E 18 at_18 rfl (by kernel_rfl) (by kernel_rfl) rfl (.cons rfl (r_v E (i := 0) (by kernel_rfl)) (.cons rfl (r_v E (i := 1) (by kernel_rfl)) .nil))) (r_k E (by rfl)))) (s_nil B))), fun h => Bool.noConfusion (show false = true from h)⟩
theorem ok_20 : DfOk pt d20 := ⟨⟨rfl, rfl, rfl, by decide +kernel, rfl, by decide +kernel, by decide +kernel⟩, fun _ _ _ _ _ _ us hl => match us, hl with | [_, _], _ => rfl, fun _ Y Γ k X W Ow0 fr hfr F CS M Z => by
  obtain rfl : fr = false := not_fr rfl hfr
  have E : En pt Y Γ k d20.N X W d20.scope := ⟨F, M⟩
  have B : Eb pt Y Γ k d20.N X W d20.scope Ow0 false := ⟨E, CS⟩
  show JSs X B.w d20.body (m_filled Γ (Γ.call 5) (Γ.call 13) (Γ.call 18)); delta m_filled
  exact s_cons B (s_ex B rfl (r_call E 5 at_5 rfl (by kernel_rfl) (by kernel_rfl) rfl (.cons rfl (r_v E (i := 0) (by kernel_rfl)) .nil))) (s_cons B (s_ex B rfl (r_call E 13 at_13 rfl (by kernel_rfl) (by kernel_rfl) rfl (.cons rfl (r_v E (i := 1) (by kernel_rfl)) .nil))) (s_cons B (s_ret B rfl (r_call E 18 at_18 rfl (by kernel_rfl) (by kernel_rfl) rfl (.cons rfl (r_v E (i := 0) (by kernel_rfl)) (.cons rfl (r_v E (i := 1) (by kernel_rfl)) .nil)))) (s_nil B))), fun h => Bool.noConfusion (show false = true from h)⟩
theorem ok_21 : DfOk pt d21 := ⟨⟨rfl, rfl, rfl, by decide +kernel, rfl, by decide +kernel, by decide +kernel⟩, fun _ _ _ _ _ _ us hl => match us, hl with | [_, _], _ => rfl, fun _ Y Γ k X W Ow0 fr hfr F CS M Z => by
  obtain rfl : fr = false := not_fr rfl hfr
  have E : En pt Y Γ k d21.N X W d21.scope := ⟨F, M⟩
  have B : Eb pt Y Γ k d21.N X W d21.scope Ow0 false := ⟨E, CS⟩
  show JSs X B.w d21.body (m_well Γ); delta m_well
  exact s_cons B (s_nm B (i := 2) (by kernel_rfl) rfl (r_ifeS E (r_cmp E (op := .lt) rfl rfl (r_v E (i := 1) (by kernel_rfl)) (r_bi E .len rfl (by kernel_rfl) (by kernel_rfl) rfl (.cons rfl (r_v E (i := 0) (by kernel_rfl)) .nil))) (r_ix E rfl (r_v E (i := 0) (by kernel_rfl)) (r_v E (i := 1) (by kernel_rfl))) (r_k E (by rfl)))) (s_cons B (s_nm B (i := 3) (by kernel_rfl) rfl (r_op E (op := .add) rfl (r_k E (by rfl)) (r_op E (op := .mul) rfl (r_k E (by rfl)) (r_v E (i := 1) (by kernel_rfl))))) (s_cons B (s_for B rfl (i_of E (r_sl E (r_v E (i := 0) (by kernel_rfl)) .none (.some (r_k E (by rfl))))) (p_nmB B (by kernel_rfl)) (s_cons B (s_nm B (i := 3) (by kernel_rfl) rfl (r_op E (op := .mod) rfl (r_bi E .int rfl (by kernel_rfl) (by kernel_rfl) rfl (.cons rfl (r_op E (op := .add) rfl (r_op E (op := .add) rfl (r_op E (op := .mul) rfl (r_v E (i := 3) (by kernel_rfl)) (r_k E (by rfl))) (r_op E (op := .mod) rfl (r_bi E .int rfl (by kernel_rfl) (by kernel_rfl) rfl (.cons rfl (r_v E (i := 4) (by kernel_rfl)) .nil)) (r_k E (by rfl)))) (r_k E (by rfl))) .nil)) (r_k E (by rfl)))) (s_nil B))) (s_cons B (s_nm B (i := 3) (by kernel_rfl) rfl (r_op E (op := .mod) rfl (r_bi E .int rfl (by kernel_rfl) (by kernel_rfl) rfl (.cons rfl (r_op E (op := .add) rfl (r_op E (op := .add) rfl (r_op E (op := .mul) rfl (r_v E (i := 3) (by kernel_rfl)) (r_k E (by rfl))) (r_op E (op := .mod) rfl (r_bi E .int rfl (by kernel_rfl) (by kernel_rfl) rfl (.cons rfl (r_v E (i := 2) (by kernel_rfl)) .nil)) (r_k E (by rfl)))) (r_k E (by rfl))) .nil)) (r_k E (by rfl)))) (s_cons B (s_ret B rfl (r_new E (.cons rfl (r_v E (i := 3) (by kernel_rfl)) (.cons rfl (r_ifeS E (r_cmp E (op := .ge) rfl rfl (r_bi E .abs rfl (by kernel_rfl) (by kernel_rfl) rfl (.cons rfl (r_v E (i := 2) (by kernel_rfl)) .nil)) (r_op E (op := .pow) rfl (r_k E (by rfl)) (r_k E (by rfl)))) (r_bi E .abs rfl (by kernel_rfl) (by kernel_rfl) rfl (.cons rfl (r_v E (i := 2) (by kernel_rfl)) .nil)) (r_k E (by rfl))) (.cons rfl (r_k E (by rfl)) .nil))))) (s_nil B))))), fun h => Bool.noConfusion (show false = true from h)⟩
theorem ok_22 : DfOk pt d22 := ⟨⟨rfl, rfl, rfl, by decide +kernel, rfl, by decide +kernel, by decide +kernel⟩, fun _ _ _ _ _ _ us hl => match us, hl with | [_, _], _ => rfl, fun _ Y Γ k X W Ow0 fr hfr F CS M Z => by
  obtain rfl : fr = false := not_fr rfl hfr
  have E : En pt Y Γ k d22.N X W d22.scope := ⟨F, M⟩
  have B : Eb pt Y Γ k d22.N X W d22.scope Ow0 false := ⟨E, CS⟩
  show JSs X B.w d22.body (m_dip Γ); delta m_dip
  exact s_cons B (s_if B (r_cmp E (op := .gt) rfl rfl (r_ix E rfl (r_v E (i := 0) (by kernel_rfl)) (r_k E (by rfl))) (r_k E (by rfl))) (s_cons B (s_unp B rfl rfl (r_bi E .divmod rfl (by kernel_rfl) (by kernel_rfl) rfl (.cons rfl (r_ix E rfl (r_v E (i := 0) (by kernel_rfl)) (r_k E (by rfl))) (.cons rfl (r_v E (i := 1) (by kernel_rfl)) .nil))) (.cons rfl (t_sub B rfl (r_v E (i := 0) (by kernel_rfl)) (r_k E (by rfl))) (.cons rfl (t_nm B (i := 2) (by kernel_rfl)) .nil))) (s_cons B (s_ret B rfl (r_v E (i := 2) (by kernel_rfl))) (s_nil B))) (s_nil B)) (s_cons B (s_tg B rfl (.inl rfl) rfl (r_op E (op := .add) rfl (r_ix E rfl (r_v E (i := 0) (by kernel_rfl)) (r_k E (by rfl))) (r_k E (by rfl))) (t_sub B rfl (r_v E (i := 0) (by kernel_rfl)) (r_k E (by rfl)))) (s_cons B (s_tg B rfl (.inl rfl) rfl (r_op E (op := .mod) rfl (r_bi E .int rfl (by kernel_rfl) (by kernel_rfl) rfl (.cons rfl (r_op E (op := .add) rfl (r_op E (op := .add) rfl (r_op E (op := .mul) rfl (r_ix E rfl (r_v E (i := 0) (by kernel_rfl)) (r_k E (by rfl))) (r_k E (by rfl))) (r_op E (op := .mul) rfl (r_op E (op := .mul) rfl (r_k E (by rfl)) (r_ix E rfl (r_v E (i := 0) (by kernel_rfl)) (r_k E (by rfl)))) (r_ix E rfl (r_v E (i := 0) (by kernel_rfl)) (r_k E (by rfl))))) (r_k E (by rfl))) .nil)) (r_k E (by rfl))) (t_sub B rfl (r_v E (i := 0) (by kernel_rfl)) (r_k E (by rfl)))) (s_cons B (s_ret B rfl (r_op E (op := .mod) rfl (r_bi E .int rfl (by kernel_rfl) (by kernel_rfl) rfl (.cons rfl (r_op E (op := .fdiv) rfl (r_ix E rfl (r_v E (i := 0) (by kernel_rfl)) (r_k E (by rfl))) (r_k E (by rfl))) .nil)) (r_v E (i := 1) (by kernel_rfl)))) (s_nil B)))), fun h => Bool.noConfusion (show false = true from h)⟩
theorem ok_23 : DfOk pt d23 := ⟨⟨rfl, rfl, rfl, by decide +kernel, rfl, by decide +kernel, by decide +kernel⟩, fun _ _ _ _ _ _ us hl => match us, hl with | [_, _], _ => rfl, fun _ Y Γ k X W Ow0 fr hfr F CS M Z => by
  obtain rfl : fr = false := not_fr rfl hfr
  have E : En pt Y Γ k d23.N X W d23.scope := ⟨F, M⟩
  have B : Eb pt Y Γ k d23.N X W d23.scope Ow0 false := ⟨E, CS⟩
  show JSs X B.w d23.body (m_names Γ (Γ.call 22)); delta m_names
  exact s_cons B (s_nm B (i := 2) (by kernel_rfl) rfl (r_lst E (by kernel_rfl) (.cons rfl (r_k E (by kernel_rfl)) (.cons rfl (r_k E (by kernel_rfl)) (.cons rfl (r_k E (by kernel_rfl)) (.cons rfl (r_k E (by kernel_rfl)) (.cons rfl (r_k E (by kernel_rfl)) (.cons rfl (r_k E (by kernel_rfl)) (.cons rfl (r_k E (by kernel_rfl)) (.cons rfl (r_k E (by kernel_rfl)) .nil)))))))))) (s_cons B (s_parN B (ts := [(false, 4), (true, 5)]) (by kernel_rfl) (by kernel_rfl) (.cons (B.nml (i := 4) (by kernel_rfl)) (.cons (B.nml (i := 5) (by kernel_rfl)) .nil)) (.val rfl (r_k E (by kernel_rfl)) (.own rfl (f_lst E (by kernel_rfl) .nil) lst_sh .nil))) (s_cons B (s_for B rfl (i_rng1 E (by kernel_rfl) (by kernel_rfl) rfl (r_v E (i := 1) (by kernel_rfl))) (p_nmB B (by kernel_rfl)) (s_cons B (s_nm B (i := 6) (by kernel_rfl) rfl (r_ifeS E (r_cmp E (op := .eq) rfl rfl (r_call E 22 at_22 rfl (by kernel_rfl) (by kernel_rfl) rfl (.cons rfl (r_v E (i := 0) (by kernel_rfl)) (.cons rfl (r_k E (by rfl)) .nil))) (r_k E (by rfl))) (r_call E 22 at_22 rfl (by kernel_rfl) (by kernel_rfl) rfl (.cons rfl (r_v E (i := 0) (by kernel_rfl)) (.cons rfl (r_k E (by rfl)) .nil))) (r_call E 22 at_22 rfl (by kernel_rfl) (by kernel_rfl) rfl (.cons rfl (r_v E (i := 0) (by kernel_rfl)) (.cons rfl (r_k E (by rfl)) .nil))))) (s_cons B (s_nm B (i := 7) (by kernel_rfl) rfl (r_op E (op := .add) rfl (r_ix E rfl (r_v E (i := 4) (by kernel_rfl)) (r_call E 22 at_22 rfl (by kernel_rfl) (by kernel_rfl) rfl (.cons rfl (r_v E (i := 0) (by kernel_rfl)) (.cons rfl (r_k E (by rfl)) .nil)))) (r_join E [] (by kernel_rfl) rfl rfl (r_lc E (lc_ok E (rI := true) (own := [("_law_j", 9)]) (p := .nm 9) rfl (by kernel_rfl) (by kernel_rfl) (i_rng1 E (by kernel_rfl) (by kernel_rfl) rfl (r_v E (i := 6) (by kernel_rfl))) (fun _ E' hfE' => p_nm E' (by kernel_rfl)) (fun _ E' => .nil) (fun _ E' => r_ix E' rfl (r_v E' (i := 4) (by kernel_rfl)) (r_call E' 22 at_22 rfl (by kernel_rfl) (by kernel_rfl) rfl (.cons rfl (r_v E' (i := 0) (by kernel_rfl)) (.cons rfl (r_k E' (by rfl)) .nil))))))))) (s_cons B (s_if B (r_cmp E (op := .eq) rfl rfl (r_call E 22 at_22 rfl (by kernel_rfl) (by kernel_rfl) rfl (.cons rfl (r_v E (i := 0) (by kernel_rfl)) (.cons rfl (r_k E (by rfl)) .nil))) (r_k E (by rfl))) (s_cons B (s_nm B (i := 7) (by kernel_rfl) rfl (r_ix E rfl (r_v E (i := 2) (by kernel_rfl)) (r_call E 22 at_22 rfl (by kernel_rfl) (by kernel_rfl) rfl (.cons rfl (r_v E (i := 0) (by kernel_rfl)) (.cons rfl (r_k E (by rfl)) .nil))))) (s_nil B)) (s_nil B)) (s_cons B (s_nm B (i := 8) (by kernel_rfl) rfl (r_op E (op := .add) rfl (r_lst E (by kernel_rfl) (.cons rfl (r_v E (i := 7) (by kernel_rfl)) .nil)) (r_lc E (lc_ok E (rI := true) (own := [("_law_j", 9)]) (p := .nm 9) rfl (by kernel_rfl) (by kernel_rfl) (i_rng1 E (by kernel_rfl) (by kernel_rfl) rfl (r_v E (i := 1) (by kernel_rfl))) (fun _ E' hfE' => p_nm E' (by kernel_rfl)) (fun _ E' => .nil) (fun _ E' => r_op E' (op := .add) rfl (r_k E' (by kernel_rfl)) (r_bi E' .str rfl (by kernel_rfl) (by kernel_rfl) rfl (.cons rfl (r_v E' (i := 9) (by kernel_rfl)) .nil))))))) (s_cons B (s_app B (i := 5) (by kernel_rfl) rfl rfl (r_ix E rfl (r_lc E (lc_ok E (rI := true) (own := [("_law_each", 10)]) (p := .nm 10) rfl (by kernel_rfl) (by kernel_rfl) (i_of E (r_v E (i := 8) (by kernel_rfl))) (fun _ E' hfE' => p_nm E' (by kernel_rfl)) (fun _ E' => .one (r_cmp E' (op := .nmem) rfl rfl (r_v E' (i := 10) (by kernel_rfl)) (r_pk E' (i := 5) (by kernel_rfl)))) (fun _ E' => r_v E' (i := 10) (by kernel_rfl)))) (r_k E (by rfl)))) (s_nil B))))))) (s_frzs B 5 (s_cons B (s_ret B rfl (r_v E (i := 5) (by kernel_rfl))) (s_nil B))))), fun h => Bool.noConfusion (show false = true from h)⟩
theorem ok_24 : DfOk pt d24 := ⟨⟨rfl, rfl, rfl, by decide +kernel, rfl, by decide +kernel, by decide +kernel⟩, fun _ _ _ _ _ _ us hl => match us, hl with | [_, _], _ => rfl, fun _ Y Γ k X W Ow0 fr hfr F CS M Z => by
  obtain rfl : fr = false := not_fr rfl hfr
  have E : En pt Y Γ k d24.N X W d24.scope := ⟨F, M⟩
  have B : Eb pt Y Γ k d24.N X W d24.scope Ow0 false := ⟨E, CS⟩
  show JSs X B.w d24.body (m_mixed Γ (Γ.call 22)); delta m_mixed
  exact s_cons B (s_own B (i := 2) (by kernel_rfl) rfl (f_lst E (by kernel_rfl) .nil)) (s_cons B (s_for B rfl (i_rng1 E (by kernel_rfl) (by kernel_rfl) rfl (r_v E (i := 1) (by kernel_rfl))) (p_nmB B (by kernel_rfl)) (s_cons B (s_ins B (i := 2) (by kernel_rfl) rfl rfl rfl (r_call E 22 at_22 rfl (by kernel_rfl) (by kernel_rfl) rfl (.cons rfl (r_v E (i := 0) (by kernel_rfl)) (.cons rfl (r_op E (op := .add) rfl (r_bi E .len rfl (by kernel_rfl) (by kernel_rfl) rfl (.cons rfl (r_pk E (i := 2) (by kernel_rfl)) .nil)) (r_k E (by rfl))) .nil))) (r_v E (i := 3) (by kernel_rfl))) (s_nil B))) (s_frzs B 2 (s_cons B (s_ret B rfl (r_v E (i := 2) (by kernel_rfl))) (s_nil B)))), fun h => Bool.noConfusion (show false = true from h)⟩
theorem ok_25 : DfOk pt d25 := ⟨⟨rfl, rfl, rfl, by decide +kernel, rfl, by decide +kernel, by decide +kernel⟩, fun _ _ _ _ _ _ us hl => match us, hl with | [_], _ => rfl, fun _ Y Γ k X W Ow0 fr hfr F CS M Z => by
  obtain rfl : fr = false := not_fr rfl hfr
  have E : En pt Y Γ k d25.N X W d25.scope := ⟨F, M⟩
  have B : Eb pt Y Γ k d25.N X W d25.scope Ow0 false := ⟨E, CS⟩
  show JSs X B.w d25.body (m_number Γ (Γ.call 22)); delta m_number
  exact s_cons B (s_nm B (i := 1) (by kernel_rfl) rfl (r_call E 22 at_22 rfl (by kernel_rfl) (by kernel_rfl) rfl (.cons rfl (r_v E (i := 0) (by kernel_rfl)) (.cons rfl (r_k E (by rfl)) .nil)))) (s_cons B (s_if B (r_cmp E (op := .eq) rfl rfl (r_v E (i := 1) (by kernel_rfl)) (r_k E (by rfl))) (s_cons B (s_ret B rfl (r_op E (op := .add) rfl (r_k E (by rfl)) (r_call E 22 at_22 rfl (by kernel_rfl) (by kernel_rfl) rfl (.cons rfl (r_v E (i := 0) (by kernel_rfl)) (.cons rfl (r_k E (by rfl)) .nil))))) (s_nil B)) (s_nil B)) (s_cons B (s_if B (r_cmp E (op := .eq) rfl rfl (r_v E (i := 1) (by kernel_rfl)) (r_k E (by rfl))) (s_cons B (s_ret B rfl (r_op E (op := .add) rfl (r_k E (by rfl)) (r_call E 22 at_22 rfl (by kernel_rfl) (by kernel_rfl) rfl (.cons rfl (r_v E (i := 0) (by kernel_rfl)) (.cons rfl (r_op E (op := .pow) rfl (r_k E (by rfl)) (r_k E (by rfl))) .nil))))) (s_nil B)) (s_nil B)) (s_cons B (s_if B (r_cmp E (op := .eq) rfl rfl (r_v E (i := 1) (by kernel_rfl)) (r_k E (by rfl))) (s_cons B (s_ret B rfl (r_op E (op := .sub) rfl (r_op E (op := .pow) rfl (r_k E (by rfl)) (r_k E (by rfl))) (r_call E 22 at_22 rfl (by kernel_rfl) (by kernel_rfl) rfl (.cons rfl (r_v E (i := 0) (by kernel_rfl)) (.cons rfl (r_k E (by rfl)) .nil))))) (s_nil B)) (s_nil B)) (s_cons B (s_ret B rfl (r_op E (op := .add) rfl (r_op E (op := .add) rfl (r_k E (by rfl)) (r_op E (op := .mul) rfl (r_call E 22 at_22 rfl (by kernel_rfl) (by kernel_rfl) rfl (.cons rfl (r_v E (i := 0) (by kernel_rfl)) (.cons rfl (r_op E (op := .pow) rfl (r_k E (by rfl)) (r_k E (by rfl))) .nil))) (r_op E (op := .pow) rfl (r_k E (by rfl)) (r_k E (by rfl))))) (r_call E 22 at_22 rfl (by kernel_rfl) (by kernel_rfl) rfl (.cons rfl (r_v E (i := 0) (by kernel_rfl)) (.cons rfl (r_op E (op := .pow) rfl (r_k E (by rfl)) (r_k E (by rfl))) .nil))))) (s_nil B))))), fun h => Bool.noConfusion (show false = true from h)⟩
theorem ok_26 : DfOk pt d26 := ⟨⟨rfl, rfl, rfl, by decide +kernel, rfl, by decide +kernel, by decide +kernel⟩, fun _ _ _ _ _ _ us hl => match us, hl with | [_, _], _ => rfl, fun _ Y Γ k X W Ow0 fr hfr F CS M Z => by
  obtain rfl : fr = false := not_fr rfl hfr
  have E : En pt Y Γ k d26.N X W d26.scope := ⟨F, M⟩
  have B : Eb pt Y Γ k d26.N X W d26.scope Ow0 false := ⟨E, CS⟩
  show JSs X B.w d26.body (m_some Γ (Γ.call 22)); delta m_some
  exact s_cons B (s_nm B (i := 2) (by kernel_rfl) rfl (r_call E 22 at_22 rfl (by kernel_rfl) (by kernel_rfl) rfl (.cons rfl (r_v E (i := 0) (by kernel_rfl)) (.cons rfl (r_k E (by rfl)) .nil)))) (s_cons B (s_if B (r_cmp E (op := .lt) rfl rfl (r_v E (i := 2) (by kernel_rfl)) (r_k E (by rfl))) (s_cons B (s_ret B rfl (r_ix E rfl (r_lst E (by kernel_rfl) (.cons rfl (r_k E (by rfl)) (.cons rfl (r_v E (i := 1) (by kernel_rfl)) (.cons rfl (r_op E (op := .fdiv) rfl (r_v E (i := 1) (by kernel_rfl)) (r_k E (by rfl))) (.cons rfl (r_op E (op := .fdiv) rfl (r_v E (i := 1) (by kernel_rfl)) (r_k E (by rfl))) .nil))))) (r_v E (i := 2) (by kernel_rfl)))) (s_nil B)) (s_nil B)) (s_cons B (s_ret B rfl (r_op E (op := .fdiv) rfl (r_op E (op := .mul) rfl (r_v E (i := 1) (by kernel_rfl)) (r_call E 22 at_22 rfl (by kernel_rfl) (by kernel_rfl) rfl (.cons rfl (r_v E (i := 0) (by kernel_rfl)) (.cons rfl (r_k E (by rfl)) .nil)))) (r_k E (by rfl)))) (s_nil B))), fun h => Bool.noConfusion (show false = true from h)⟩
theorem ok_27 : DfOk pt d27 := ⟨⟨rfl, rfl, rfl, by decide +kernel, rfl, by decide +kernel, by decide +kernel⟩, fun _ _ _ _ _ _ us hl => match us, hl with | [_, _, _], _ => rfl, fun _ Y Γ k X W Ow0 fr hfr F CS M Z => by
  obtain rfl : fr = false := not_fr rfl hfr
  have E : En pt Y Γ k d27.N X W d27.scope := ⟨F, M⟩
  have B : Eb pt Y Γ k d27.N X W d27.scope Ow0 false := ⟨E, CS⟩
  show JSs X B.w d27.body (m_fair Γ (Γ.call 22) (Γ.call 25) (Γ.call 26) (Γ.call 23) (Γ.call 24)); delta m_fair
  exact s_cons B (s_nm B (i := 3) (by kernel_rfl) rfl (r_op E (op := .add) rfl (r_lc E (lc_ok E (rI := true) (own := [("_law_k", 6)]) (p := .nm 6) rfl (by kernel_rfl) (by kernel_rfl) (i_rng1 E (by kernel_rfl) (by kernel_rfl) rfl (r_op E (op := .add) rfl (r_k E (by rfl)) (r_call E 22 at_22 rfl (by kernel_rfl) (by kernel_rfl) rfl (.cons rfl (r_v E (i := 0) (by kernel_rfl)) (.cons rfl (r_v E (i := 2) (by kernel_rfl)) .nil))))) (fun _ E' hfE' => p_nm E' (by kernel_rfl)) (fun _ E' => .nil) (fun _ E' => r_call E' 25 at_25 rfl (by kernel_rfl) (by kernel_rfl) rfl (.cons rfl (r_v E' (i := 0) (by kernel_rfl)) .nil)))) (r_lst E (by kernel_rfl) (.cons rfl (r_k E (by rfl)) .nil)))) (s_cons B (s_nm B (i := 4) (by kernel_rfl) rfl (r_op E (op := .sub) rfl (r_bi E .len rfl (by kernel_rfl) (by kernel_rfl) rfl (.cons rfl (r_v E (i := 3) (by kernel_rfl)) .nil)) (r_k E (by rfl)))) (s_cons B (s_nmC B (i := 5) (by kernel_rfl) (by kernel_rfl) (r_lc E (lc_ok E (rI := true) (own := [("_law_other", 9)]) (p := .nm 9) rfl (by kernel_rfl) (by kernel_rfl) (i_of E (r_v E (i := 3) (by kernel_rfl))) (fun _ E' hfE' => p_nm E' (by kernel_rfl)) (fun _ E' => .nil) (fun _ E' => r_nwLc E' (lc_ok E' (rI := true) (own := [("_law_each", 12)]) (p := .nm 12) rfl (by kernel_rfl) (by kernel_rfl) (i_of E' (r_v E' (i := 3) (by kernel_rfl))) (fun _ E'' hfE'' => p_nm E'' (by kernel_rfl)) (fun _ E'' => .nil) (fun _ E'' => r_k E'' (by rfl))))))) (s_cons B (s_for B rfl (i_rng1 E (by kernel_rfl) (by kernel_rfl) rfl (r_op E (op := .add) rfl (r_v E (i := 4) (by kernel_rfl)) (r_k E (by rfl)))) (p_nmB B (by kernel_rfl)) (s_cons B (s_tg B rfl (.inl rfl) rfl (r_op E (op := .fdiv) rfl (r_op E (op := .mul) rfl (r_op E (op := .mul) rfl (r_v E (i := 1) (by kernel_rfl)) (r_ix E rfl (r_v E (i := 3) (by kernel_rfl)) (r_v E (i := 6) (by kernel_rfl)))) (r_op E (op := .sub) rfl (r_ix E rfl (r_v E (i := 3) (by kernel_rfl)) (r_v E (i := 6) (by kernel_rfl))) (r_k E (by rfl)))) (r_k E (by rfl))) (t_sub B rfl (r_ix E rfl (r_v E (i := 5) (by kernel_rfl)) (r_v E (i := 6) (by kernel_rfl))) (r_v E (i := 6) (by kernel_rfl)))) (s_cons B (s_for B rfl (i_rng1 E (by kernel_rfl) (by kernel_rfl) rfl (r_v E (i := 6) (by kernel_rfl))) (p_nmB B (by kernel_rfl)) (s_cons B (s_nm B (i := 10) (by kernel_rfl) rfl (r_op E (op := .mul) rfl (r_op E (op := .mul) rfl (r_v E (i := 1) (by kernel_rfl)) (r_ix E rfl (r_v E (i := 3) (by kernel_rfl)) (r_v E (i := 6) (by kernel_rfl)))) (r_ix E rfl (r_v E (i := 3) (by kernel_rfl)) (r_v E (i := 8) (by kernel_rfl))))) (s_cons B (s_nm B (i := 11) (by kernel_rfl) rfl (r_call E 26 at_26 rfl (by kernel_rfl) (by kernel_rfl) rfl (.cons rfl (r_v E (i := 0) (by kernel_rfl)) (.cons rfl (r_v E (i := 10) (by kernel_rfl)) .nil)))) (s_cons B (s_if B (r_cmp E (op := .eq) rfl rfl (r_v E (i := 6) (by kernel_rfl)) (r_v E (i := 4) (by kernel_rfl))) (s_cons B (s_nm B (i := 13) (by kernel_rfl) rfl (r_op E (op := .mod) rfl (r_bi E .int rfl (by kernel_rfl) (by kernel_rfl) rfl (.cons rfl (r_op E (op := .sub) rfl (r_k E (by rfl)) (r_bi E .sum rfl (by kernel_rfl) (by kernel_rfl) rfl (.cons rfl (r_ix E rfl (r_v E (i := 5) (by kernel_rfl)) (r_v E (i := 8) (by kernel_rfl))) .nil))) .nil)) (r_ix E rfl (r_v E (i := 3) (by kernel_rfl)) (r_v E (i := 8) (by kernel_rfl))))) (s_cons B (s_nm B (i := 11) (by kernel_rfl) rfl (r_op E (op := .sub) rfl (r_op E (op := .sub) rfl (r_v E (i := 10) (by kernel_rfl)) (r_v E (i := 13) (by kernel_rfl))) (r_op E (op := .mul) rfl (r_ix E rfl (r_v E (i := 3) (by kernel_rfl)) (r_v E (i := 8) (by kernel_rfl))) (r_call E 22 at_22 rfl (by kernel_rfl) (by kernel_rfl) rfl (.cons rfl (r_v E (i := 0) (by kernel_rfl)) (.cons rfl (r_v E (i := 1) (by kernel_rfl)) .nil)))))) (s_nil B))) (s_nil B)) (s_cons B (s_asgn B (by kernel_rfl) (by kernel_rfl) rfl (.cons rfl (r_v E (i := 11) (by kernel_rfl)) (.cons rfl (r_op E (op := .sub) rfl (r_v E (i := 10) (by kernel_rfl)) (r_v E (i := 11) (by kernel_rfl))) .nil)) (.cons rfl (t_sub B rfl (r_ix E rfl (r_v E (i := 5) (by kernel_rfl)) (r_v E (i := 6) (by kernel_rfl))) (r_v E (i := 8) (by kernel_rfl))) (.cons rfl (t_sub B rfl (r_ix E rfl (r_v E (i := 5) (by kernel_rfl)) (r_v E (i := 8) (by kernel_rfl))) (r_v E (i := 6) (by kernel_rfl))) .nil))) (s_nil B)))))) (s_nil B)))) (s_cons B (s_nm B (i := 7) (by kernel_rfl) rfl (r_call E 23 at_23 rfl (by kernel_rfl) (by kernel_rfl) rfl (.cons rfl (r_v E (i := 0) (by kernel_rfl)) (.cons rfl (r_op E (op := .add) rfl (r_v E (i := 4) (by kernel_rfl)) (r_k E (by rfl))) .nil)))) (s_cons B (s_ret B rfl (r_lc E (lc_ok E (rI := true) (own := [("_law_k", 6)]) (p := .nm 6) rfl (by kernel_rfl) (by kernel_rfl) (i_of E (r_call E 24 at_24 rfl (by kernel_rfl) (by kernel_rfl) rfl (.cons rfl (r_v E (i := 0) (by kernel_rfl)) (.cons rfl (r_op E (op := .add) rfl (r_v E (i := 4) (by kernel_rfl)) (r_k E (by rfl))) .nil)))) (fun _ E' hfE' => p_nm E' (by kernel_rfl)) (fun _ E' => .nil) (fun _ E' => r_tup E' (by kernel_rfl) (.cons rfl (r_ix E' rfl (r_v E' (i := 7) (by kernel_rfl)) (r_v E' (i := 6) (by kernel_rfl))) (.cons rfl (r_ix E' rfl (r_v E' (i := 3) (by kernel_rfl)) (r_v E' (i := 6) (by kernel_rfl))) (.cons rfl (r_op E' (op := .fdiv) rfl (r_bi E' .sum rfl (by kernel_rfl) (by kernel_rfl) rfl (.cons rfl (r_ix E' rfl (r_v E' (i := 5) (by kernel_rfl)) (r_v E' (i := 6) (by kernel_rfl))) .nil)) (r_ix E' rfl (r_v E' (i := 3) (by kernel_rfl)) (r_v E' (i := 6) (by kernel_rfl)))) .nil))))))) (s_nil B)))))), fun h => Bool.noConfusion (show false = true from h)⟩
theorem ok_28 : DfOk pt d28 := ⟨⟨rfl, rfl, rfl, by decide +kernel, rfl, by decide +kernel, by decide +kernel⟩, fun _ _ _ _ _ _ us hl => match us, hl with | [_, _, _], _ => rfl, fun _ Y Γ k X W Ow0 fr hfr F CS M Z => by
  obtain rfl : fr = false := not_fr rfl hfr
  have E : En pt Y Γ k d28.N X W d28.scope := ⟨F, M⟩
  have B : Eb pt Y Γ k d28.N X W d28.scope Ow0 false := ⟨E, CS⟩
  show JSs X B.w d28.body (m_tower Γ (Γ.call 22) (Γ.call 25) (Γ.call 23) (Γ.call 24)); delta m_tower
  exact s_cons B (s_parN B (ts := [(false, 5), (false, 6), (true, 7)]) (by kernel_rfl) (by kernel_rfl) (.cons (B.nml (i := 5) (by kernel_rfl)) (.cons (B.nml (i := 6) (by kernel_rfl)) (.cons (B.nml (i := 7) (by kernel_rfl)) .nil))) (.val rfl (r_lc E (lc_ok E (rI := true) (own := [("_law_k", 8)]) (p := .nm 8) rfl (by kernel_rfl) (by kernel_rfl) (i_rng1 E (by kernel_rfl) (by kernel_rfl) rfl (r_op E (op := .add) rfl (r_k E (by rfl)) (r_call E 22 at_22 rfl (by kernel_rfl) (by kernel_rfl) rfl (.cons rfl (r_v E (i := 0) (by kernel_rfl)) (.cons rfl (r_v E (i := 2) (by kernel_rfl)) .nil))))) (fun _ E' hfE' => p_nm E' (by kernel_rfl)) (fun _ E' => .nil) (fun _ E' => r_call E' 25 at_25 rfl (by kernel_rfl) (by kernel_rfl) rfl (.cons rfl (r_v E' (i := 0) (by kernel_rfl)) .nil)))) (.val rfl (r_k E (by rfl)) (.own rfl (f_lst E (by kernel_rfl) .nil) lst_sh .nil)))) (s_cons B (s_for B rfl (i_of E (r_v E (i := 5) (by kernel_rfl))) (p_nmB B (by kernel_rfl)) (s_cons B (s_app B (i := 7) (by kernel_rfl) rfl rfl (r_tup E (by kernel_rfl) (.cons rfl (r_v E (i := 3) (by kernel_rfl)) (.cons rfl (r_op E (op := .add) rfl (r_op E (op := .mul) rfl (r_v E (i := 1) (by kernel_rfl)) (r_v E (i := 6) (by kernel_rfl))) (r_op E (op := .fdiv) rfl (r_op E (op := .mul) rfl (r_v E (i := 1) (by kernel_rfl)) (r_op E (op := .sub) rfl (r_v E (i := 3) (by kernel_rfl)) (r_k E (by rfl)))) (r_k E (by rfl)))) .nil)))) (s_cons B (s_nm B (i := 6) (by kernel_rfl) rfl (r_op E (op := .add) rfl (r_v E (i := 6) (by kernel_rfl)) (r_v E (i := 3) (by kernel_rfl)))) (s_nil B)))) (s_cons B (s_nm B (i := 4) (by kernel_rfl) rfl (r_call E 23 at_23 rfl (by kernel_rfl) (by kernel_rfl) rfl (.cons rfl (r_v E (i := 0) (by kernel_rfl)) (.cons rfl (r_bi E .len rfl (by kernel_rfl) (by kernel_rfl) rfl (.cons rfl (r_pk E (i := 7) (by kernel_rfl)) .nil)) .nil)))) (s_cons B (s_ret B rfl (r_lc E (lc_ok E (rI := true) (own := [("_law_k", 8)]) (p := .nm 8) rfl (by kernel_rfl) (by kernel_rfl) (i_of E (r_call E 24 at_24 rfl (by kernel_rfl) (by kernel_rfl) rfl (.cons rfl (r_v E (i := 0) (by kernel_rfl)) (.cons rfl (r_bi E .len rfl (by kernel_rfl) (by kernel_rfl) rfl (.cons rfl (r_pk E (i := 7) (by kernel_rfl)) .nil)) .nil)))) (fun _ E' hfE' => p_nm E' (by kernel_rfl)) (fun _ E' => .nil) (fun _ E' => r_tup E' (by kernel_rfl) (.cons rfl (r_ix E' rfl (r_v E' (i := 4) (by kernel_rfl)) (r_v E' (i := 8) (by kernel_rfl))) (.cons rfl (r_ix E' rfl (r_ix E' rfl (r_pk E' (i := 7) (by kernel_rfl)) (r_v E' (i := 8) (by kernel_rfl))) (r_k E' (by rfl))) (.cons rfl (r_ix E' rfl (r_ix E' rfl (r_pk E' (i := 7) (by kernel_rfl)) (r_v E' (i := 8) (by kernel_rfl))) (r_k E' (by rfl))) .nil))))))) (s_nil B)))), fun h => Bool.noConfusion (show false = true from h)⟩
theorem ok_29 : DfOk pt d29 := ⟨⟨rfl, rfl, rfl, by decide +kernel, rfl, by decide +kernel, by decide +kernel⟩, fun _ _ _ _ _ _ us hl => match us, hl with | [_, _], _ => rfl, fun _ Y Γ k X W Ow0 fr hfr F CS M Z => by
  obtain rfl : fr = false := not_fr rfl hfr
  have E : En pt Y Γ k d29.N X W d29.scope := ⟨F, M⟩
  have B : Eb pt Y Γ k d29.N X W d29.scope Ow0 false := ⟨E, CS⟩
  show JSs X B.w d29.body (m_bent Γ (Γ.call 22)); delta m_bent
  exact s_cons B (s_own B (i := 2) (by kernel_rfl) rfl (f_list E (by kernel_rfl) (by kernel_rfl) rfl (.cons rfl (r_v E (i := 1) (by kernel_rfl)) .nil))) (s_cons B (s_for B rfl (i_rng1 E (by kernel_rfl) (by kernel_rfl) rfl (r_call E 22 at_22 rfl (by kernel_rfl) (by kernel_rfl) rfl (.cons rfl (r_v E (i := 0) (by kernel_rfl)) (.cons rfl (r_k E (by rfl)) .nil)))) (p_nmB B (by kernel_rfl)) (s_cons B (s_par2 B (i := 4) (j := 5) (by kernel_rfl) (by kernel_rfl) (by decide) (by kernel_rfl) (by kernel_rfl) (by kernel_rfl) (.val rfl (r_call E 22 at_22 rfl (by kernel_rfl) (by kernel_rfl) rfl (.cons rfl (r_v E (i := 0) (by kernel_rfl)) (.cons rfl (r_bi E .len rfl (by kernel_rfl) (by kernel_rfl) rfl (.cons rfl (r_pk E (i := 2) (by kernel_rfl)) .nil)) .nil))) (.val rfl (r_call E 22 at_22 rfl (by kernel_rfl) (by kernel_rfl) rfl (.cons rfl (r_v E (i := 0) (by kernel_rfl)) (.cons rfl (r_k E (by rfl)) .nil))) .nil))) (s_cons B (s_unp B rfl rfl (r_ix E rfl (r_pk E (i := 2) (by kernel_rfl)) (r_v E (i := 4) (by kernel_rfl))) (.cons rfl (t_nm B (i := 6) (by kernel_rfl)) (.cons rfl (t_nm B (i := 7) (by kernel_rfl)) (.cons rfl (t_nm B (i := 8) (by kernel_rfl)) .nil)))) (s_cons B (s_if B (r_cmp E (op := .lt) rfl rfl (r_v E (i := 5) (by kernel_rfl)) (r_k E (by rfl))) (s_cons B (s_nm B (i := 8) (by kernel_rfl) rfl (r_bi E .max rfl (by kernel_rfl) (by kernel_rfl) rfl (.cons rfl (r_k E (by rfl)) (.cons rfl (r_op E (op := .add) rfl (r_v E (i := 8) (by kernel_rfl)) (r_ix E rfl (r_lst E (by kernel_rfl) (.cons rfl (r_k E (by rfl)) (.cons rfl (r_op E (op := .sub) rfl (r_k E (by rfl)) (r_k E (by rfl))) (.cons rfl (r_op E (op := .sub) rfl (r_k E (by rfl)) (r_k E (by rfl))) .nil)))) (r_v E (i := 5) (by kernel_rfl)))) .nil)))) (s_nil B)) (s_cons B (s_if B (r_cmp E (op := .eq) rfl rfl (r_v E (i := 5) (by kernel_rfl)) (r_k E (by rfl))) (s_cons B (s_nm B (i := 8) (by kernel_rfl) rfl (r_op E (op := .fdiv) rfl (r_op E (op := .mul) rfl (r_v E (i := 8) (by kernel_rfl)) (r_call E 22 at_22 rfl (by kernel_rfl) (by kernel_rfl) rfl (.cons rfl (r_v E (i := 0) (by kernel_rfl)) (.cons rfl (r_k E (by rfl)) .nil)))) (r_k E (by rfl)))) (s_nil B)) (s_cons B (s_nm B (i := 8) (by kernel_rfl) rfl (r_ix E rfl (r_ix E rfl (r_pk E (i := 2) (by kernel_rfl)) (r_call E 22 at_22 rfl (by kernel_rfl) (by kernel_rfl) rfl (.cons rfl (r_v E (i := 0) (by kernel_rfl)) (.cons rfl (r_bi E .len rfl (by kernel_rfl) (by kernel_rfl) rfl (.cons rfl (r_pk E (i := 2) (by kernel_rfl)) .nil)) .nil)))) (r_k E (by rfl)))) (s_nil B))) (s_nil B))) (s_cons B (s_tg B rfl (.inl rfl) rfl (r_tup E (by kernel_rfl) (.cons rfl (r_v E (i := 6) (by kernel_rfl)) (.cons rfl (r_v E (i := 7) (by kernel_rfl)) (.cons rfl (r_bi E .min rfl (by kernel_rfl) (by kernel_rfl) rfl (.cons rfl (r_op E (op := .pow) rfl (r_k E (by rfl)) (r_k E (by rfl))) (.cons rfl (r_v E (i := 8) (by kernel_rfl)) .nil))) .nil)))) (t_osub B (i := 2) (by kernel_rfl) rfl (r_v E (i := 4) (by kernel_rfl)))) (s_nil B)))))) (s_frzs B 2 (s_cons B (s_ret B rfl (r_v E (i := 2) (by kernel_rfl))) (s_nil B)))), fun h => Bool.noConfusion (show false = true from h)⟩
theorem ok_30 : DfOk pt d30 := ⟨⟨rfl, rfl, rfl, by decide +kernel, rfl, by decide +kernel, by decide +kernel⟩, fun _ _ _ _ _ _ us hl => match us, hl with | [_, _, _], _ => rfl, fun _ Y Γ k X W Ow0 fr hfr F CS M Z => by
  obtain rfl : fr = false := not_fr rfl hfr
  have E : En pt Y Γ k d30.N X W d30.scope := ⟨F, M⟩
  have B : Eb pt Y Γ k d30.N X W d30.scope Ow0 false := ⟨E, CS⟩
  show JSs X B.w d30.body (m_great Γ (Γ.call 22) (Γ.call 27) (Γ.call 29) (Γ.call 28)); delta m_great
  exact s_cons B (s_nm B (i := 3) (by kernel_rfl) rfl (r_call E 22 at_22 rfl (by kernel_rfl) (by kernel_rfl) rfl (.cons rfl (r_v E (i := 0) (by kernel_rfl)) (.cons rfl (r_k E (by rfl)) .nil)))) (s_cons B (s_if B (r_cmp E (op := .eq) rfl rfl (r_v E (i := 3) (by kernel_rfl)) (r_k E (by rfl))) (s_cons B (s_ret B rfl (r_call E 27 at_27 rfl (by kernel_rfl) (by kernel_rfl) rfl (.cons rfl (r_v E (i := 0) (by kernel_rfl)) (.cons rfl (r_v E (i := 1) (by kernel_rfl)) (.cons rfl (r_op E (op := .sub) rfl (r_v E (i := 2) (by kernel_rfl)) (r_k E (by rfl))) .nil))))) (s_nil B)) (s_nil B)) (s_cons B (s_ret B rfl (r_call E 29 at_29 rfl (by kernel_rfl) (by kernel_rfl) rfl (.cons rfl (r_v E (i := 0) (by kernel_rfl)) (.cons rfl (r_ifeS E (r_cmp E (op := .eq) rfl rfl (r_v E (i := 3) (by kernel_rfl)) (r_k E (by rfl))) (r_call E 27 at_27 rfl (by kernel_rfl) (by kernel_rfl) rfl (.cons rfl (r_v E (i := 0) (by kernel_rfl)) (.cons rfl (r_v E (i := 1) (by kernel_rfl)) (.cons rfl (r_op E (op := .sub) rfl (r_v E (i := 2) (by kernel_rfl)) (r_k E (by rfl))) .nil)))) (r_call E 28 at_28 rfl (by kernel_rfl) (by kernel_rfl) rfl (.cons rfl (r_v E (i := 0) (by kernel_rfl)) (.cons rfl (r_v E (i := 1) (by kernel_rfl)) (.cons rfl (r_v E (i := 2) (by kernel_rfl)) .nil))))) .nil)))) (s_nil B))), fun h => Bool.noConfusion (show false = true from h)⟩
theorem ok_31 : DfOk pt d31 := ⟨⟨rfl, rfl, rfl, by decide +kernel, rfl, by decide +kernel, by decide +kernel⟩, fun _ _ _ _ _ _ us hl => match us, hl with | [_, _], _ => rfl, fun _ Y Γ k X W Ow0 fr hfr F CS M Z => by
  obtain rfl : fr = false := not_fr rfl hfr
  have E : En pt Y Γ k d31.N X W d31.scope := ⟨F, M⟩
  have B : Eb pt Y Γ k d31.N X W d31.scope Ow0 false := ⟨E, CS⟩
  show JSs X B.w d31.body (m_own_points Γ); delta m_own_points
  exact s_cons B (s_ret B rfl (r_op E (op := .fdiv) rfl (r_op E (op := .mul) rfl (r_op E (op := .mul) rfl (r_v E (i := 0) (by kernel_rfl)) (r_v E (i := 1) (by kernel_rfl))) (r_op E (op := .sub) rfl (r_v E (i := 1) (by kernel_rfl)) (r_k E (by rfl)))) (r_k E (by rfl)))) (s_nil B), fun h => Bool.noConfusion (show false = true from h)⟩
theorem ok_32 : DfOk pt d32 := ⟨⟨rfl, rfl, rfl, by decide +kernel, rfl, by decide +kernel, by decide +kernel⟩, fun _ _ _ _ _ _ us hl => match us, hl with | [_, _, _], _ => rfl, fun _ Y Γ k X W Ow0 fr hfr F CS M Z => by
  obtain rfl : fr = false := not_fr rfl hfr
  have E : En pt Y Γ k d32.N X W d32.scope := ⟨F, M⟩
  have B : Eb pt Y Γ k d32.N X W d32.scope Ow0 false := ⟨E, CS⟩
  show JSs X B.w d32.body (m_within Γ); delta m_within
  exact s_cons B (s_ret B rfl (r_and E rfl (.cons rfl (r_isi E .int 0 (by rfl) rfl (by kernel_rfl) (by kernel_rfl) (by kernel_rfl) (by kernel_rfl) rfl (r_v E (i := 0) (by kernel_rfl))) (.cons rfl (r_no E (r_isi E .bool 1 (by rfl) rfl (by kernel_rfl) (by kernel_rfl) (by kernel_rfl) (by kernel_rfl) rfl (r_v E (i := 0) (by kernel_rfl)))) (.cons rfl (r_chain E (op := .le) (op2 := .le) rfl rfl rfl (r_v E (i := 1) (by kernel_rfl)) (r_v E (i := 0) (by kernel_rfl)) (r_v E (i := 2) (by kernel_rfl))) .nil))))) (s_nil B), fun h => Bool.noConfusion (show false = true from h)⟩
theorem ok_33 : DfOk pt d33 := ⟨⟨rfl, rfl, rfl, by decide +kernel, rfl, by decide +kernel, by decide +kernel⟩, fun _ _ _ _ _ _ us hl => match us, hl with | [_, _], _ => rfl, fun _ Y Γ k X W Ow0 fr hfr F CS M Z => by
  obtain rfl : fr = false := not_fr rfl hfr
  have E : En pt Y Γ k d33.N X W d33.scope := ⟨F, M⟩
  have B : Eb pt Y Γ k d33.N X W d33.scope Ow0 false := ⟨E, CS⟩
  show JSs X B.w d33.body (m_loosened Γ (Γ.call 22)); delta m_loosened
  exact s_cons B (s_own B (i := 2) (by kernel_rfl) rfl (f_lst E (by kernel_rfl) .nil)) (s_cons B (s_for B rfl (i_of E (r_v E (i := 1) (by kernel_rfl))) (p_tp E rfl rfl (pts_cons rfl (p_nmB B (by kernel_rfl)) (pts_cons rfl (p_nmB B (by kernel_rfl)) (pts_cons rfl (p_nmB B (by kernel_rfl)) pts_nil)))) (s_cons B (s_par3 B (i := 6) (j := 7) (l := 8) (by kernel_rfl) (by kernel_rfl) (by kernel_rfl) (by decide) (by decide) (by decide) (by kernel_rfl) (by kernel_rfl) (by kernel_rfl) (by kernel_rfl) (.val rfl (r_call E 22 at_22 rfl (by kernel_rfl) (by kernel_rfl) rfl (.cons rfl (r_v E (i := 0) (by kernel_rfl)) (.cons rfl (r_k E (by rfl)) .nil))) (.val rfl (r_call E 22 at_22 rfl (by kernel_rfl) (by kernel_rfl) rfl (.cons rfl (r_v E (i := 0) (by kernel_rfl)) (.cons rfl (r_op E (op := .pow) rfl (r_k E (by rfl)) (r_k E (by rfl))) .nil))) (.val rfl (r_call E 22 at_22 rfl (by kernel_rfl) (by kernel_rfl) rfl (.cons rfl (r_v E (i := 0) (by kernel_rfl)) (.cons rfl (r_k E (by rfl)) .nil))) .nil)))) (s_cons B (s_par2 B (i := 9) (j := 10) (by kernel_rfl) (by kernel_rfl) (by decide) (by kernel_rfl) (by kernel_rfl) (by kernel_rfl) (.val rfl (r_v E (i := 5) (by kernel_rfl)) (.val rfl (r_v E (i := 5) (by kernel_rfl)) .nil))) (s_cons B (s_if B (r_cmp E (op := .eq) rfl rfl (r_v E (i := 6) (by kernel_rfl)) (r_k E (by rfl))) (s_cons B (s_par2 B (i := 9) (j := 10) (by kernel_rfl) (by kernel_rfl) (by decide) (by kernel_rfl) (by kernel_rfl) (by kernel_rfl) (.val rfl (r_bi E .max rfl (by kernel_rfl) (by kernel_rfl) rfl (.cons rfl (r_k E (by rfl)) (.cons rfl (r_op E (op := .sub) rfl (r_v E (i := 5) (by kernel_rfl)) (r_v E (i := 7) (by kernel_rfl))) .nil))) (.val rfl (r_op E (op := .add) rfl (r_v E (i := 5) (by kernel_rfl)) (r_v E (i := 8) (by kernel_rfl))) .nil))) (s_nil B)) (s_cons B (s_if B (r_cmp E (op := .eq) rfl rfl (r_v E (i := 6) (by kernel_rfl)) (r_k E (by rfl))) (s_cons B (s_par2 B (i := 9) (j := 10) (by kernel_rfl) (by kernel_rfl) (by decide) (by kernel_rfl) (by kernel_rfl) (by kernel_rfl) (.val rfl (r_k E (by rfl)) (.val rfl (r_v E (i := 5) (by kernel_rfl)) .nil))) (s_nil B)) (s_cons B (s_if B (r_cmp E (op := .eq) rfl rfl (r_v E (i := 6) (by kernel_rfl)) (r_k E (by rfl))) (s_cons B (s_nm B (i := 10) (by kernel_rfl) rfl (r_op E (op := .pow) rfl (r_k E (by rfl)) (r_k E (by rfl)))) (s_nil B)) (s_cons B (s_if B (r_cmp E (op := .eq) rfl rfl (r_v E (i := 6) (by kernel_rfl)) (r_k E (by rfl))) (s_cons B (s_par2 B (i := 9) (j := 10) (by kernel_rfl) (by kernel_rfl) (by decide) (by kernel_rfl) (by kernel_rfl) (by kernel_rfl) (.val rfl (r_op E (op := .add) rfl (r_v E (i := 5) (by kernel_rfl)) (r_v E (i := 8) (by kernel_rfl))) (.val rfl (r_op E (op := .add) rfl (r_v E (i := 5) (by kernel_rfl)) (r_k E (by rfl))) .nil))) (s_nil B)) (s_cons B (s_if B (r_cmp E (op := .eq) rfl rfl (r_v E (i := 6) (by kernel_rfl)) (r_k E (by rfl))) (s_cons B (s_par2 B (i := 9) (j := 10) (by kernel_rfl) (by kernel_rfl) (by decide) (by kernel_rfl) (by kernel_rfl) (by kernel_rfl) (.val rfl (r_op E (op := .fdiv) rfl (r_v E (i := 5) (by kernel_rfl)) (r_op E (op := .add) rfl (r_k E (by rfl)) (r_v E (i := 8) (by kernel_rfl)))) (.val rfl (r_op E (op := .add) rfl (r_op E (op := .mul) rfl (r_v E (i := 5) (by kernel_rfl)) (r_op E (op := .add) rfl (r_k E (by rfl)) (r_v E (i := 8) (by kernel_rfl)))) (r_v E (i := 7) (by kernel_rfl))) .nil))) (s_nil B)) (s_cons B (s_if B (r_cmp E (op := .eq) rfl rfl (r_v E (i := 6) (by kernel_rfl)) (r_k E (by rfl))) (s_cons B (s_par2 B (i := 9) (j := 10) (by kernel_rfl) (by kernel_rfl) (by decide) (by kernel_rfl) (by kernel_rfl) (by kernel_rfl) (.val rfl (r_bi E .max rfl (by kernel_rfl) (by kernel_rfl) rfl (.cons rfl (r_k E (by rfl)) (.cons rfl (r_op E (op := .sub) rfl (r_v E (i := 5) (by kernel_rfl)) (r_v E (i := 8) (by kernel_rfl))) .nil))) (.val rfl (r_v E (i := 5) (by kernel_rfl)) .nil))) (s_nil B)) (s_nil B)) (s_nil B))) (s_nil B))) (s_nil B))) (s_nil B))) (s_nil B))) (s_cons B (s_app B (i := 2) (by kernel_rfl) rfl rfl (r_tup E (by kernel_rfl) (.cons rfl (r_v E (i := 3) (by kernel_rfl)) (.cons rfl (r_v E (i := 4) (by kernel_rfl)) (.cons rfl (r_v E (i := 9) (by kernel_rfl)) (.cons rfl (r_v E (i := 10) (by kernel_rfl)) .nil)))))) (s_nil B)))))) (s_frzs B 2 (s_cons B (s_ret B rfl (r_v E (i := 2) (by kernel_rfl))) (s_nil B)))), fun h => Bool.noConfusion (show false = true from h)⟩
theorem ok_34 : DfOk pt d34 := ⟨⟨rfl, rfl, rfl, by decide +kernel, rfl, by decide +kernel, by decide +kernel⟩, fun _ _ _ _ _ _ us hl => match us, hl with | [_, _], _ => rfl, fun _ Y Γ k X W Ow0 fr hfr F CS M Z => by
  obtain rfl : fr = false := not_fr rfl hfr
  have E : En pt Y Γ k d34.N X W d34.scope := ⟨F, M⟩
  have B : Eb pt Y Γ k d34.N X W d34.scope Ow0 false := ⟨E, CS⟩
  show JSs X B.w d34.body (m_shaped Γ (Γ.call 32)); delta m_shaped
  exact s_cons B (s_parN B (ts := [(false, 3), (true, 4), (true, 5), (false, 6)]) (by kernel_rfl) (by kernel_rfl) (.cons (B.nml (i := 3) (by kernel_rfl)) (.cons (B.nml (i := 4) (by kernel_rfl)) (.cons (B.nml (i := 5) (by kernel_rfl)) (.cons (B.nml (i := 6) (by kernel_rfl)) .nil)))) (.val rfl (r_lc E (lc_ok E (rI := true) (own := [("_law_row", 8)]) (p := .nm 8) rfl (by kernel_rfl) (by kernel_rfl) (i_of E (r_v E (i := 0) (by kernel_rfl))) (fun _ E' hfE' => p_nm E' (by kernel_rfl)) (fun _ E' => .nil) (fun _ E' => r_ix E' rfl (r_v E' (i := 8) (by kernel_rfl)) (r_k E' (by rfl))))) (.own rfl (f_lc E (lc_ok E (rI := true) (own := [("_law_row", 8)]) (p := .nm 8) rfl (by kernel_rfl) (by kernel_rfl) (i_of E (r_v E (i := 0) (by kernel_rfl))) (fun _ E' hfE' => p_nm E' (by kernel_rfl)) (fun _ E' => .nil) (fun _ E' => r_k E' (by rfl)))) lc_sh (.own rfl (f_lst E (by kernel_rfl) .nil) lst_sh (.val rfl (r_dic E) .nil))))) (s_cons B (s_if B (r_no E (r_isi E .tuple 3 (by rfl) rfl (by kernel_rfl) (by kernel_rfl) (by kernel_rfl) (by kernel_rfl) rfl (r_v E (i := 1) (by kernel_rfl)))) (s_cons B (s_ret B rfl (r_k E (by rfl))) (s_nil B)) (s_nil B)) (s_cons B (s_for B rfl (i_of E (r_v E (i := 1) (by kernel_rfl))) (p_nmB B (by kernel_rfl)) (s_cons B (s_if B (r_or E rfl (.cons rfl (r_no E (r_isi E .tuple 3 (by rfl) rfl (by kernel_rfl) (by kernel_rfl) (by kernel_rfl) (by kernel_rfl) rfl (r_v E (i := 2) (by kernel_rfl)))) (.cons rfl (r_cmp E (op := .ne) rfl rfl (r_bi E .len rfl (by kernel_rfl) (by kernel_rfl) rfl (.cons rfl (r_v E (i := 2) (by kernel_rfl)) .nil)) (r_k E (by rfl))) (.cons rfl (r_cmp E (op := .nmem) rfl rfl (r_ix E rfl (r_v E (i := 2) (by kernel_rfl)) (r_k E (by rfl))) (r_v E (i := 3) (by kernel_rfl))) .nil)))) (s_cons B (s_ret B rfl (r_k E (by rfl))) (s_nil B)) (s_nil B)) (s_cons B (s_nm B (i := 7) (by kernel_rfl) rfl (r_index E rfl rfl rfl (r_v E (i := 3) (by kernel_rfl)) (r_ix E rfl (r_v E (i := 2) (by kernel_rfl)) (r_k E (by rfl))))) (s_cons B (s_if B (r_or E rfl (.cons rfl (r_no E (r_call E 32 at_32 rfl (by kernel_rfl) (by kernel_rfl) rfl (.cons rfl (r_ix E rfl (r_v E (i := 2) (by kernel_rfl)) (r_k E (by rfl))) (.cons rfl (r_k E (by rfl)) (.cons rfl (r_ix E rfl (r_ix E rfl (r_v E (i := 0) (by kernel_rfl)) (r_v E (i := 7) (by kernel_rfl))) (r_k E (by rfl))) .nil))))) (.cons rfl (r_no E (r_call E 32 at_32 rfl (by kernel_rfl) (by kernel_rfl) rfl (.cons rfl (r_ix E rfl (r_v E (i := 2) (by kernel_rfl)) (r_k E (by rfl))) (.cons rfl (r_ix E rfl (r_ix E rfl (r_v E (i := 0) (by kernel_rfl)) (r_v E (i := 7) (by kernel_rfl))) (r_k E (by rfl))) (.cons rfl (r_ix E rfl (r_ix E rfl (r_v E (i := 0) (by kernel_rfl)) (r_v E (i := 7) (by kernel_rfl))) (r_k E (by rfl))) .nil))))) .nil))) (s_cons B (s_ret B rfl (r_k E (by rfl))) (s_nil B)) (s_nil B)) (s_cons B (s_if B (r_dhas E rfl (kk_tup E (by kernel_rfl) (.cons rfl (r_v E (i := 7) (by kernel_rfl)) (.cons rfl (r_ix E rfl (r_v E (i := 2) (by kernel_rfl)) (r_k E (by rfl))) .nil))) (r_v E (i := 6) (by kernel_rfl))) (s_cons B (s_ret B rfl (r_k E (by rfl))) (s_nil B)) (s_nil B)) (s_cons B (s_dput B (r_v E (i := 6) (by kernel_rfl)) (kk_tup E (by kernel_rfl) (.cons rfl (r_v E (i := 7) (by kernel_rfl)) (.cons rfl (r_ix E rfl (r_v E (i := 2) (by kernel_rfl)) (r_k E (by rfl))) .nil)))) (s_cons B (s_tg B rfl (.inl rfl) rfl (r_op E (op := .add) rfl (r_ix E rfl (r_pk E (i := 4) (by kernel_rfl)) (r_v E (i := 7) (by kernel_rfl))) (r_ix E rfl (r_v E (i := 2) (by kernel_rfl)) (r_k E (by rfl)))) (t_osub B (i := 4) (by kernel_rfl) rfl (r_v E (i := 7) (by kernel_rfl)))) (s_cons B (s_app B (i := 5) (by kernel_rfl) rfl rfl (r_tup E (by kernel_rfl) (.cons rfl (r_v E (i := 7) (by kernel_rfl)) (.cons rfl (r_ix E rfl (r_v E (i := 2) (by kernel_rfl)) (r_k E (by rfl))) (.cons rfl (r_ix E rfl (r_v E (i := 2) (by kernel_rfl)) (r_k E (by rfl))) .nil))))) (s_nil B))))))))) (s_frzs B 5 (s_cons B (s_ret B rfl (r_ifeS E (r_cmp E (op := .eq) rfl rfl (r_pk E (i := 4) (by kernel_rfl)) (r_lc E (lc_ok E (rI := true) (own := [("_law_row", 8)]) (p := .nm 8) rfl (by kernel_rfl) (by kernel_rfl) (i_of E (r_v E (i := 0) (by kernel_rfl))) (fun _ E' hfE' => p_nm E' (by kernel_rfl)) (fun _ E' => .nil) (fun _ E' => r_ix E' rfl (r_v E' (i := 8) (by kernel_rfl)) (r_k E' (by rfl)))))) (r_v E (i := 5) (by kernel_rfl)) (r_k E (by rfl)))) (s_nil B))))), fun h => Bool.noConfusion (show false = true from h)⟩
theorem ok_35 : DfOk pt d35 := ⟨⟨rfl, rfl, rfl, by decide +kernel, rfl, by decide +kernel, by decide +kernel⟩, fun _ _ _ _ _ _ us hl => match us, hl with | [_, _], _ => rfl, fun _ Y Γ k X W Ow0 fr hfr F CS M Z => by
  obtain rfl : fr = false := not_fr rfl hfr
  have E : En pt Y Γ k d35.N X W d35.scope := ⟨F, M⟩
  have B : Eb pt Y Γ k d35.N X W d35.scope Ow0 false := ⟨E, CS⟩
  show JSs X B.w d35.body (m_enough Γ (Γ.call 31)); delta m_enough
  exact s_cons B (s_parN B (ts := [(false, 2), (false, 3)]) (by kernel_rfl) (by kernel_rfl) (.cons (B.nml (i := 2) (by kernel_rfl)) (.cons (B.nml (i := 3) (by kernel_rfl)) .nil)) (.val rfl (r_k E (by rfl)) (.val rfl (r_k E (by rfl)) .nil))) (s_cons B (s_for B rfl (i_of E (r_sortK E Z 35 (by decide) rfl (by kernel_rfl) (by kernel_rfl) (by kernel_rfl) (by rfl) (fun _ _ _ _ _ _ => rfl) (lk_ix rfl (lk_p (by kernel_rfl) (by kernel_rfl)) (lk_k)) rfl (r_v E (i := 1) (by kernel_rfl)))) (p_tp E rfl rfl (pts_cons rfl (p_nmB B (by kernel_rfl)) (pts_cons rfl (p_nmB B (by kernel_rfl)) (pts_cons rfl (p_nmB B (by kernel_rfl)) pts_nil)))) (s_cons B (s_par2 B (i := 2) (j := 3) (by kernel_rfl) (by kernel_rfl) (by decide) (by kernel_rfl) (by kernel_rfl) (by kernel_rfl) (.val rfl (r_op E (op := .add) rfl (r_v E (i := 2) (by kernel_rfl)) (r_v E (i := 5) (by kernel_rfl))) (.val rfl (r_op E (op := .add) rfl (r_v E (i := 3) (by kernel_rfl)) (r_op E (op := .mul) rfl (r_v E (i := 5) (by kernel_rfl)) (r_v E (i := 6) (by kernel_rfl)))) .nil))) (s_cons B (s_if B (r_cmp E (op := .lt) rfl rfl (r_v E (i := 3) (by kernel_rfl)) (r_call E 31 at_31 rfl (by kernel_rfl) (by kernel_rfl) rfl (.cons rfl (r_v E (i := 0) (by kernel_rfl)) (.cons rfl (r_v E (i := 2) (by kernel_rfl)) .nil)))) (s_cons B (s_ret B rfl (r_k E (by rfl))) (s_nil B)) (s_nil B)) (s_nil B)))) (s_cons B (s_ret B rfl (r_cmp E (op := .eq) rfl rfl (r_v E (i := 3) (by kernel_rfl)) (r_call E 31 at_31 rfl (by kernel_rfl) (by kernel_rfl) rfl (.cons rfl (r_v E (i := 0) (by kernel_rfl)) (.cons rfl (r_v E (i := 2) (by kernel_rfl)) .nil))))) (s_nil B))), fun h => Bool.noConfusion (show false = true from h)⟩
theorem ok_36 : DfOk pt d36 := ⟨⟨rfl, rfl, rfl, by decide +kernel, rfl, by decide +kernel, by decide +kernel⟩, fun _ _ _ _ _ _ us hl => match us, hl with | [_, _, _], _ => rfl, fun _ Y Γ k X W Ow0 fr hfr F CS M Z => by
  obtain rfl : fr = false := not_fr rfl hfr
  have E : En pt Y Γ k d36.N X W d36.scope := ⟨F, M⟩
  have B : Eb pt Y Γ k d36.N X W d36.scope Ow0 false := ⟨E, CS⟩
  show JSs X B.w d36.body (m_filling Γ (Γ.call 19) (Γ.call 20) (Γ.call 34) (Γ.call 35)); delta m_filling
  exact s_cons B (s_if B (r_cmp E (op := .ne) rfl rfl (r_repr E (by kernel_rfl) (by kernel_rfl) rfl (.cons rfl (r_call E 19 at_19 rfl (by kernel_rfl) (by kernel_rfl) rfl (.cons rfl (r_v E (i := 0) (by kernel_rfl)) (.cons rfl (r_bi E .tuple rfl (by kernel_rfl) (by kernel_rfl) rfl (.cons rfl (r_v E (i := 1) (by kernel_rfl)) .nil)) .nil))) .nil)) (r_repr E (by kernel_rfl) (by kernel_rfl) rfl (.cons rfl (r_v E (i := 2) (by kernel_rfl)) .nil))) (s_cons B (s_ret B rfl (r_k E (by rfl))) (s_nil B)) (s_nil B)) (s_cons B (s_nm B (i := 3) (by kernel_rfl) rfl (r_call E 20 at_20 rfl (by kernel_rfl) (by kernel_rfl) rfl (.cons rfl (r_v E (i := 0) (by kernel_rfl)) (.cons rfl (r_bi E .tuple rfl (by kernel_rfl) (by kernel_rfl) rfl (.cons rfl (r_v E (i := 1) (by kernel_rfl)) .nil)) .nil)))) (s_cons B (s_if B (r_or E rfl (.cons rfl (r_cmp E (op := .is) rfl rfl (r_v E (i := 3) (by kernel_rfl)) (r_k E (by rfl))) (.cons rfl (r_no E (r_v E (i := 2) (by kernel_rfl))) .nil))) (s_cons B (s_ret B rfl (r_and E rfl (.cons rfl (r_cmp E (op := .is) rfl rfl (r_v E (i := 3) (by kernel_rfl)) (r_k E (by rfl))) (.cons rfl (r_no E (r_v E (i := 2) (by kernel_rfl))) .nil)))) (s_nil B)) (s_nil B)) (s_cons B (s_nm B (i := 4) (by kernel_rfl) rfl (r_call E 34 at_34 rfl (by kernel_rfl) (by kernel_rfl) rfl (.cons rfl (r_v E (i := 1) (by kernel_rfl)) (.cons rfl (r_v E (i := 3) (by kernel_rfl)) .nil)))) (s_cons B (s_ret B rfl (r_and E rfl (.cons rfl (r_cmp E (op := .isnot) rfl rfl (r_v E (i := 4) (by kernel_rfl)) (r_k E (by rfl))) (.cons rfl (r_call E 35 at_35 rfl (by kernel_rfl) (by kernel_rfl) rfl (.cons rfl (r_v E (i := 0) (by kernel_rfl)) (.cons rfl (r_v E (i := 4) (by kernel_rfl)) .nil))) .nil)))) (s_nil B))))), fun h => Bool.noConfusion (show false = true from h)⟩
theorem ok_37 : DfOk pt d37 := ⟨⟨rfl, rfl, rfl, by decide +kernel, rfl, by decide +kernel, by decide +kernel⟩, fun _ _ _ _ _ _ us hl => match us, hl with | [_, _, _, _], _ => rfl, fun _ Y Γ k X W Ow0 fr hfr F CS M Z => by
  obtain rfl : fr = false := not_fr rfl hfr
  have E : En pt Y Γ k d37.N X W d37.scope := ⟨F, M⟩
  have B : Eb pt Y Γ k d37.N X W d37.scope Ow0 false := ⟨E, CS⟩
  show JSs X B.w d37.body (m_turned Γ (Γ.call 34) (Γ.call 20) (Γ.call 35)); delta m_turned
  exact s_cons B (s_nm B (i := 4) (by kernel_rfl) rfl (r_call E 34 at_34 rfl (by kernel_rfl) (by kernel_rfl) rfl (.cons rfl (r_v E (i := 1) (by kernel_rfl)) (.cons rfl (r_call E 20 at_20 rfl (by kernel_rfl) (by kernel_rfl) rfl (.cons rfl (r_v E (i := 0) (by kernel_rfl)) (.cons rfl (r_bi E .tuple rfl (by kernel_rfl) (by kernel_rfl) rfl (.cons rfl (r_v E (i := 1) (by kernel_rfl)) .nil)) .nil))) .nil)))) (s_cons B (s_if B (r_cmp E (op := .is) rfl rfl (r_v E (i := 4) (by kernel_rfl)) (r_k E (by rfl))) (s_cons B (s_ret B rfl (r_k E (by rfl))) (s_nil B)) (s_nil B)) (s_cons B (s_nm B (i := 5) (by kernel_rfl) rfl (r_bi E .tuple rfl (by kernel_rfl) (by kernel_rfl) rfl (.cons rfl (r_lc E (lc_ok E (rI := true) (own := [("_law_at", 7), ("_law_number_here", 8), ("_law_score", 9)]) (p := .tp [.nm 7, .nm 8, .nm 9]) rfl (by kernel_rfl) (by kernel_rfl) (i_of E (r_v E (i := 4) (by kernel_rfl))) (fun _ E' hfE' => p_tp E' rfl rfl (pts_cons rfl (p_nm E' (by kernel_rfl)) (pts_cons rfl (p_nm E' (by kernel_rfl)) (pts_cons rfl (p_nm E' (by kernel_rfl)) pts_nil)))) (fun _ E' => .nil) (fun _ E' => r_tup E' (by kernel_rfl) (.cons rfl (r_ix E' rfl (r_ix E' rfl (r_v E' (i := 2) (by kernel_rfl)) (r_v E' (i := 7) (by kernel_rfl))) (r_k E' (by rfl))) (.cons rfl (r_v E' (i := 8) (by kernel_rfl)) (.cons rfl (r_op E' (op := .sub) rfl (r_v E' (i := 3) (by kernel_rfl)) (r_v E' (i := 9) (by kernel_rfl))) .nil)))))) .nil))) (s_cons B (s_nm B (i := 6) (by kernel_rfl) rfl (r_call E 34 at_34 rfl (by kernel_rfl) (by kernel_rfl) rfl (.cons rfl (r_v E (i := 2) (by kernel_rfl)) (.cons rfl (r_v E (i := 5) (by kernel_rfl)) .nil)))) (s_cons B (s_ret B rfl (r_and E rfl (.cons rfl (r_cmp E (op := .isnot) rfl rfl (r_v E (i := 6) (by kernel_rfl)) (r_k E (by rfl))) (.cons rfl (r_call E 35 at_35 rfl (by kernel_rfl) (by kernel_rfl) rfl (.cons rfl (r_v E (i := 0) (by kernel_rfl)) (.cons rfl (r_v E (i := 6) (by kernel_rfl)) .nil))) .nil)))) (s_nil B))))), fun h => Bool.noConfusion (show false = true from h)⟩
theorem ok_38 : DfOk pt d38 := ⟨⟨rfl, rfl, rfl, by decide +kernel, rfl, by decide +kernel, by decide +kernel⟩, fun _ _ _ _ _ _ us hl => match us, hl with | [_], _ => rfl, fun _ Y Γ k X W Ow0 fr hfr F CS M Z => by
  obtain rfl : fr = false := not_fr rfl hfr
  have E : En pt Y Γ k d38.N X W d38.scope := ⟨F, M⟩
  have B : Eb pt Y Γ k d38.N X W d38.scope Ow0 false := ⟨E, CS⟩
  show JSs X B.w d38.body (m_right_k51 Γ (Γ.call 22) (Γ.call 33) (Γ.call 30) (Γ.call 23) (Γ.call 19) (Γ.call 36) (Γ.call 37)); delta m_right_k51
  exact s_cons B (s_nm B (i := 1) (by kernel_rfl) rfl (r_op E (op := .add) rfl (r_k E (by rfl)) (r_call E 22 at_22 rfl (by kernel_rfl) (by kernel_rfl) rfl (.cons rfl (r_v E (i := 0) (by kernel_rfl)) (.cons rfl (r_k E (by rfl)) .nil))))) (s_cons B (s_nm B (i := 2) (by kernel_rfl) rfl (r_call E 33 at_33 rfl (by kernel_rfl) (by kernel_rfl) rfl (.cons rfl (r_v E (i := 0) (by kernel_rfl)) (.cons rfl (r_call E 30 at_30 rfl (by kernel_rfl) (by kernel_rfl) rfl (.cons rfl (r_v E (i := 0) (by kernel_rfl)) (.cons rfl (r_v E (i := 1) (by kernel_rfl)) (.cons rfl (r_k E (by rfl)) .nil)))) .nil)))) (s_cons B (s_nm B (i := 3) (by kernel_rfl) rfl (r_op E (op := .mul) rfl (r_v E (i := 1) (by kernel_rfl)) (r_op E (op := .sub) rfl (r_bi E .sum rfl (by kernel_rfl) (by kernel_rfl) rfl (.cons rfl (r_lc E (lc_ok E (rI := true) (own := [("_law_row", 7)]) (p := .nm 7) rfl (by kernel_rfl) (by kernel_rfl) (i_of E (r_v E (i := 2) (by kernel_rfl))) (fun _ E' hfE' => p_nm E' (by kernel_rfl)) (fun _ E' => .nil) (fun _ E' => r_ix E' rfl (r_v E' (i := 7) (by kernel_rfl)) (r_k E' (by rfl))))) .nil)) (r_k E (by rfl))))) (s_cons B (s_nmC B (i := 2) (by kernel_rfl) (by kernel_rfl) (r_lc E (lc_ok E (rI := true) (own := [("_law_row", 7)]) (p := .nm 7) rfl (by kernel_rfl) (by kernel_rfl) (i_of E (r_v E (i := 2) (by kernel_rfl))) (fun _ E' hfE' => p_nm E' (by kernel_rfl)) (fun _ E' => .nil) (fun _ E' => r_tup E' (by kernel_rfl) (.cons rfl (r_ix E' rfl (r_v E' (i := 7) (by kernel_rfl)) (r_k E' (by rfl))) (.cons rfl (r_ix E' rfl (r_v E' (i := 7) (by kernel_rfl)) (r_k E' (by rfl))) (.cons rfl (r_bi E' .min rfl (by kernel_rfl) (by kernel_rfl) rfl (.cons rfl (r_v E' (i := 3) (by kernel_rfl)) (.cons rfl (r_ix E' rfl (r_v E' (i := 7) (by kernel_rfl)) (r_k E' (by rfl))) .nil))) (.cons rfl (r_bi E' .min rfl (by kernel_rfl) (by kernel_rfl) rfl (.cons rfl (r_v E' (i := 3) (by kernel_rfl)) (.cons rfl (r_ix E' rfl (r_v E' (i := 7) (by kernel_rfl)) (r_k E' (by rfl))) .nil))) .nil)))))))) (s_cons B (s_nm B (i := 4) (by kernel_rfl) rfl (r_call E 23 at_23 rfl (by kernel_rfl) (by kernel_rfl) rfl (.cons rfl (r_v E (i := 0) (by kernel_rfl)) (.cons rfl (r_bi E .len rfl (by kernel_rfl) (by kernel_rfl) rfl (.cons rfl (r_v E (i := 2) (by kernel_rfl)) .nil)) .nil)))) (s_cons B (s_lcN B (i := 5) (by kernel_rfl) (by kernel_rfl) rfl (lc_ok E (rI := true) (own := [("_law_k", 8)]) (p := .nm 8) rfl (by kernel_rfl) (by kernel_rfl) (i_rng1 E (by kernel_rfl) (by kernel_rfl) rfl (r_bi E .len rfl (by kernel_rfl) (by kernel_rfl) rfl (.cons rfl (r_v E (i := 2) (by kernel_rfl)) .nil))) (fun _ E' hfE' => p_nm E' (by kernel_rfl)) (fun _ E' => .nil) (fun _ E' => r_tup E' (by kernel_rfl) (.cons rfl (r_ix E' rfl (r_v E' (i := 4) (by kernel_rfl)) (r_v E' (i := 8) (by kernel_rfl))) (.cons rfl (r_ix E' rfl (r_ix E' rfl (r_v E' (i := 2) (by kernel_rfl)) (r_v E' (i := 8) (by kernel_rfl))) (r_k E' (by rfl))) (.cons rfl (r_op E' (op := .sub) rfl (r_v E' (i := 3) (by kernel_rfl)) (r_ix E' rfl (r_ix E' rfl (r_v E' (i := 2) (by kernel_rfl)) (r_v E' (i := 8) (by kernel_rfl))) (r_k E' (by rfl)))) (.cons rfl (r_op E' (op := .sub) rfl (r_v E' (i := 3) (by kernel_rfl)) (r_ix E' rfl (r_ix E' rfl (r_v E' (i := 2) (by kernel_rfl)) (r_v E' (i := 8) (by kernel_rfl))) (r_k E' (by rfl)))) .nil))))))) (s_cons B (s_nm B (i := 6) (by kernel_rfl) rfl (r_call E 19 at_19 rfl (by kernel_rfl) (by kernel_rfl) rfl (.cons rfl (r_v E (i := 1) (by kernel_rfl)) (.cons rfl (r_bi E .tuple rfl (by kernel_rfl) (by kernel_rfl) rfl (.cons rfl (r_v E (i := 2) (by kernel_rfl)) .nil)) .nil)))) (s_cons B (s_if B (r_or E rfl (.cons rfl (r_cmp E (op := .nmem) rfl rfl (r_repr E (by kernel_rfl) (by kernel_rfl) rfl (.cons rfl (r_v E (i := 6) (by kernel_rfl)) .nil)) (r_lst E (by kernel_rfl) (.cons rfl (r_k E (by kernel_rfl)) (.cons rfl (r_k E (by kernel_rfl)) .nil)))) (.cons rfl (r_no E (r_call E 36 at_36 rfl (by kernel_rfl) (by kernel_rfl) rfl (.cons rfl (r_v E (i := 1) (by kernel_rfl)) (.cons rfl (r_v E (i := 2) (by kernel_rfl)) (.cons rfl (r_v E (i := 6) (by kernel_rfl)) .nil))))) .nil))) (s_cons B (s_ret B rfl (r_k E (by rfl))) (s_nil B)) (s_nil B)) (s_cons B (s_if B (r_no E (r_call E 36 at_36 rfl (by kernel_rfl) (by kernel_rfl) rfl (.cons rfl (r_v E (i := 1) (by kernel_rfl)) (.cons rfl (r_v E (i := 5) (by kernel_rfl)) (.cons rfl (r_v E (i := 6) (by kernel_rfl)) .nil))))) (s_cons B (s_ret B rfl (r_k E (by rfl))) (s_nil B)) (s_nil B)) (s_cons B (s_ret B rfl (r_or E rfl (.cons rfl (r_no E (r_v E (i := 6) (by kernel_rfl))) (.cons rfl (r_and E rfl (.cons rfl (r_call E 37 at_37 rfl (by kernel_rfl) (by kernel_rfl) rfl (.cons rfl (r_v E (i := 1) (by kernel_rfl)) (.cons rfl (r_v E (i := 2) (by kernel_rfl)) (.cons rfl (r_v E (i := 5) (by kernel_rfl)) (.cons rfl (r_v E (i := 3) (by kernel_rfl)) .nil))))) (.cons rfl (r_call E 37 at_37 rfl (by kernel_rfl) (by kernel_rfl) rfl (.cons rfl (r_v E (i := 1) (by kernel_rfl)) (.cons rfl (r_v E (i := 5) (by kernel_rfl)) (.cons rfl (r_v E (i := 2) (by kernel_rfl)) (.cons rfl (r_v E (i := 3) (by kernel_rfl)) .nil))))) .nil))) .nil)))) (s_nil B)))))))))), fun h => Bool.noConfusion (show false = true from h)⟩
theorem ok_39 : DfOk pt d39 := ⟨⟨rfl, rfl, rfl, by decide +kernel, rfl, by decide +kernel, by decide +kernel⟩, fun _ _ _ _ _ _ us hl => match us, hl with | [_], _ => rfl, fun _ Y Γ k X W Ow0 fr hfr F CS M Z => by
  obtain rfl : fr = false := not_fr rfl hfr
  have E : En pt Y Γ k d39.N X W d39.scope := ⟨F, M⟩
  have B : Eb pt Y Γ k d39.N X W d39.scope Ow0 false := ⟨E, CS⟩
  show JSs X B.w d39.body (m_law_k08 Γ (Γ.call 38) (Γ.call 21)); delta m_law_k08
  exact s_cons B (s_for B rfl (i_rng1 E (by kernel_rfl) (by kernel_rfl) rfl (r_bi E .max rfl (by kernel_rfl) (by kernel_rfl) rfl (.cons rfl (r_k E (by rfl)) (.cons rfl (r_bi E .min rfl (by kernel_rfl) (by kernel_rfl) rfl (.cons rfl (r_bi E .len rfl (by kernel_rfl) (by kernel_rfl) rfl (.cons rfl (r_v E (i := 0) (by kernel_rfl)) .nil)) (.cons rfl (r_k E (by rfl)) .nil))) .nil)))) (p_nmB B (by kernel_rfl)) (s_cons B (s_if B (r_no E (r_call E 38 at_38 rfl (by kernel_rfl) (by kernel_rfl) rfl (.cons rfl (r_call E 21 at_21 rfl (by kernel_rfl) (by kernel_rfl) rfl (.cons rfl (r_v E (i := 0) (by kernel_rfl)) (.cons rfl (r_v E (i := 1) (by kernel_rfl)) .nil))) .nil))) (s_cons B (s_ret B rfl (r_k E (by rfl))) (s_nil B)) (s_nil B)) (s_nil B))) (s_cons B (s_ret B rfl (r_k E (by rfl))) (s_nil B)), fun h => Bool.noConfusion (show false = true from h)⟩
theorem ok_all : ∀ d ∈ pt.defs, DfOk pt d := al_cons ok_0 (al_cons ok_1 (al_cons ok_2 (al_cons ok_3 (al_cons ok_4 (al_cons ok_5 (al_cons ok_6 (al_cons ok_7 (al_cons ok_8 (al_cons ok_9 (al_cons ok_10 (al_cons ok_11 (al_cons ok_12 (al_cons ok_13 (al_cons ok_14 (al_cons ok_15 (al_cons ok_16 (al_cons ok_17 (al_cons ok_18 (al_cons ok_19 (al_cons ok_20 (al_cons ok_21 (al_cons ok_22 (al_cons ok_23 (al_cons ok_24 (al_cons ok_25 (al_cons ok_26 (al_cons ok_27 (al_cons ok_28 (al_cons ok_29 (al_cons ok_30 (al_cons ok_31 (al_cons ok_32 (al_cons ok_33 (al_cons ok_34 (al_cons ok_35 (al_cons ok_36 (al_cons ok_37 (al_cons ok_38 (al_cons ok_39 al_nil)))))))))))))))))))))))))))))))))))))))
theorem xok : XOk pt := (al_cons (fun f hf => by cases hf; exact ⟨_, _, _, _, _, _, _, at_0, rfl, rfl, ok_0.sc, by decide, by decide, by decide, by decide⟩) (al_cons (fun f hf => by cases hf; exact ⟨_, _, _, _, _, _, _, at_1, rfl, rfl, ok_1.sc, by decide, by decide, by decide, by decide⟩) al_nil))
abbrev RR : PySem.W.OpenRow := PySem.W.OpenLaw.row PySem.Challenge.rw_scorelists_k51_whole_ranges_mirrored
def ob (s : PySem.W.SharedT) : AlP := obsPG 5 pt (HandSHeadRun.getT s)
theorem ob_eq (s : PySem.W.SharedT) : ob s = (hookP 5 pt).obs s.abs := obsPG_eq (HandSHeadRun.getT_eq s)
def loose : List PySem.Str := (["WrongValue", "InvalidNumber", "InvalidRows", "MOST_POINTS", "MOST_KINDS", "MOST_PLAYERS", "MOST_SCORE", "LETTERS", "DIGITS", "LONGEST_NAME", "is_integer", "is_within", "is_name", "check_points", "own_points", "ladders", "lack_of", "spare_of", "is_possible", "is_loose_row", "wrong_loose_row", "check_loose_rows", "level", "total_at", "last_level", "levelled", "filled_rows", "loose_possible", "filled", "_law_well"] : List PySem.Str) ++ (["_law_dip", "_law_names", "_law_mixed", "_law_number", "_law_some", "_law_fair", "_law_tower", "_law_bent", "_law_great", "_law_own", "_law_within", "_law_loosened", "_law_shaped", "_law_enough", "_law_filling", "_law_turned", "_law_right"] : List PySem.Str)
theorem run (w : World) : HandSHeadRun.RunEq RR (PySem.W.view RR.prog [52]) (hookP 5 pt) ob 6000 loose w := by
  intro os
  kernel_rfl
end K51
open PySem PySem.W PySem.Calls PyProof.Rows
theorem PySem.Challenge.cw_scorelists_k51_whole_ranges_mirrored_holds : PySem.Challenge.rw_scorelists_k51_whole_ranges_mirrored.Holds := by
  w_on; o_law
  refine HandSHeadRun.head_any (r := OpenLaw.row PySem.Challenge.rw_scorelists_k51_whole_ranges_mirrored) (q := view (OpenLaw.row PySem.Challenge.rw_scorelists_k51_whole_ranges_mirrored).prog [52]) (H := G.hookP 5 K51.pt) (ob := K51.ob) (M := 6000) (loose := K51.loose) (d := HandSHeadRun.topDef (OpenLaw.row PySem.Challenge.rw_scorelists_k51_whole_ranges_mirrored).prog 52) (kwd := []) K51.ob_eq
    (by kernel_rfl) (fun s => by kernel_rfl) K51.run (by kernel_rfl) (by kernel_rfl) (by kernel_rfl) (by rfl) (by first | assumption | decide +kernel) (by decide +kernel) ⟨rfl, rfl, rfl, rfl, rfl, by decide +kernel⟩ ?hw ?hc
  case hw => w_witness2
  case hc => exact G.law_glue (l := PySem.Challenge.rw_scorelists_k51_whole_ranges_mirrored) (pt := K51.pt) (n := 40) (iL := 39) (k := 0) (x := "_law_script") rfl (by kernel_rfl) ⟨rfl, by decide +kernel, by decide +kernel⟩ K51.at_39 (by rfl) rfl K51.ok_all K51.xok K51.law_true
